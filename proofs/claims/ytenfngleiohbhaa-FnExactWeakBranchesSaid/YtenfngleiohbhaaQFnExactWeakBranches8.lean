/- Written by a program of this session (wip/p2) out of the translation: plain Lean functions, and that the calls of the Go functions come to what these say. Conditions: as each contract states. -/
import Derived.Test.YtenfngleiohbhaaQFnExactWeakBranches7
namespace Go.Proofs.Ytenfngleiohbhaa.P
open Go.RowKit Go.Proofs.Ytenfngleiohbhaa Go.Proofs.YtenfngleiohbhaaW.PrintWords Go.Proofs.YtenfngleiohbhaaW.PrintLast Go.Proofs.YtenfngleiohbhaaW.PrintMore
attribute [local go_sem] max2_int min2_int max_two min_two max_three min_three max_four min_four   -- for this text's walks alone
set_option linter.unusedVariables false
set_option linter.unusedSimpArgs false

/-! ### spec_WeakBranches: function 44 -/
mutual
def spec_WeakBranches.j0 : Nat → List (S45) → Int → Bool → Option (List Int × Bool)
  | 0, _, _, _ => none
  | k + 1, x0, x1, x17 => if x17 = true then (some (([] : List Int), false)) else ((spec_liLosses.f k x0).bind fun t725 => (spec_WeakBranches.l0 k x0 x1 t725 ([] : List Int) x0 (x0.length : Int) 0))
def spec_WeakBranches.l0 : Nat → List (S45) → Int → List Int → List Int → List (S45) → Int → Int → Option (List Int × Bool)
  | 0, _, _, _, _, _, _, _ => none
  | k + 1, x0, x1, x6, x7, x20, x21, x22 => if x22 < x21 then (if 0 ≤ x22 then (if x22 < (x20.length : Int) then (if ((rd_T45 x20 x22).f3) > 0 then ((spec_liNeeds.f k x0 x6 x22).bind fun t730 => (if t730 > x1 then (if x7.length < 17592186044416 then (spec_WeakBranches.l0 k x0 x1 x6 (x7 ++ [x22]) x20 x21 (wrap64 (x22 + 1))) else (none)) else (spec_WeakBranches.l0 k x0 x1 x6 x7 x20 x21 (wrap64 (x22 + 1))))) else (spec_WeakBranches.l0 k x0 x1 x6 x7 x20 x21 (wrap64 (x22 + 1)))) else (none)) else (none)) else (some (x7, true))
end
def spec_WeakBranches.f (k : Nat) (l0 : List (S45)) (a1 : Int) : Option (List Int × Bool) := (spec_liGood.f k l0).bind fun t723 => (if t723 = true then ((spec_hoPressure.f a1).bind fun t724 => (spec_WeakBranches.j0 k l0 a1 (!t724))) else (spec_WeakBranches.j0 k l0 a1 true))
theorem spec_WeakBranches.mono_l : ∀ k, (∀ y0 y1 y2, LeO (spec_WeakBranches.j0 k y0 y1 y2) (spec_WeakBranches.j0 (k + 1) y0 y1 y2)) ∧ (∀ y0 y1 y2 y3 y4 y5 y6, LeO (spec_WeakBranches.l0 k y0 y1 y2 y3 y4 y5 y6) (spec_WeakBranches.l0 (k + 1) y0 y1 y2 y3 y4 y5 y6))
 | 0 => ⟨fun _ _ _ r h => by simp [spec_WeakBranches.j0] at h, fun _ _ _ _ _ _ _ r h => by simp [spec_WeakBranches.l0] at h⟩
 | k + 1 => by
  obtain ⟨ih0, ih1⟩ := spec_WeakBranches.mono_l k
  refine ⟨?_, ?_⟩
  · intro y0 y1 y2
    unfold spec_WeakBranches.j0
    repeat' first
    | (with_reducible exact ih0 _ _ _)
    | (with_reducible exact ih1 _ _ _ _ _ _ _)
    | (with_reducible exact spec_liGood.mono _ _)
    | (with_reducible exact spec_liLosses.mono _ _)
    | (with_reducible exact spec_liNeeds.mono _ _ _ _)
    | (with_reducible exact LeO.refl _)
    | (with_reducible exact LeO.none _)
    | (with_reducible refine LeO.ite ?_ ?_)
    | (with_reducible refine LeO.bind ?_ (fun _ => ?_))
    | exact ih0 _ _ _
    | exact ih1 _ _ _ _ _ _ _
    | exact spec_liGood.mono _ _
    | exact spec_liLosses.mono _ _
    | exact spec_liNeeds.mono _ _ _ _
    | exact LeO.none _
    | refine LeO.ite ?_ ?_
    | refine LeO.bind ?_ (fun _ => ?_)
  · intro y0 y1 y2 y3 y4 y5 y6
    unfold spec_WeakBranches.l0
    repeat' first
    | (with_reducible exact ih0 _ _ _)
    | (with_reducible exact ih1 _ _ _ _ _ _ _)
    | (with_reducible exact spec_liGood.mono _ _)
    | (with_reducible exact spec_liLosses.mono _ _)
    | (with_reducible exact spec_liNeeds.mono _ _ _ _)
    | (with_reducible exact LeO.refl _)
    | (with_reducible exact LeO.none _)
    | (with_reducible refine LeO.ite ?_ ?_)
    | (with_reducible refine LeO.bind ?_ (fun _ => ?_))
    | exact ih0 _ _ _
    | exact ih1 _ _ _ _ _ _ _
    | exact spec_liGood.mono _ _
    | exact spec_liLosses.mono _ _
    | exact spec_liNeeds.mono _ _ _ _
    | exact LeO.none _
    | refine LeO.ite ?_ ?_
    | refine LeO.bind ?_ (fun _ => ?_)
theorem spec_WeakBranches.mono : ∀ a0 a1 k, LeO (spec_WeakBranches.f k a0 a1) (spec_WeakBranches.f (k + 1) a0 a1) := by
 intro a0 a1 k
 obtain ⟨ih0, ih1⟩ := spec_WeakBranches.mono_l k
 unfold spec_WeakBranches.f
 repeat' first
  | (with_reducible exact ih0 _ _ _)
  | (with_reducible exact ih1 _ _ _ _ _ _ _)
  | (with_reducible exact spec_liGood.mono _ _)
  | (with_reducible exact spec_liLosses.mono _ _)
  | (with_reducible exact spec_liNeeds.mono _ _ _ _)
  | (with_reducible exact LeO.refl _)
  | (with_reducible exact LeO.none _)
  | (with_reducible refine LeO.ite ?_ ?_)
  | (with_reducible refine LeO.bind ?_ (fun _ => ?_))
  | exact ih0 _ _ _
  | exact ih1 _ _ _ _ _ _ _
  | exact spec_liGood.mono _ _
  | exact spec_liLosses.mono _ _
  | exact spec_liNeeds.mono _ _ _ _
  | exact LeO.none _
  | refine LeO.ite ?_ ?_
  | refine LeO.bind ?_ (fun _ => ?_)
set_option maxHeartbeats 8000000 in
set_option maxRecDepth 100000 in
theorem spec_WeakBranches.calls (k : Nat) (A0 : Option Addr) (c0 : Nat) (l0 : List (S45)) (a1 : Int) (r1 : List Int) (r2 : Bool) (w : World) (hr0 : Kd.C k45 w A0 l0.length l0) (hc0 : l0.length ≤ c0) (h : spec_WeakBranches.f k l0 a1 = some (r1, r2)) :
  Calls Try.prog 44 #[.slice A0 l0.length c0, .int .i64 a1] w fun e w' => ∃ v0_ : Value, e = .returned (.tuple #[v0_, .bool r2]) ∧ Kd.R (Kd.int .i64) 3 w' w.heap.size (fun _ => True) v0_ r1 ∧ Below w.heap.size w w' := by
 have hu45 := Try.underlying45
 have HR0 := Aside0.mk hr0
 have HC0 := Aside0.mk hc0
 clear hr0 hc0
 have HB := Aside0.mk (Below.refl w.heap.size w)
 have H : ((spec_liGood.f k l0).bind fun t723 => (if t723 = true then ((spec_hoPressure.f a1).bind fun t724 => (spec_WeakBranches.j0 k l0 a1 (!t724))) else (spec_WeakBranches.j0 k l0 a1 true))) = some (r1, r2) := h
 clear h
 have HC3 := Aside0.mk H
 clear H
 go_enter Try.func44, Try.ntmps44
 go_upto_region 1 with (fail)
 go_cut [17] (fun v17 wc => ∃ (kq : Nat) (x17_2 : Bool), v17 = .bool x17_2 ∧ Aside0 (spec_WeakBranches.j0 kq l0 a1 x17_2 = some (r1, r2)) ∧ Aside0 (kq ≤ k) ∧ Aside0 (Below w.heap.size w wc))
 case first =>
  have H := HC3.out
  clear HC3
  replace H := Option.bind_eq_some_iff.mp H
  obtain ⟨t723, A40, H⟩ := H
  replace H : (if t723 = true then ((spec_hoPressure.f a1).bind fun t724 => (spec_WeakBranches.j0 k l0 a1 (!t724))) else (spec_WeakBranches.j0 k l0 a1 true)) = some (r1, r2) := H
  have A4 := Aside0.mk A40
  clear A40
  by_cases c5 : t723 = true
  case neg =>
   replace c5 := Bool.eq_false_iff.mpr c5
   subst c5
   have H1 : (spec_WeakBranches.j0 k l0 a1 true) = some (r1, r2) := by rw [if_neg (show ¬ (false = true) by decide)] at H; exact H
   clear H
   have H := H1
   clear H1
   have H' := Aside0.mk H
   clear H
   go_wp2_with (first | ((with_reducible refine gate_callee (f := 51) rfl ?_); refine goesL_ (some 11) rfl rfl Try.func51 (by kernel_rfl) rfl #[.slice A0 l0.length c0] rfl (by (try simp only [List.map_toArray, List.map_cons, List.map_nil]); first | done | rfl) ?_; (with_reducible refine (spec_liGood.calls k _ _ l0 false _ ?side1 ?side2 A4.out).mono ?_); (case side1 => repeat (first | exact (Kd.C_below HR0.out HB.out) | (with_reducible refine Kd.C_alloc ?_ _) | (with_reducible refine Kd.C_drewN ?_ _) | (with_reducible refine Kd.C_drew ?_))); (case side2 => exact HC0.out); rintro e w8 ⟨rfl, hb⟩; refine ⟨_, rfl, ?_⟩; have n0_ := Aside0.mk (below_step (by repeat (first | (with_reducible first | exact HB.out | apply bA_ | apply bN_ | apply b1_) | exact HB.out)) hb); clear HB; have HB := n0_; clear n0_; (try clear hb); (try clear hb2); (try clear hk); (try clear hi)))
   go_meet
   case rel => exact ⟨_, (true), (by first | rfl | (simp; done) | (simp [*]; done)), H', ⟨by first | omega | exact Nat.le_refl _⟩, ⟨by repeat (first | (with_reducible first | exact HB.out | apply bA_ | apply bN_ | apply b1_) | exact HB.out)⟩⟩
  subst c5
  have H1 : ((spec_hoPressure.f a1).bind fun t724 => (spec_WeakBranches.j0 k l0 a1 (!t724))) = some (r1, r2) := by rw [if_pos rfl] at H; exact H
  clear H
  have H := H1
  clear H1
  replace H := Option.bind_eq_some_iff.mp H
  obtain ⟨t724, A60, H⟩ := H
  replace H : (spec_WeakBranches.j0 k l0 a1 (!t724)) = some (r1, r2) := H
  have A6 := Aside0.mk A60
  clear A60
  have H' := Aside0.mk H
  clear H
  go_wp2_with (first | ((with_reducible refine gate_callee (f := 51) rfl ?_); refine goesL_ (some 11) rfl rfl Try.func51 (by kernel_rfl) rfl #[.slice A0 l0.length c0] rfl (by (try simp only [List.map_toArray, List.map_cons, List.map_nil]); first | done | rfl) ?_; (with_reducible refine (spec_liGood.calls k _ _ l0 true _ ?side1 ?side2 A4.out).mono ?_); (case side1 => repeat (first | exact (Kd.C_below HR0.out HB.out) | (with_reducible refine Kd.C_alloc ?_ _) | (with_reducible refine Kd.C_drewN ?_ _) | (with_reducible refine Kd.C_drew ?_))); (case side2 => exact HC0.out); rintro e w7 ⟨rfl, hb⟩; refine ⟨_, rfl, ?_⟩; have n0_ := Aside0.mk (below_step (by repeat (first | (with_reducible first | exact HB.out | apply bA_ | apply bN_ | apply b1_) | exact HB.out)) hb); clear HB; have HB := n0_; clear n0_; (try clear hb); (try clear hb2); (try clear hk); (try clear hi)) | (go_at_call 65; (with_reducible refine (spec_hoPressure.calls a1 t724 _ A6.out).mono ?_); rintro e w' ⟨rfl, ⟨nd, rfl⟩⟩))
  go_meet
  case rel => exact ⟨_, (!t724), (by first | rfl | (simp; done) | (simp [*]; done)), H', ⟨by first | omega | exact Nat.le_refl _⟩, ⟨by repeat (first | (with_reducible first | exact HB.out | apply bA_ | apply bN_ | apply b1_) | exact HB.out)⟩⟩
 case rest =>
  clear HC3
  try clear p2
  try clear c4
  try clear c5
  obtain ⟨kq, x17_2, rfl, HA, HJ2, HB⟩ := hcut
  cases kq with
  | zero => exact absurd HA.out (by simp [spec_WeakBranches.j0])
  | succ kj2 =>
   have H := HA.out
   clear HA
   simp only [spec_WeakBranches.j0] at H
   by_cases c9 : x17_2 = true
   case neg =>
    replace c9 := Bool.eq_false_iff.mpr c9
    subst c9
    have H1 : ((spec_liLosses.f kj2 l0).bind fun t725 => (spec_WeakBranches.l0 kj2 l0 a1 t725 ([] : List Int) l0 (l0.length : Int) 0)) = some (r1, r2) := by rw [if_neg (show ¬ (false = true) by decide)] at H; exact H
    clear H
    have H := H1
    clear H1
    replace H := Option.bind_eq_some_iff.mp H
    obtain ⟨t725, A100, H⟩ := H
    replace H : (spec_WeakBranches.l0 kj2 l0 a1 t725 ([] : List Int) l0 (l0.length : Int) 0) = some (r1, r2) := H
    have A10 := Aside0.mk A100
    clear A100
    have H' := Aside0.mk H
    clear H
    go_wp2_with (first | ((with_reducible refine gate_callee (f := 64) rfl ?_); refine goesL_ (some 19) rfl rfl Try.func64 (by kernel_rfl) rfl #[.slice A0 l0.length c0] rfl (by (try simp only [List.map_toArray, List.map_cons, List.map_nil]); first | done | rfl) ?_; (with_reducible refine (spec_liLosses.calls kj2 _ _ l0 t725 _ ?side1 ?side2 A10.out).mono ?_); (case side1 => repeat (first | exact (Kd.C_below HR0.out HB.out) | (with_reducible refine Kd.C_alloc ?_ _) | (with_reducible refine Kd.C_drewN ?_ _) | (with_reducible refine Kd.C_drew ?_))); (case side2 => exact HC0.out); rintro e w11 ⟨v726, rfl, ho0, hb⟩; refine ⟨_, rfl, ?_⟩; have n0_ := Aside0.mk (Kd.R_lower ho0 (below_size (by repeat (first | (with_reducible first | exact HB.out | apply bA_ | apply bN_ | apply b1_) | exact HB.out)))); have n1_ := Aside0.mk (below_step (by repeat (first | (with_reducible first | exact HB.out | apply bA_ | apply bN_ | apply b1_) | exact HB.out)) hb); clear HB; have HO727 := n0_; have HB := n1_; clear n0_ n1_; (try clear hb); (try clear hb2); (try clear hk); (try clear hi); (try clear ho0)))
    go_loopg [7, 22] kj2 (fun kq v7 v22 w' => ∃ (x7_2 : List Int) (x22_2 : Int), v22 = .int .i64 x22_2 ∧ Aside0 (spec_WeakBranches.l0 kq l0 a1 t725 x7_2 l0 (l0.length : Int) x22_2 = some (r1, r2)) ∧ Aside0 (kq ≤ kj2) ∧ Aside0 (Kd.R (Kd.int .i64) 3 w' w.heap.size (fun k_ => some k_ ≠ (v7 : Value).ownBlock) v726 t725) ∧ Aside0 (Kd.R (Kd.int .i64) 3 w' w.heap.size (fun k_ => some k_ ≠ (v726 : Value).ownBlock) v7 x7_2) ∧ Aside0 (Below w.heap.size w w'))
    case atStart => exact ⟨(([] : List Int)), (0), (by first | rfl | (simp; done) | (simp [*]; done)), H', ⟨Nat.le_refl _⟩, ⟨by (with_reducible repeat (first | apply Kd.R_alloc | apply Kd.R_drewN | apply Kd.R_drew)); exact Kd.R_mono HO727.out (fun _ hk => (by simp [Value.ownBlock]))⟩, ⟨by first | exact Kd.R_nil _ _ _ _ _ | exact Kd.N_nil _ _ _ _ _ | exact Kd.V_nil _ _ _ _ _ | exact Kd.Q_nil _ _ _ _ _ | exact Kd.S_nil _ _ _ _ _⟩, ⟨by repeat (first | (with_reducible first | exact HB.out | apply bA_ | apply bN_ | apply b1_) | exact HB.out)⟩⟩
    case round =>
     clear H'
     try clear p2
     try clear c4
     try clear c5
     try clear c6
     try clear c9
     try clear p2
     obtain ⟨x7_2, x22_2, rfl, HA, HK2, HO_6, HO_7, HB⟩ := hrel
     cases gk with
     | zero => exact absurd HA.out (by simp [spec_WeakBranches.l0])
     | succ k2 =>
      have H := HA.out
      clear HA
      simp only [spec_WeakBranches.l0] at H
      by_cases c12 : x22_2 < (l0.length : Int)
      case neg =>
       rw [if_neg c12] at H
       have c12b0 : decide (x22_2 < (l0.length : Int)) = false := decide_eq_false c12
       clear c12
       simp only [Option.some.injEq, Prod.mk.injEq] at H
       obtain ⟨rfl, rfl⟩ := H
       go_wp2
       go_ret2
       exact ⟨_, by first | rfl | (simp [errW_none, errW_some] <;> rfl) | (simp [*, errW_none, errW_some] <;> rfl), by (with_reducible repeat (first | apply Kd.R_alloc | apply Kd.R_drewN | apply Kd.R_drew)); exact Kd.R_mono HO_7.out (fun _ hk => trivial), by repeat (first | (with_reducible first | exact HB.out | apply bA_ | apply bN_ | apply b1_) | exact HB.out)⟩
      rw [if_pos c12] at H
      have c12b0 : decide (x22_2 < (l0.length : Int)) = true := decide_eq_true c12
      clear c12
      by_cases c13 : 0 ≤ x22_2
      case neg =>
       rw [if_neg c13] at H
       exact absurd H (by simp)
      rw [if_pos c13] at H
      have c13b0 : decide (0 ≤ x22_2) = true := decide_eq_true c13
      clear c13
      by_cases c14 : x22_2 < (l0.length : Int)
      case neg =>
       rw [if_neg c14] at H
       exact absurd H (by simp)
      rw [if_pos c14] at H
      have c14b0 : decide (x22_2 < (l0.length : Int)) = true := decide_eq_true c14
      clear c14
      by_cases c15 : ((rd_T45 l0 x22_2).f3) > 0
      case neg =>
       rw [if_neg c15] at H
       have c15b0 : decide (0 < ((rd_T45 l0 x22_2).f3)) = false := decide_eq_false c15
       clear c15
       have H' := Aside0.mk H
       clear H
       have p728 : 0 ≤ (x22_2 : Int) := of_decide_eq_true (by assumption)
       have q728 : x22_2 < (l0.length : Int) := of_decide_eq_true (by assumption)
       obtain ⟨ad728, e728, hx728_0, hx728_1, hx728_2, hx728_3, hx728_4, hx728_5⟩ := at_T45 HR0.out x22_2 p728 q728
       cases e728
       replace hx728_0 := cl_ HB.out hx728_0
       replace hx728_1 := cl_ HB.out hx728_1
       replace hx728_2 := cl_ HB.out hx728_2
       replace hx728_3 := cl_ HB.out hx728_3
       replace hx728_4 := cl_ HB.out hx728_4
       replace hx728_5 := cl_ HB.out hx728_5
       replace p728 := eq_true p728
       replace q728 := eq_true q728
       go_wp2_with (first | ((with_reducible refine gate_dst (N := 9) rfl ?_); refine box_event ?hg (N := 9) ?hd (cs := #[.int .i64 0, .int .i64 0, .int .i64 0, .int .i64 0, .int .i64 0, .int .i64 0]) (t := 45) ?hr ?_; (case hd => rfl); (case hg => rfl); (case hr => first | (go_simp; done) | (go_simp; rfl)); intro gb729 hg w26 hbox hb; have n0_ := Aside0.mk (Kd.R_below (by (with_reducible repeat (first | apply Kd.R_alloc | apply Kd.R_drewN | apply Kd.R_drew)); exact HO_6.out) hb); have n1_ := Aside0.mk (Kd.R_below (by (with_reducible repeat (first | apply Kd.R_alloc | apply Kd.R_drewN | apply Kd.R_drew)); exact HO_7.out) hb); have n2_ := Aside0.mk (below_step (by repeat (first | (with_reducible first | exact HB.out | apply bA_ | apply bN_ | apply b1_) | exact HB.out)) hb); have n3_ := Aside0.mk (hbox); have n4_ := Aside0.mk ((by rw [hg]; exact (below_size (by repeat (first | (with_reducible first | exact HB.out | apply bA_ | apply bN_ | apply b1_) | exact HB.out))) : w.heap.size ≤ gb729)); have n5_ := n4_; clear HO_6; clear HO_7; clear HB; have HO_6 := n0_; have HO_7 := n1_; have HB := n2_; have BK729 := n3_; have GW729 := n4_; have GE729 := n5_; clear n0_ n1_ n2_ n3_ n4_ n5_; clear hb hbox hg; obtain ⟨hcz27_0, hcz27_1, hcz27_2, hcz27_3, hcz27_4, hcz27_5, hfz27_0, hfz27_1, hfz27_2, hfz27_3, hfz27_4, hfz27_5⟩ := blk6_ BK729.out))
       go_roundg k2
       case measure => have := HJ2.out; have := HK2.out; omega
       case rel => exact ⟨(x7_2), (wrap64 (x22_2 + 1)), (by first | rfl | (simp; done) | (simp [*]; done)), H', ⟨by have := HJ2.out; have := HK2.out; omega⟩, ⟨by (with_reducible repeat (first | apply Kd.R_alloc | apply Kd.R_drewN | apply Kd.R_drew)); exact Kd.R_mono (Kd.R_far (p := ⟨gb729, 5, none⟩) (Kd.R_far (p := ⟨gb729, 4, none⟩) (Kd.R_far (p := ⟨gb729, 3, none⟩) (Kd.R_far (p := ⟨gb729, 2, none⟩) (Kd.R_far (p := ⟨gb729, 1, none⟩) (Kd.R_far (p := ⟨gb729, 0, none⟩) (Kd.R_types HO_6.out BK729.out (by decide)) (fun _ hk => hk.2) (.int .i64 ((rd_T45 l0 x22_2).f0))) (fun _ hk => hk.2) (.int .i64 ((rd_T45 l0 x22_2).f1.f0))) (fun _ hk => hk.2) (.int .i64 ((rd_T45 l0 x22_2).f1.f1))) (fun _ hk => hk.2) (.int .i64 ((rd_T45 l0 x22_2).f2))) (fun _ hk => hk.2) (.int .i64 ((rd_T45 l0 x22_2).f3))) (fun _ hk => hk.2) (.int .i64 ((rd_T45 l0 x22_2).f4))) (fun _ hk => hk.1)⟩, ⟨by (with_reducible repeat (first | apply Kd.R_alloc | apply Kd.R_drewN | apply Kd.R_drew)); exact Kd.R_mono (Kd.R_far (p := ⟨gb729, 5, none⟩) (Kd.R_far (p := ⟨gb729, 4, none⟩) (Kd.R_far (p := ⟨gb729, 3, none⟩) (Kd.R_far (p := ⟨gb729, 2, none⟩) (Kd.R_far (p := ⟨gb729, 1, none⟩) (Kd.R_far (p := ⟨gb729, 0, none⟩) (Kd.R_types HO_7.out BK729.out (by decide)) (fun _ hk => hk.2) (.int .i64 ((rd_T45 l0 x22_2).f0))) (fun _ hk => hk.2) (.int .i64 ((rd_T45 l0 x22_2).f1.f0))) (fun _ hk => hk.2) (.int .i64 ((rd_T45 l0 x22_2).f1.f1))) (fun _ hk => hk.2) (.int .i64 ((rd_T45 l0 x22_2).f2))) (fun _ hk => hk.2) (.int .i64 ((rd_T45 l0 x22_2).f3))) (fun _ hk => hk.2) (.int .i64 ((rd_T45 l0 x22_2).f4))) (fun _ hk => hk.1)⟩, ⟨by repeat (first | (with_reducible first | exact HB.out | apply bA_ | apply bN_ | apply b1_ | refine below_set ?_ GE729.out) | exact HB.out)⟩⟩
      rw [if_pos c15] at H
      have c15b0 : decide (0 < ((rd_T45 l0 x22_2).f3)) = true := decide_eq_true c15
      clear c15
      replace H := Option.bind_eq_some_iff.mp H
      obtain ⟨t730, A160, H⟩ := H
      replace H : (if t730 > a1 then (if x7_2.length < 17592186044416 then (spec_WeakBranches.l0 k2 l0 a1 t725 (x7_2 ++ [x22_2]) l0 (l0.length : Int) (wrap64 (x22_2 + 1))) else (none)) else (spec_WeakBranches.l0 k2 l0 a1 t725 x7_2 l0 (l0.length : Int) (wrap64 (x22_2 + 1)))) = some (r1, r2) := H
      have A16 := Aside0.mk A160
      clear A160
      by_cases c17 : t730 > a1
      case neg =>
       rw [if_neg c17] at H
       have c17b0 : decide (a1 < t730) = false := decide_eq_false c17
       clear c17
       have H' := Aside0.mk H
       clear H
       have p728 : 0 ≤ (x22_2 : Int) := of_decide_eq_true (by assumption)
       have q728 : x22_2 < (l0.length : Int) := of_decide_eq_true (by assumption)
       obtain ⟨ad728, e728, hx728_0, hx728_1, hx728_2, hx728_3, hx728_4, hx728_5⟩ := at_T45 HR0.out x22_2 p728 q728
       cases e728
       replace hx728_0 := cl_ HB.out hx728_0
       replace hx728_1 := cl_ HB.out hx728_1
       replace hx728_2 := cl_ HB.out hx728_2
       replace hx728_3 := cl_ HB.out hx728_3
       replace hx728_4 := cl_ HB.out hx728_4
       replace hx728_5 := cl_ HB.out hx728_5
       replace p728 := eq_true p728
       replace q728 := eq_true q728
       go_wp2_with (first | ((with_reducible refine gate_dst (N := 9) rfl ?_); refine box_event ?hg (N := 9) ?hd (cs := #[.int .i64 0, .int .i64 0, .int .i64 0, .int .i64 0, .int .i64 0, .int .i64 0]) (t := 45) ?hr ?_; (case hd => rfl); (case hg => rfl); (case hr => first | (go_simp; done) | (go_simp; rfl)); intro gb729 hg w23 hbox hb; have n0_ := Aside0.mk (Kd.R_below (by (with_reducible repeat (first | apply Kd.R_alloc | apply Kd.R_drewN | apply Kd.R_drew)); exact HO_6.out) hb); have n1_ := Aside0.mk (Kd.R_below (by (with_reducible repeat (first | apply Kd.R_alloc | apply Kd.R_drewN | apply Kd.R_drew)); exact HO_7.out) hb); have n2_ := Aside0.mk (below_step (by repeat (first | (with_reducible first | exact HB.out | apply bA_ | apply bN_ | apply b1_) | exact HB.out)) hb); have n3_ := Aside0.mk (hbox); have n4_ := Aside0.mk ((by rw [hg]; exact (below_size (by repeat (first | (with_reducible first | exact HB.out | apply bA_ | apply bN_ | apply b1_) | exact HB.out))) : w.heap.size ≤ gb729)); have n5_ := n4_; clear HO_6; clear HO_7; clear HB; have HO_6 := n0_; have HO_7 := n1_; have HB := n2_; have BK729 := n3_; have GW729 := n4_; have GE729 := n5_; clear n0_ n1_ n2_ n3_ n4_ n5_; clear hb hbox hg; obtain ⟨hcz24_0, hcz24_1, hcz24_2, hcz24_3, hcz24_4, hcz24_5, hfz24_0, hfz24_1, hfz24_2, hfz24_3, hfz24_4, hfz24_5⟩ := blk6_ BK729.out; obtain ⟨Ao25, co25, eo25⟩ := Kd.R_slice HO_6.out; subst eo25) | (go_at_call 63; (with_reducible refine (spec_liNeeds.calls k2 _ _ l0 _ _ t725 x22_2 t730 _ ?side1 ?side2 ?side3 ?side4 A16.out).mono ?_); (case side1 => exact Kd.C_below HR0.out (by repeat (first | (with_reducible first | exact HB.out | apply bA_ | apply bN_ | apply b1_ | refine below_set ?_ GE729.out) | exact HB.out))); (case side2 => exact HC0.out); (case side3 => refine (Kd.R_reads' (e := 3) (base := w.heap.size) (ok := fun k_ => some k_ ≠ (u7 : Value).ownBlock) (n := t725.length) (c := co25) ?_).2.2; exact (by (with_reducible repeat (first | apply Kd.R_alloc | apply Kd.R_drewN | apply Kd.R_drew)); exact (Kd.R_mono (Kd.R_far (p := ⟨gb729, 5, none⟩) (Kd.R_far (p := ⟨gb729, 4, none⟩) (Kd.R_far (p := ⟨gb729, 3, none⟩) (Kd.R_far (p := ⟨gb729, 2, none⟩) (Kd.R_far (p := ⟨gb729, 1, none⟩) (Kd.R_far (p := ⟨gb729, 0, none⟩) (Kd.R_types HO_6.out BK729.out (by decide)) (fun _ hk => hk.2) (.int .i64 ((rd_T45 l0 x22_2).f0))) (fun _ hk => hk.2) (.int .i64 ((rd_T45 l0 x22_2).f1.f0))) (fun _ hk => hk.2) (.int .i64 ((rd_T45 l0 x22_2).f1.f1))) (fun _ hk => hk.2) (.int .i64 ((rd_T45 l0 x22_2).f2))) (fun _ hk => hk.2) (.int .i64 ((rd_T45 l0 x22_2).f3))) (fun _ hk => hk.2) (.int .i64 ((rd_T45 l0 x22_2).f4))) (fun _ h_ => h_.1)))); (case side4 => exact (Kd.R_reads' HO_6.out).2.1); rintro e w' ⟨rfl, ⟨nd, rfl⟩⟩))
       go_roundg k2
       case measure => have := HJ2.out; have := HK2.out; omega
       case rel => exact ⟨(x7_2), (wrap64 (x22_2 + 1)), (by first | rfl | (simp; done) | (simp [*]; done)), H', ⟨by have := HJ2.out; have := HK2.out; omega⟩, ⟨by (with_reducible repeat (first | apply Kd.R_alloc | apply Kd.R_drewN | apply Kd.R_drew)); exact Kd.R_mono (Kd.R_far (p := ⟨gb729, 5, none⟩) (Kd.R_far (p := ⟨gb729, 4, none⟩) (Kd.R_far (p := ⟨gb729, 3, none⟩) (Kd.R_far (p := ⟨gb729, 2, none⟩) (Kd.R_far (p := ⟨gb729, 1, none⟩) (Kd.R_far (p := ⟨gb729, 0, none⟩) (Kd.R_types HO_6.out BK729.out (by decide)) (fun _ hk => hk.2) (.int .i64 ((rd_T45 l0 x22_2).f0))) (fun _ hk => hk.2) (.int .i64 ((rd_T45 l0 x22_2).f1.f0))) (fun _ hk => hk.2) (.int .i64 ((rd_T45 l0 x22_2).f1.f1))) (fun _ hk => hk.2) (.int .i64 ((rd_T45 l0 x22_2).f2))) (fun _ hk => hk.2) (.int .i64 ((rd_T45 l0 x22_2).f3))) (fun _ hk => hk.2) (.int .i64 ((rd_T45 l0 x22_2).f4))) (fun _ hk => hk.1)⟩, ⟨by (with_reducible repeat (first | apply Kd.R_alloc | apply Kd.R_drewN | apply Kd.R_drew)); exact Kd.R_mono (Kd.R_far (p := ⟨gb729, 5, none⟩) (Kd.R_far (p := ⟨gb729, 4, none⟩) (Kd.R_far (p := ⟨gb729, 3, none⟩) (Kd.R_far (p := ⟨gb729, 2, none⟩) (Kd.R_far (p := ⟨gb729, 1, none⟩) (Kd.R_far (p := ⟨gb729, 0, none⟩) (Kd.R_types HO_7.out BK729.out (by decide)) (fun _ hk => hk.2) (.int .i64 ((rd_T45 l0 x22_2).f0))) (fun _ hk => hk.2) (.int .i64 ((rd_T45 l0 x22_2).f1.f0))) (fun _ hk => hk.2) (.int .i64 ((rd_T45 l0 x22_2).f1.f1))) (fun _ hk => hk.2) (.int .i64 ((rd_T45 l0 x22_2).f2))) (fun _ hk => hk.2) (.int .i64 ((rd_T45 l0 x22_2).f3))) (fun _ hk => hk.2) (.int .i64 ((rd_T45 l0 x22_2).f4))) (fun _ hk => hk.1)⟩, ⟨by repeat (first | (with_reducible first | exact HB.out | apply bA_ | apply bN_ | apply b1_ | refine below_set ?_ GE729.out) | exact HB.out)⟩⟩
      rw [if_pos c17] at H
      have c17b0 : decide (a1 < t730) = true := decide_eq_true c17
      clear c17
      by_cases c18 : x7_2.length < 17592186044416
      case neg =>
       rw [if_neg c18] at H
       exact absurd H (by simp)
      rw [if_pos c18] at H
      have LMc18 := Aside0.mk c18
      clear c18
      obtain ⟨y731, hy731⟩ : ∃ y_ : List Int, y_ = (x7_2 ++ [x22_2]) := ⟨_, rfl⟩
      replace H : (spec_WeakBranches.l0 k2 l0 a1 t725 y731 l0 (l0.length : Int) (wrap64 (x22_2 + 1))) = some (r1, r2) := by first | (rw [hy731]; with_reducible exact H) | (have H2_ := (Option.bind_some _ _).symm.trans H; rw [hy731]; with_reducible exact H2_) | (have H2_ := (Option.bind_some _ _).symm.trans H; with_reducible exact H2_) | with_reducible exact H | (rw [hy731]; exact H) | exact H
      have Ny731 := Aside0.mk hy731
      clear hy731
      have H' := Aside0.mk H
      clear H
      have p728 : 0 ≤ (x22_2 : Int) := of_decide_eq_true (by assumption)
      have q728 : x22_2 < (l0.length : Int) := of_decide_eq_true (by assumption)
      obtain ⟨ad728, e728, hx728_0, hx728_1, hx728_2, hx728_3, hx728_4, hx728_5⟩ := at_T45 HR0.out x22_2 p728 q728
      cases e728
      replace hx728_0 := cl_ HB.out hx728_0
      replace hx728_1 := cl_ HB.out hx728_1
      replace hx728_2 := cl_ HB.out hx728_2
      replace hx728_3 := cl_ HB.out hx728_3
      replace hx728_4 := cl_ HB.out hx728_4
      replace hx728_5 := cl_ HB.out hx728_5
      replace p728 := eq_true p728
      replace q728 := eq_true q728
      go_wp2_with (first | ((with_reducible refine gate_dst (N := 9) rfl ?_); refine box_event ?hg (N := 9) ?hd (cs := #[.int .i64 0, .int .i64 0, .int .i64 0, .int .i64 0, .int .i64 0, .int .i64 0]) (t := 45) ?hr ?_; (case hd => rfl); (case hg => rfl); (case hr => first | (go_simp; done) | (go_simp; rfl)); intro gb729 hg w19 hbox hb; have n0_ := Aside0.mk (Kd.R_below (by (with_reducible repeat (first | apply Kd.R_alloc | apply Kd.R_drewN | apply Kd.R_drew)); exact HO_6.out) hb); have n1_ := Aside0.mk (Kd.R_below (by (with_reducible repeat (first | apply Kd.R_alloc | apply Kd.R_drewN | apply Kd.R_drew)); exact HO_7.out) hb); have n2_ := Aside0.mk (below_step (by repeat (first | (with_reducible first | exact HB.out | apply bA_ | apply bN_ | apply b1_) | exact HB.out)) hb); have n3_ := Aside0.mk (hbox); have n4_ := Aside0.mk ((by rw [hg]; exact (below_size (by repeat (first | (with_reducible first | exact HB.out | apply bA_ | apply bN_ | apply b1_) | exact HB.out))) : w.heap.size ≤ gb729)); have n5_ := n4_; clear HO_6; clear HO_7; clear HB; have HO_6 := n0_; have HO_7 := n1_; have HB := n2_; have BK729 := n3_; have GW729 := n4_; have GE729 := n5_; clear n0_ n1_ n2_ n3_ n4_ n5_; clear hb hbox hg; obtain ⟨hcz20_0, hcz20_1, hcz20_2, hcz20_3, hcz20_4, hcz20_5, hfz20_0, hfz20_1, hfz20_2, hfz20_3, hfz20_4, hfz20_5⟩ := blk6_ BK729.out; obtain ⟨Ao21, co21, eo21⟩ := Kd.R_slice HO_6.out; subst eo21) | (go_at_call 63; (with_reducible refine (spec_liNeeds.calls k2 _ _ l0 _ _ t725 x22_2 t730 _ ?side1 ?side2 ?side3 ?side4 A16.out).mono ?_); (case side1 => exact Kd.C_below HR0.out (by repeat (first | (with_reducible first | exact HB.out | apply bA_ | apply bN_ | apply b1_ | refine below_set ?_ GE729.out) | exact HB.out))); (case side2 => exact HC0.out); (case side3 => refine (Kd.R_reads' (e := 3) (base := w.heap.size) (ok := fun k_ => some k_ ≠ (u7 : Value).ownBlock) (n := t725.length) (c := co21) ?_).2.2; exact (by (with_reducible repeat (first | apply Kd.R_alloc | apply Kd.R_drewN | apply Kd.R_drew)); exact (Kd.R_mono (Kd.R_far (p := ⟨gb729, 5, none⟩) (Kd.R_far (p := ⟨gb729, 4, none⟩) (Kd.R_far (p := ⟨gb729, 3, none⟩) (Kd.R_far (p := ⟨gb729, 2, none⟩) (Kd.R_far (p := ⟨gb729, 1, none⟩) (Kd.R_far (p := ⟨gb729, 0, none⟩) (Kd.R_types HO_6.out BK729.out (by decide)) (fun _ hk => hk.2) (.int .i64 ((rd_T45 l0 x22_2).f0))) (fun _ hk => hk.2) (.int .i64 ((rd_T45 l0 x22_2).f1.f0))) (fun _ hk => hk.2) (.int .i64 ((rd_T45 l0 x22_2).f1.f1))) (fun _ hk => hk.2) (.int .i64 ((rd_T45 l0 x22_2).f2))) (fun _ hk => hk.2) (.int .i64 ((rd_T45 l0 x22_2).f3))) (fun _ hk => hk.2) (.int .i64 ((rd_T45 l0 x22_2).f4))) (fun _ h_ => h_.1)))); (case side4 => exact (Kd.R_reads' HO_6.out).2.1); rintro e w' ⟨rfl, ⟨nd, rfl⟩⟩) | ((with_reducible refine gate_builtin (b := .append) (xs := #[.tmp 38, .tmp 40]) rfl ?_); at_builtin; refine Kd.R_append (Kd.int .i64) (w0 := w) w.heap.size rfl (.tmp 38) (.tmp 40) 31 3 (.int .i64 0) 8 rfl Try.underlying31 info3 rfl (by decide) (by omega) u7 x7_2 x22_2 [.int .i64 x22_2] (fun k_ => some k_ ≠ (.slice Ao21 t725.length co21 : Value).ownBlock) (fun _ => False) rfl (by first | (go_simp; done) | (go_simp; rfl)) ?aP (fun _ hk => hk.elim) ?aF ?aO ?aB ?aS ?aL ?_; (case aP => exact rfl); (case aB => exact (by repeat (first | (with_reducible first | exact HB.out | apply bA_ | apply bN_ | apply b1_ | refine below_set ?_ GE729.out) | exact HB.out))); (case aF => exact (fun k_ hk => Kd.fresh' (Kd.R_lt (by (with_reducible repeat (first | apply Kd.R_alloc | apply Kd.R_drewN | apply Kd.R_drew)); exact (Kd.R_mono (Kd.R_far (p := ⟨gb729, 5, none⟩) (Kd.R_far (p := ⟨gb729, 4, none⟩) (Kd.R_far (p := ⟨gb729, 3, none⟩) (Kd.R_far (p := ⟨gb729, 2, none⟩) (Kd.R_far (p := ⟨gb729, 1, none⟩) (Kd.R_far (p := ⟨gb729, 0, none⟩) (Kd.R_types HO_6.out BK729.out (by decide)) (fun _ hk => hk.2) (.int .i64 ((rd_T45 l0 x22_2).f0))) (fun _ hk => hk.2) (.int .i64 ((rd_T45 l0 x22_2).f1.f0))) (fun _ hk => hk.2) (.int .i64 ((rd_T45 l0 x22_2).f1.f1))) (fun _ hk => hk.2) (.int .i64 ((rd_T45 l0 x22_2).f2))) (fun _ hk => hk.2) (.int .i64 ((rd_T45 l0 x22_2).f3))) (fun _ hk => hk.2) (.int .i64 ((rd_T45 l0 x22_2).f4))) (fun _ h_ => h_.1)))) k_ hk)); (case aO => exact (by (with_reducible repeat (first | apply Kd.R_alloc | apply Kd.R_drewN | apply Kd.R_drew)); exact Kd.R_mono (Kd.R_far (p := ⟨gb729, 5, none⟩) (Kd.R_far (p := ⟨gb729, 4, none⟩) (Kd.R_far (p := ⟨gb729, 3, none⟩) (Kd.R_far (p := ⟨gb729, 2, none⟩) (Kd.R_far (p := ⟨gb729, 1, none⟩) (Kd.R_far (p := ⟨gb729, 0, none⟩) (Kd.R_types HO_7.out BK729.out (by decide)) (fun _ hk => hk.2) (.int .i64 ((rd_T45 l0 x22_2).f0))) (fun _ hk => hk.2) (.int .i64 ((rd_T45 l0 x22_2).f1.f0))) (fun _ hk => hk.2) (.int .i64 ((rd_T45 l0 x22_2).f1.f1))) (fun _ hk => hk.2) (.int .i64 ((rd_T45 l0 x22_2).f2))) (fun _ hk => hk.2) (.int .i64 ((rd_T45 l0 x22_2).f3))) (fun _ hk => hk.2) (.int .i64 ((rd_T45 l0 x22_2).f4))) (fun _ hk => hk.1))); (case aS => exact (below_size (by repeat (first | (with_reducible first | exact HB.out | apply bA_ | apply bN_ | apply b1_ | refine below_set ?_ GE729.out) | exact HB.out)))); (case aL => have := LMc18.out; omega); intro v732 w22 ho hb hg hat; rw [← Ny731.out] at ho; have n0_ := Aside0.mk (Kd.R_after (ok := (fun _ => True)) (by (with_reducible repeat (first | apply Kd.R_alloc | apply Kd.R_drewN | apply Kd.R_drew)); exact Kd.R_mono (Kd.R_far (p := ⟨gb729, 5, none⟩) (Kd.R_far (p := ⟨gb729, 4, none⟩) (Kd.R_far (p := ⟨gb729, 3, none⟩) (Kd.R_far (p := ⟨gb729, 2, none⟩) (Kd.R_far (p := ⟨gb729, 1, none⟩) (Kd.R_far (p := ⟨gb729, 0, none⟩) (Kd.R_types HO_6.out BK729.out (by decide)) (fun _ hk => hk.2) (.int .i64 ((rd_T45 l0 x22_2).f0))) (fun _ hk => hk.2) (.int .i64 ((rd_T45 l0 x22_2).f1.f0))) (fun _ hk => hk.2) (.int .i64 ((rd_T45 l0 x22_2).f1.f1))) (fun _ hk => hk.2) (.int .i64 ((rd_T45 l0 x22_2).f2))) (fun _ hk => hk.2) (.int .i64 ((rd_T45 l0 x22_2).f3))) (fun _ hk => hk.2) (.int .i64 ((rd_T45 l0 x22_2).f4))) (fun _ hk => ⟨trivial, hk.1⟩)) hg hat); have n1_ := Aside0.mk (blk_grown (g := gb729) (o := .cells #[.int .i64 ((rd_T45 l0 x22_2).f0), .int .i64 ((rd_T45 l0 x22_2).f1.f0), .int .i64 ((rd_T45 l0 x22_2).f1.f1), .int .i64 ((rd_T45 l0 x22_2).f2), .int .i64 ((rd_T45 l0 x22_2).f3), .int .i64 ((rd_T45 l0 x22_2).f4)] 45 (0, 0)) (by (with_reducible repeat (first | refine blk_drewN ?_ _ | refine blk_drew ?_ | refine blk_alloc ?_ _)); refine blk_put (cs := #[.int .i64 ((rd_T45 l0 x22_2).f0), .int .i64 ((rd_T45 l0 x22_2).f1.f0), .int .i64 ((rd_T45 l0 x22_2).f1.f1), .int .i64 ((rd_T45 l0 x22_2).f2), .int .i64 ((rd_T45 l0 x22_2).f3), .int .i64 0]) ?_ 5 _ rfl; (with_reducible repeat (first | refine blk_drewN ?_ _ | refine blk_drew ?_ | refine blk_alloc ?_ _)); refine blk_put (cs := #[.int .i64 ((rd_T45 l0 x22_2).f0), .int .i64 ((rd_T45 l0 x22_2).f1.f0), .int .i64 ((rd_T45 l0 x22_2).f1.f1), .int .i64 ((rd_T45 l0 x22_2).f2), .int .i64 0, .int .i64 0]) ?_ 4 _ rfl; (with_reducible repeat (first | refine blk_drewN ?_ _ | refine blk_drew ?_ | refine blk_alloc ?_ _)); refine blk_put (cs := #[.int .i64 ((rd_T45 l0 x22_2).f0), .int .i64 ((rd_T45 l0 x22_2).f1.f0), .int .i64 ((rd_T45 l0 x22_2).f1.f1), .int .i64 0, .int .i64 0, .int .i64 0]) ?_ 3 _ rfl; (with_reducible repeat (first | refine blk_drewN ?_ _ | refine blk_drew ?_ | refine blk_alloc ?_ _)); refine blk_put (cs := #[.int .i64 ((rd_T45 l0 x22_2).f0), .int .i64 ((rd_T45 l0 x22_2).f1.f0), .int .i64 0, .int .i64 0, .int .i64 0, .int .i64 0]) ?_ 2 _ rfl; (with_reducible repeat (first | refine blk_drewN ?_ _ | refine blk_drew ?_ | refine blk_alloc ?_ _)); refine blk_put (cs := #[.int .i64 ((rd_T45 l0 x22_2).f0), .int .i64 0, .int .i64 0, .int .i64 0, .int .i64 0, .int .i64 0]) ?_ 1 _ rfl; (with_reducible repeat (first | refine blk_drewN ?_ _ | refine blk_drew ?_ | refine blk_alloc ?_ _)); refine blk_put (cs := #[.int .i64 0, .int .i64 0, .int .i64 0, .int .i64 0, .int .i64 0, .int .i64 0]) ?_ 0 _ rfl; (with_reducible repeat (first | refine blk_drewN ?_ _ | refine blk_drew ?_ | refine blk_alloc ?_ _)); exact BK729.out) hg (Kd.R_ne HO_7.out BK729.out (by decide))); have n2_ := Aside0.mk (hb); have n3_ := Aside0.mk (ho); clear HO_6; clear BK729; clear HB; clear HO_7; have HO_6 := n0_; have BK729 := n1_; have HB := n2_; have HO733 := n3_; clear n0_ n1_ n2_ n3_; clear ho hb hg hat))
      go_roundg k2
      case measure => have := HJ2.out; have := HK2.out; omega
      case rel => exact ⟨(y731), (wrap64 (x22_2 + 1)), (by first | rfl | (simp; done) | (simp [*]; done)), H', ⟨by have := HJ2.out; have := HK2.out; omega⟩, ⟨by (with_reducible repeat (first | apply Kd.R_alloc | apply Kd.R_drewN | apply Kd.R_drew)); exact Kd.R_mono HO_6.out (fun _ hk => hk.2)⟩, ⟨by (with_reducible repeat (first | apply Kd.R_alloc | apply Kd.R_drewN | apply Kd.R_drew)); exact HO733.out⟩, ⟨by repeat (first | (with_reducible first | exact HB.out | apply bA_ | apply bN_ | apply b1_ | refine below_set ?_ GE729.out) | exact HB.out)⟩⟩
   subst c9
   have H1 : (some (([] : List Int), false)) = some (r1, r2) := by rw [if_pos rfl] at H; exact H
   clear H
   have H := H1
   clear H1
   simp only [Option.some.injEq, Prod.mk.injEq] at H
   obtain ⟨rfl, rfl⟩ := H
   go_wp2
   go_ret2
   exact ⟨_, by first | rfl | (simp [errW_none, errW_some] <;> rfl) | (simp [*, errW_none, errW_some] <;> rfl), by first | exact Kd.R_nil _ _ _ _ _ | exact Kd.N_nil _ _ _ _ _ | exact Kd.V_nil _ _ _ _ _ | exact Kd.Q_nil _ _ _ _ _ | exact Kd.S_nil _ _ _ _ _, by repeat (first | (with_reducible first | exact HB.out | apply bA_ | apply bN_ | apply b1_) | exact HB.out)⟩

/-! ### impl_WeakBranches: function 45 -/
mutual
def impl_WeakBranches.j0 : Nat → List (S45) → Int → Bool → Option (List Int × Bool)
  | 0, _, _, _ => none
  | k + 1, x0, x1, x17 => if x17 = true then (some (([] : List Int), false)) else ((impl_needsOf.f k x0).bind fun t736 => (impl_WeakBranches.l0 k x1 t736 ([] : List Int) x0 (x0.length : Int) 0))
def impl_WeakBranches.l0 : Nat → Int → List Int → List Int → List (S45) → Int → Int → Option (List Int × Bool)
  | 0, _, _, _, _, _, _ => none
  | k + 1, x1, x6, x7, x20, x21, x22 => if x22 < x21 then (if 0 ≤ x22 then (if x22 < (x20.length : Int) then (if ((rd_T45 x20 x22).f3) > 0 then (if x22 < (x6.length : Int) then (if x1 < (rd x6 x22) then (if x7.length < 17592186044416 then (impl_WeakBranches.l0 k x1 x6 (x7 ++ [x22]) x20 x21 (wrap64 (x22 + 1))) else (none)) else (impl_WeakBranches.l0 k x1 x6 x7 x20 x21 (wrap64 (x22 + 1)))) else (none)) else (impl_WeakBranches.l0 k x1 x6 x7 x20 x21 (wrap64 (x22 + 1)))) else (none)) else (none)) else (some (x7, true))
end
def impl_WeakBranches.f (k : Nat) (l0 : List (S45)) (a1 : Int) : Option (List Int × Bool) := (impl_isHoseLine.f k l0).bind fun t734 => (if t734 = true then ((impl_inside.f a1 0 2000).bind fun t735 => (impl_WeakBranches.j0 k l0 a1 (!t735))) else (impl_WeakBranches.j0 k l0 a1 true))
theorem impl_WeakBranches.mono_l : ∀ k, (∀ y0 y1 y2, LeO (impl_WeakBranches.j0 k y0 y1 y2) (impl_WeakBranches.j0 (k + 1) y0 y1 y2)) ∧ (∀ y0 y1 y2 y3 y4 y5, LeO (impl_WeakBranches.l0 k y0 y1 y2 y3 y4 y5) (impl_WeakBranches.l0 (k + 1) y0 y1 y2 y3 y4 y5))
 | 0 => ⟨fun _ _ _ r h => by simp [impl_WeakBranches.j0] at h, fun _ _ _ _ _ _ r h => by simp [impl_WeakBranches.l0] at h⟩
 | k + 1 => by
  obtain ⟨ih0, ih1⟩ := impl_WeakBranches.mono_l k
  refine ⟨?_, ?_⟩
  · intro y0 y1 y2
    unfold impl_WeakBranches.j0
    repeat' first
    | (with_reducible exact ih0 _ _ _)
    | (with_reducible exact ih1 _ _ _ _ _ _)
    | (with_reducible exact impl_isHoseLine.mono _ _)
    | (with_reducible exact impl_needsOf.mono _ _)
    | (with_reducible exact LeO.refl _)
    | (with_reducible exact LeO.none _)
    | (with_reducible refine LeO.ite ?_ ?_)
    | (with_reducible refine LeO.bind ?_ (fun _ => ?_))
    | exact ih0 _ _ _
    | exact ih1 _ _ _ _ _ _
    | exact impl_isHoseLine.mono _ _
    | exact impl_needsOf.mono _ _
    | exact LeO.none _
    | refine LeO.ite ?_ ?_
    | refine LeO.bind ?_ (fun _ => ?_)
  · intro y0 y1 y2 y3 y4 y5
    unfold impl_WeakBranches.l0
    repeat' first
    | (with_reducible exact ih0 _ _ _)
    | (with_reducible exact ih1 _ _ _ _ _ _)
    | (with_reducible exact impl_isHoseLine.mono _ _)
    | (with_reducible exact impl_needsOf.mono _ _)
    | (with_reducible exact LeO.refl _)
    | (with_reducible exact LeO.none _)
    | (with_reducible refine LeO.ite ?_ ?_)
    | (with_reducible refine LeO.bind ?_ (fun _ => ?_))
    | exact ih0 _ _ _
    | exact ih1 _ _ _ _ _ _
    | exact impl_isHoseLine.mono _ _
    | exact impl_needsOf.mono _ _
    | exact LeO.none _
    | refine LeO.ite ?_ ?_
    | refine LeO.bind ?_ (fun _ => ?_)
theorem impl_WeakBranches.mono : ∀ a0 a1 k, LeO (impl_WeakBranches.f k a0 a1) (impl_WeakBranches.f (k + 1) a0 a1) := by
 intro a0 a1 k
 obtain ⟨ih0, ih1⟩ := impl_WeakBranches.mono_l k
 unfold impl_WeakBranches.f
 repeat' first
  | (with_reducible exact ih0 _ _ _)
  | (with_reducible exact ih1 _ _ _ _ _ _)
  | (with_reducible exact impl_isHoseLine.mono _ _)
  | (with_reducible exact impl_needsOf.mono _ _)
  | (with_reducible exact LeO.refl _)
  | (with_reducible exact LeO.none _)
  | (with_reducible refine LeO.ite ?_ ?_)
  | (with_reducible refine LeO.bind ?_ (fun _ => ?_))
  | exact ih0 _ _ _
  | exact ih1 _ _ _ _ _ _
  | exact impl_isHoseLine.mono _ _
  | exact impl_needsOf.mono _ _
  | exact LeO.none _
  | refine LeO.ite ?_ ?_
  | refine LeO.bind ?_ (fun _ => ?_)
set_option maxHeartbeats 8000000 in
set_option maxRecDepth 100000 in
theorem impl_WeakBranches.calls (k : Nat) (A0 : Option Addr) (c0 : Nat) (l0 : List (S45)) (a1 : Int) (r1 : List Int) (r2 : Bool) (w : World) (hr0 : Kd.C k45 w A0 l0.length l0) (hc0 : l0.length ≤ c0) (h : impl_WeakBranches.f k l0 a1 = some (r1, r2)) :
  Calls Try.prog 45 #[.slice A0 l0.length c0, .int .i64 a1] w fun e w' => ∃ v0_ : Value, e = .returned (.tuple #[v0_, .bool r2]) ∧ Kd.R (Kd.int .i64) 3 w' w.heap.size (fun _ => True) v0_ r1 ∧ Below w.heap.size w w' := by
 have hu45 := Try.underlying45
 have HR0 := Aside0.mk hr0
 have HC0 := Aside0.mk hc0
 clear hr0 hc0
 have HB := Aside0.mk (Below.refl w.heap.size w)
 have H : ((impl_isHoseLine.f k l0).bind fun t734 => (if t734 = true then ((impl_inside.f a1 0 2000).bind fun t735 => (impl_WeakBranches.j0 k l0 a1 (!t735))) else (impl_WeakBranches.j0 k l0 a1 true))) = some (r1, r2) := h
 clear h
 have HC3 := Aside0.mk H
 clear H
 go_enter Try.func45, Try.ntmps45
 go_upto_region 1 with (fail)
 go_cut [17] (fun v17 wc => ∃ (kq : Nat) (x17_2 : Bool), v17 = .bool x17_2 ∧ Aside0 (impl_WeakBranches.j0 kq l0 a1 x17_2 = some (r1, r2)) ∧ Aside0 (kq ≤ k) ∧ Aside0 (Below w.heap.size w wc))
 case first =>
  have H := HC3.out
  clear HC3
  replace H := Option.bind_eq_some_iff.mp H
  obtain ⟨t734, A40, H⟩ := H
  replace H : (if t734 = true then ((impl_inside.f a1 0 2000).bind fun t735 => (impl_WeakBranches.j0 k l0 a1 (!t735))) else (impl_WeakBranches.j0 k l0 a1 true)) = some (r1, r2) := H
  have A4 := Aside0.mk A40
  clear A40
  by_cases c5 : t734 = true
  case neg =>
   replace c5 := Bool.eq_false_iff.mpr c5
   subst c5
   have H1 : (impl_WeakBranches.j0 k l0 a1 true) = some (r1, r2) := by rw [if_neg (show ¬ (false = true) by decide)] at H; exact H
   clear H
   have H := H1
   clear H1
   have H' := Aside0.mk H
   clear H
   go_wp2_with (first | ((with_reducible refine gate_callee (f := 52) rfl ?_); refine goesL_ (some 11) rfl rfl Try.func52 (by kernel_rfl) rfl #[.slice A0 l0.length c0] rfl (by (try simp only [List.map_toArray, List.map_cons, List.map_nil]); first | done | rfl) ?_; (with_reducible refine (impl_isHoseLine.calls k _ _ l0 false _ ?side1 ?side2 A4.out).mono ?_); (case side1 => repeat (first | exact (Kd.C_below HR0.out HB.out) | (with_reducible refine Kd.C_alloc ?_ _) | (with_reducible refine Kd.C_drewN ?_ _) | (with_reducible refine Kd.C_drew ?_))); (case side2 => exact HC0.out); rintro e w8 ⟨rfl, hb⟩; refine ⟨_, rfl, ?_⟩; have n0_ := Aside0.mk (below_step (by repeat (first | (with_reducible first | exact HB.out | apply bA_ | apply bN_ | apply b1_) | exact HB.out)) hb); clear HB; have HB := n0_; clear n0_; (try clear hb); (try clear hb2); (try clear hk); (try clear hi)))
   go_meet
   case rel => exact ⟨_, (true), (by first | rfl | (simp; done) | (simp [*]; done)), H', ⟨by first | omega | exact Nat.le_refl _⟩, ⟨by repeat (first | (with_reducible first | exact HB.out | apply bA_ | apply bN_ | apply b1_) | exact HB.out)⟩⟩
  subst c5
  have H1 : ((impl_inside.f a1 0 2000).bind fun t735 => (impl_WeakBranches.j0 k l0 a1 (!t735))) = some (r1, r2) := by rw [if_pos rfl] at H; exact H
  clear H
  have H := H1
  clear H1
  replace H := Option.bind_eq_some_iff.mp H
  obtain ⟨t735, A60, H⟩ := H
  replace H : (impl_WeakBranches.j0 k l0 a1 (!t735)) = some (r1, r2) := H
  have A6 := Aside0.mk A60
  clear A60
  have H' := Aside0.mk H
  clear H
  go_wp2_with (first | ((with_reducible refine gate_callee (f := 52) rfl ?_); refine goesL_ (some 11) rfl rfl Try.func52 (by kernel_rfl) rfl #[.slice A0 l0.length c0] rfl (by (try simp only [List.map_toArray, List.map_cons, List.map_nil]); first | done | rfl) ?_; (with_reducible refine (impl_isHoseLine.calls k _ _ l0 true _ ?side1 ?side2 A4.out).mono ?_); (case side1 => repeat (first | exact (Kd.C_below HR0.out HB.out) | (with_reducible refine Kd.C_alloc ?_ _) | (with_reducible refine Kd.C_drewN ?_ _) | (with_reducible refine Kd.C_drew ?_))); (case side2 => exact HC0.out); rintro e w7 ⟨rfl, hb⟩; refine ⟨_, rfl, ?_⟩; have n0_ := Aside0.mk (below_step (by repeat (first | (with_reducible first | exact HB.out | apply bA_ | apply bN_ | apply b1_) | exact HB.out)) hb); clear HB; have HB := n0_; clear n0_; (try clear hb); (try clear hb2); (try clear hk); (try clear hi)) | (go_at_call 68; (with_reducible refine (impl_inside.calls a1 0 2000 t735 _ A6.out).mono ?_); rintro e w' ⟨rfl, ⟨nd, rfl⟩⟩))
  go_meet
  case rel => exact ⟨_, (!t735), (by first | rfl | (simp; done) | (simp [*]; done)), H', ⟨by first | omega | exact Nat.le_refl _⟩, ⟨by repeat (first | (with_reducible first | exact HB.out | apply bA_ | apply bN_ | apply b1_) | exact HB.out)⟩⟩
 case rest =>
  clear HC3
  try clear p2
  try clear c4
  try clear c5
  obtain ⟨kq, x17_2, rfl, HA, HJ2, HB⟩ := hcut
  cases kq with
  | zero => exact absurd HA.out (by simp [impl_WeakBranches.j0])
  | succ kj2 =>
   have H := HA.out
   clear HA
   simp only [impl_WeakBranches.j0] at H
   by_cases c9 : x17_2 = true
   case neg =>
    replace c9 := Bool.eq_false_iff.mpr c9
    subst c9
    have H1 : ((impl_needsOf.f kj2 l0).bind fun t736 => (impl_WeakBranches.l0 kj2 a1 t736 ([] : List Int) l0 (l0.length : Int) 0)) = some (r1, r2) := by rw [if_neg (show ¬ (false = true) by decide)] at H; exact H
    clear H
    have H := H1
    clear H1
    replace H := Option.bind_eq_some_iff.mp H
    obtain ⟨t736, A100, H⟩ := H
    replace H : (impl_WeakBranches.l0 kj2 a1 t736 ([] : List Int) l0 (l0.length : Int) 0) = some (r1, r2) := H
    have A10 := Aside0.mk A100
    clear A100
    have H' := Aside0.mk H
    clear H
    go_wp2_with (first | ((with_reducible refine gate_callee (f := 61) rfl ?_); refine goesL_ (some 19) rfl rfl Try.func61 (by kernel_rfl) rfl #[.slice A0 l0.length c0] rfl (by (try simp only [List.map_toArray, List.map_cons, List.map_nil]); first | done | rfl) ?_; (with_reducible refine (impl_needsOf.calls kj2 _ _ l0 t736 _ ?side1 ?side2 A10.out).mono ?_); (case side1 => repeat (first | exact (Kd.C_below HR0.out HB.out) | (with_reducible refine Kd.C_alloc ?_ _) | (with_reducible refine Kd.C_drewN ?_ _) | (with_reducible refine Kd.C_drew ?_))); (case side2 => exact HC0.out); rintro e w11 ⟨v737, rfl, ho0, hb⟩; refine ⟨_, rfl, ?_⟩; have n0_ := Aside0.mk (Kd.R_lower ho0 (below_size (by repeat (first | (with_reducible first | exact HB.out | apply bA_ | apply bN_ | apply b1_) | exact HB.out)))); have n1_ := Aside0.mk (below_step (by repeat (first | (with_reducible first | exact HB.out | apply bA_ | apply bN_ | apply b1_) | exact HB.out)) hb); clear HB; have HO738 := n0_; have HB := n1_; clear n0_ n1_; (try clear hb); (try clear hb2); (try clear hk); (try clear hi); (try clear ho0)))
    go_loopg [7, 22] kj2 (fun kq v7 v22 w' => ∃ (x7_2 : List Int) (x22_2 : Int), v22 = .int .i64 x22_2 ∧ Aside0 (impl_WeakBranches.l0 kq a1 t736 x7_2 l0 (l0.length : Int) x22_2 = some (r1, r2)) ∧ Aside0 (kq ≤ kj2) ∧ Aside0 (Kd.R (Kd.int .i64) 3 w' w.heap.size (fun k_ => some k_ ≠ (v7 : Value).ownBlock) v737 t736) ∧ Aside0 (Kd.R (Kd.int .i64) 3 w' w.heap.size (fun k_ => some k_ ≠ (v737 : Value).ownBlock) v7 x7_2) ∧ Aside0 (Below w.heap.size w w'))
    case atStart => exact ⟨(([] : List Int)), (0), (by first | rfl | (simp; done) | (simp [*]; done)), H', ⟨Nat.le_refl _⟩, ⟨by (with_reducible repeat (first | apply Kd.R_alloc | apply Kd.R_drewN | apply Kd.R_drew)); exact Kd.R_mono HO738.out (fun _ hk => (by simp [Value.ownBlock]))⟩, ⟨by first | exact Kd.R_nil _ _ _ _ _ | exact Kd.N_nil _ _ _ _ _ | exact Kd.V_nil _ _ _ _ _ | exact Kd.Q_nil _ _ _ _ _ | exact Kd.S_nil _ _ _ _ _⟩, ⟨by repeat (first | (with_reducible first | exact HB.out | apply bA_ | apply bN_ | apply b1_) | exact HB.out)⟩⟩
    case round =>
     clear H'
     try clear p2
     try clear c4
     try clear c5
     try clear c6
     try clear c9
     try clear p2
     obtain ⟨x7_2, x22_2, rfl, HA, HK2, HO_6, HO_7, HB⟩ := hrel
     cases gk with
     | zero => exact absurd HA.out (by simp [impl_WeakBranches.l0])
     | succ k2 =>
      have H := HA.out
      clear HA
      simp only [impl_WeakBranches.l0] at H
      by_cases c12 : x22_2 < (l0.length : Int)
      case neg =>
       rw [if_neg c12] at H
       have c12b0 : decide (x22_2 < (l0.length : Int)) = false := decide_eq_false c12
       clear c12
       simp only [Option.some.injEq, Prod.mk.injEq] at H
       obtain ⟨rfl, rfl⟩ := H
       go_wp2
       go_ret2
       exact ⟨_, by first | rfl | (simp [errW_none, errW_some] <;> rfl) | (simp [*, errW_none, errW_some] <;> rfl), by (with_reducible repeat (first | apply Kd.R_alloc | apply Kd.R_drewN | apply Kd.R_drew)); exact Kd.R_mono HO_7.out (fun _ hk => trivial), by repeat (first | (with_reducible first | exact HB.out | apply bA_ | apply bN_ | apply b1_) | exact HB.out)⟩
      rw [if_pos c12] at H
      have c12b0 : decide (x22_2 < (l0.length : Int)) = true := decide_eq_true c12
      clear c12
      by_cases c13 : 0 ≤ x22_2
      case neg =>
       rw [if_neg c13] at H
       exact absurd H (by simp)
      rw [if_pos c13] at H
      have c13b0 : decide (0 ≤ x22_2) = true := decide_eq_true c13
      clear c13
      by_cases c14 : x22_2 < (l0.length : Int)
      case neg =>
       rw [if_neg c14] at H
       exact absurd H (by simp)
      rw [if_pos c14] at H
      have c14b0 : decide (x22_2 < (l0.length : Int)) = true := decide_eq_true c14
      clear c14
      by_cases c15 : ((rd_T45 l0 x22_2).f3) > 0
      case neg =>
       rw [if_neg c15] at H
       have c15b0 : decide (0 < ((rd_T45 l0 x22_2).f3)) = false := decide_eq_false c15
       clear c15
       have H' := Aside0.mk H
       clear H
       have p739 : 0 ≤ (x22_2 : Int) := of_decide_eq_true (by assumption)
       have q739 : x22_2 < (l0.length : Int) := of_decide_eq_true (by assumption)
       obtain ⟨ad739, e739, hx739_0, hx739_1, hx739_2, hx739_3, hx739_4, hx739_5⟩ := at_T45 HR0.out x22_2 p739 q739
       cases e739
       replace hx739_0 := cl_ HB.out hx739_0
       replace hx739_1 := cl_ HB.out hx739_1
       replace hx739_2 := cl_ HB.out hx739_2
       replace hx739_3 := cl_ HB.out hx739_3
       replace hx739_4 := cl_ HB.out hx739_4
       replace hx739_5 := cl_ HB.out hx739_5
       replace p739 := eq_true p739
       replace q739 := eq_true q739
       go_wp2_with (first | ((with_reducible refine gate_dst (N := 9) rfl ?_); refine box_event ?hg (N := 9) ?hd (cs := #[.int .i64 0, .int .i64 0, .int .i64 0, .int .i64 0, .int .i64 0, .int .i64 0]) (t := 45) ?hr ?_; (case hd => rfl); (case hg => rfl); (case hr => first | (go_simp; done) | (go_simp; rfl)); intro gb740 hg w26 hbox hb; have n0_ := Aside0.mk (Kd.R_below (by (with_reducible repeat (first | apply Kd.R_alloc | apply Kd.R_drewN | apply Kd.R_drew)); exact HO_6.out) hb); have n1_ := Aside0.mk (Kd.R_below (by (with_reducible repeat (first | apply Kd.R_alloc | apply Kd.R_drewN | apply Kd.R_drew)); exact HO_7.out) hb); have n2_ := Aside0.mk (below_step (by repeat (first | (with_reducible first | exact HB.out | apply bA_ | apply bN_ | apply b1_) | exact HB.out)) hb); have n3_ := Aside0.mk (hbox); have n4_ := Aside0.mk ((by rw [hg]; exact (below_size (by repeat (first | (with_reducible first | exact HB.out | apply bA_ | apply bN_ | apply b1_) | exact HB.out))) : w.heap.size ≤ gb740)); have n5_ := n4_; clear HO_6; clear HO_7; clear HB; have HO_6 := n0_; have HO_7 := n1_; have HB := n2_; have BK740 := n3_; have GW740 := n4_; have GE740 := n5_; clear n0_ n1_ n2_ n3_ n4_ n5_; clear hb hbox hg; obtain ⟨hcz27_0, hcz27_1, hcz27_2, hcz27_3, hcz27_4, hcz27_5, hfz27_0, hfz27_1, hfz27_2, hfz27_3, hfz27_4, hfz27_5⟩ := blk6_ BK740.out))
       go_roundg k2
       case measure => have := HJ2.out; have := HK2.out; omega
       case rel => exact ⟨(x7_2), (wrap64 (x22_2 + 1)), (by first | rfl | (simp; done) | (simp [*]; done)), H', ⟨by have := HJ2.out; have := HK2.out; omega⟩, ⟨by (with_reducible repeat (first | apply Kd.R_alloc | apply Kd.R_drewN | apply Kd.R_drew)); exact Kd.R_mono (Kd.R_far (p := ⟨gb740, 5, none⟩) (Kd.R_far (p := ⟨gb740, 4, none⟩) (Kd.R_far (p := ⟨gb740, 3, none⟩) (Kd.R_far (p := ⟨gb740, 2, none⟩) (Kd.R_far (p := ⟨gb740, 1, none⟩) (Kd.R_far (p := ⟨gb740, 0, none⟩) (Kd.R_types HO_6.out BK740.out (by decide)) (fun _ hk => hk.2) (.int .i64 ((rd_T45 l0 x22_2).f0))) (fun _ hk => hk.2) (.int .i64 ((rd_T45 l0 x22_2).f1.f0))) (fun _ hk => hk.2) (.int .i64 ((rd_T45 l0 x22_2).f1.f1))) (fun _ hk => hk.2) (.int .i64 ((rd_T45 l0 x22_2).f2))) (fun _ hk => hk.2) (.int .i64 ((rd_T45 l0 x22_2).f3))) (fun _ hk => hk.2) (.int .i64 ((rd_T45 l0 x22_2).f4))) (fun _ hk => hk.1)⟩, ⟨by (with_reducible repeat (first | apply Kd.R_alloc | apply Kd.R_drewN | apply Kd.R_drew)); exact Kd.R_mono (Kd.R_far (p := ⟨gb740, 5, none⟩) (Kd.R_far (p := ⟨gb740, 4, none⟩) (Kd.R_far (p := ⟨gb740, 3, none⟩) (Kd.R_far (p := ⟨gb740, 2, none⟩) (Kd.R_far (p := ⟨gb740, 1, none⟩) (Kd.R_far (p := ⟨gb740, 0, none⟩) (Kd.R_types HO_7.out BK740.out (by decide)) (fun _ hk => hk.2) (.int .i64 ((rd_T45 l0 x22_2).f0))) (fun _ hk => hk.2) (.int .i64 ((rd_T45 l0 x22_2).f1.f0))) (fun _ hk => hk.2) (.int .i64 ((rd_T45 l0 x22_2).f1.f1))) (fun _ hk => hk.2) (.int .i64 ((rd_T45 l0 x22_2).f2))) (fun _ hk => hk.2) (.int .i64 ((rd_T45 l0 x22_2).f3))) (fun _ hk => hk.2) (.int .i64 ((rd_T45 l0 x22_2).f4))) (fun _ hk => hk.1)⟩, ⟨by repeat (first | (with_reducible first | exact HB.out | apply bA_ | apply bN_ | apply b1_ | refine below_set ?_ GE740.out) | exact HB.out)⟩⟩
      rw [if_pos c15] at H
      have c15b0 : decide (0 < ((rd_T45 l0 x22_2).f3)) = true := decide_eq_true c15
      clear c15
      by_cases c16 : x22_2 < (t736.length : Int)
      case neg =>
       rw [if_neg c16] at H
       exact absurd H (by simp)
      rw [if_pos c16] at H
      have c16b0 : decide (x22_2 < (t736.length : Int)) = true := decide_eq_true c16
      clear c16
      by_cases c17 : a1 < (rd t736 x22_2)
      case neg =>
       rw [if_neg c17] at H
       have c17b0 : decide (a1 < (rd t736 x22_2)) = false := decide_eq_false c17
       clear c17
       have H' := Aside0.mk H
       clear H
       have p739 : 0 ≤ (x22_2 : Int) := of_decide_eq_true (by assumption)
       have q739 : x22_2 < (l0.length : Int) := of_decide_eq_true (by assumption)
       obtain ⟨ad739, e739, hx739_0, hx739_1, hx739_2, hx739_3, hx739_4, hx739_5⟩ := at_T45 HR0.out x22_2 p739 q739
       cases e739
       replace hx739_0 := cl_ HB.out hx739_0
       replace hx739_1 := cl_ HB.out hx739_1
       replace hx739_2 := cl_ HB.out hx739_2
       replace hx739_3 := cl_ HB.out hx739_3
       replace hx739_4 := cl_ HB.out hx739_4
       replace hx739_5 := cl_ HB.out hx739_5
       replace p739 := eq_true p739
       replace q739 := eq_true q739
       go_wp2_with (first | ((with_reducible refine gate_dst (N := 9) rfl ?_); refine box_event ?hg (N := 9) ?hd (cs := #[.int .i64 0, .int .i64 0, .int .i64 0, .int .i64 0, .int .i64 0, .int .i64 0]) (t := 45) ?hr ?_; (case hd => rfl); (case hg => rfl); (case hr => first | (go_simp; done) | (go_simp; rfl)); intro gb740 hg w23 hbox hb; have n0_ := Aside0.mk (Kd.R_below (by (with_reducible repeat (first | apply Kd.R_alloc | apply Kd.R_drewN | apply Kd.R_drew)); exact HO_6.out) hb); have n1_ := Aside0.mk (Kd.R_below (by (with_reducible repeat (first | apply Kd.R_alloc | apply Kd.R_drewN | apply Kd.R_drew)); exact HO_7.out) hb); have n2_ := Aside0.mk (below_step (by repeat (first | (with_reducible first | exact HB.out | apply bA_ | apply bN_ | apply b1_) | exact HB.out)) hb); have n3_ := Aside0.mk (hbox); have n4_ := Aside0.mk ((by rw [hg]; exact (below_size (by repeat (first | (with_reducible first | exact HB.out | apply bA_ | apply bN_ | apply b1_) | exact HB.out))) : w.heap.size ≤ gb740)); have n5_ := n4_; clear HO_6; clear HO_7; clear HB; have HO_6 := n0_; have HO_7 := n1_; have HB := n2_; have BK740 := n3_; have GW740 := n4_; have GE740 := n5_; clear n0_ n1_ n2_ n3_ n4_ n5_; clear hb hbox hg; obtain ⟨hcz24_0, hcz24_1, hcz24_2, hcz24_3, hcz24_4, hcz24_5, hfz24_0, hfz24_1, hfz24_2, hfz24_3, hfz24_4, hfz24_5⟩ := blk6_ BK740.out; obtain ⟨Ao25, co25, eo25⟩ := Kd.R_slice HO_6.out; subst eo25; have p741 : 0 ≤ (x22_2 : Int) := of_decide_eq_true (by assumption); have q741 : x22_2 < (t736.length : Int) := of_decide_eq_true (by assumption); obtain ⟨ad741, e741, hx741_0⟩ := Kd.at_int (Kd.R_reads' HO_6.out).2.2 x22_2 p741 q741; cases e741; have hn741_0 : ad741.block ≠ gb740 := Kd.own_blk (Kd.R_ne HO_6.out BK740.out (by decide)); have hn741_1 : ad741.block ≠ gb740 := Kd.own_blk (Kd.R_ne HO_6.out BK740.out (by decide)); have hn741_2 : ad741.block ≠ gb740 := Kd.own_blk (Kd.R_ne HO_6.out BK740.out (by decide)); have hn741_3 : ad741.block ≠ gb740 := Kd.own_blk (Kd.R_ne HO_6.out BK740.out (by decide)); have hn741_4 : ad741.block ≠ gb740 := Kd.own_blk (Kd.R_ne HO_6.out BK740.out (by decide)); have hn741_5 : ad741.block ≠ gb740 := Kd.own_blk (Kd.R_ne HO_6.out BK740.out (by decide)); replace hx741_0 := (cell_far (p := ⟨gb740, 0, none⟩) (by first | exact ab_ hn741_0 | exact hn741_0) (.int .i64 ((rd_T45 l0 x22_2).f0))).trans hx741_0; replace hx741_0 := (cell_far (p := ⟨gb740, 1, none⟩) (by first | exact ab_ hn741_1 | exact hn741_1) (.int .i64 ((rd_T45 l0 x22_2).f1.f0))).trans hx741_0; replace hx741_0 := (cell_far (p := ⟨gb740, 2, none⟩) (by first | exact ab_ hn741_2 | exact hn741_2) (.int .i64 ((rd_T45 l0 x22_2).f1.f1))).trans hx741_0; replace hx741_0 := (cell_far (p := ⟨gb740, 3, none⟩) (by first | exact ab_ hn741_3 | exact hn741_3) (.int .i64 ((rd_T45 l0 x22_2).f2))).trans hx741_0; replace hx741_0 := (cell_far (p := ⟨gb740, 4, none⟩) (by first | exact ab_ hn741_4 | exact hn741_4) (.int .i64 ((rd_T45 l0 x22_2).f3))).trans hx741_0; replace hx741_0 := (cell_far (p := ⟨gb740, 5, none⟩) (by first | exact ab_ hn741_5 | exact hn741_5) (.int .i64 ((rd_T45 l0 x22_2).f4))).trans hx741_0; clear hn741_0; clear hn741_1; clear hn741_2; clear hn741_3; clear hn741_4; clear hn741_5; replace p741 := eq_true p741; replace q741 := eq_true q741))
       go_roundg k2
       case measure => have := HJ2.out; have := HK2.out; omega
       case rel => exact ⟨(x7_2), (wrap64 (x22_2 + 1)), (by first | rfl | (simp; done) | (simp [*]; done)), H', ⟨by have := HJ2.out; have := HK2.out; omega⟩, ⟨by (with_reducible repeat (first | apply Kd.R_alloc | apply Kd.R_drewN | apply Kd.R_drew)); exact Kd.R_mono (Kd.R_far (p := ⟨gb740, 5, none⟩) (Kd.R_far (p := ⟨gb740, 4, none⟩) (Kd.R_far (p := ⟨gb740, 3, none⟩) (Kd.R_far (p := ⟨gb740, 2, none⟩) (Kd.R_far (p := ⟨gb740, 1, none⟩) (Kd.R_far (p := ⟨gb740, 0, none⟩) (Kd.R_types HO_6.out BK740.out (by decide)) (fun _ hk => hk.2) (.int .i64 ((rd_T45 l0 x22_2).f0))) (fun _ hk => hk.2) (.int .i64 ((rd_T45 l0 x22_2).f1.f0))) (fun _ hk => hk.2) (.int .i64 ((rd_T45 l0 x22_2).f1.f1))) (fun _ hk => hk.2) (.int .i64 ((rd_T45 l0 x22_2).f2))) (fun _ hk => hk.2) (.int .i64 ((rd_T45 l0 x22_2).f3))) (fun _ hk => hk.2) (.int .i64 ((rd_T45 l0 x22_2).f4))) (fun _ hk => hk.1)⟩, ⟨by (with_reducible repeat (first | apply Kd.R_alloc | apply Kd.R_drewN | apply Kd.R_drew)); exact Kd.R_mono (Kd.R_far (p := ⟨gb740, 5, none⟩) (Kd.R_far (p := ⟨gb740, 4, none⟩) (Kd.R_far (p := ⟨gb740, 3, none⟩) (Kd.R_far (p := ⟨gb740, 2, none⟩) (Kd.R_far (p := ⟨gb740, 1, none⟩) (Kd.R_far (p := ⟨gb740, 0, none⟩) (Kd.R_types HO_7.out BK740.out (by decide)) (fun _ hk => hk.2) (.int .i64 ((rd_T45 l0 x22_2).f0))) (fun _ hk => hk.2) (.int .i64 ((rd_T45 l0 x22_2).f1.f0))) (fun _ hk => hk.2) (.int .i64 ((rd_T45 l0 x22_2).f1.f1))) (fun _ hk => hk.2) (.int .i64 ((rd_T45 l0 x22_2).f2))) (fun _ hk => hk.2) (.int .i64 ((rd_T45 l0 x22_2).f3))) (fun _ hk => hk.2) (.int .i64 ((rd_T45 l0 x22_2).f4))) (fun _ hk => hk.1)⟩, ⟨by repeat (first | (with_reducible first | exact HB.out | apply bA_ | apply bN_ | apply b1_ | refine below_set ?_ GE740.out) | exact HB.out)⟩⟩
      rw [if_pos c17] at H
      have c17b0 : decide (a1 < (rd t736 x22_2)) = true := decide_eq_true c17
      clear c17
      by_cases c18 : x7_2.length < 17592186044416
      case neg =>
       rw [if_neg c18] at H
       exact absurd H (by simp)
      rw [if_pos c18] at H
      have LMc18 := Aside0.mk c18
      clear c18
      obtain ⟨y742, hy742⟩ : ∃ y_ : List Int, y_ = (x7_2 ++ [x22_2]) := ⟨_, rfl⟩
      replace H : (impl_WeakBranches.l0 k2 a1 t736 y742 l0 (l0.length : Int) (wrap64 (x22_2 + 1))) = some (r1, r2) := by first | (rw [hy742]; with_reducible exact H) | (have H2_ := (Option.bind_some _ _).symm.trans H; rw [hy742]; with_reducible exact H2_) | (have H2_ := (Option.bind_some _ _).symm.trans H; with_reducible exact H2_) | with_reducible exact H | (rw [hy742]; exact H) | exact H
      have Ny742 := Aside0.mk hy742
      clear hy742
      have H' := Aside0.mk H
      clear H
      have p739 : 0 ≤ (x22_2 : Int) := of_decide_eq_true (by assumption)
      have q739 : x22_2 < (l0.length : Int) := of_decide_eq_true (by assumption)
      obtain ⟨ad739, e739, hx739_0, hx739_1, hx739_2, hx739_3, hx739_4, hx739_5⟩ := at_T45 HR0.out x22_2 p739 q739
      cases e739
      replace hx739_0 := cl_ HB.out hx739_0
      replace hx739_1 := cl_ HB.out hx739_1
      replace hx739_2 := cl_ HB.out hx739_2
      replace hx739_3 := cl_ HB.out hx739_3
      replace hx739_4 := cl_ HB.out hx739_4
      replace hx739_5 := cl_ HB.out hx739_5
      replace p739 := eq_true p739
      replace q739 := eq_true q739
      go_wp2_with (first | ((with_reducible refine gate_dst (N := 9) rfl ?_); refine box_event ?hg (N := 9) ?hd (cs := #[.int .i64 0, .int .i64 0, .int .i64 0, .int .i64 0, .int .i64 0, .int .i64 0]) (t := 45) ?hr ?_; (case hd => rfl); (case hg => rfl); (case hr => first | (go_simp; done) | (go_simp; rfl)); intro gb740 hg w19 hbox hb; have n0_ := Aside0.mk (Kd.R_below (by (with_reducible repeat (first | apply Kd.R_alloc | apply Kd.R_drewN | apply Kd.R_drew)); exact HO_6.out) hb); have n1_ := Aside0.mk (Kd.R_below (by (with_reducible repeat (first | apply Kd.R_alloc | apply Kd.R_drewN | apply Kd.R_drew)); exact HO_7.out) hb); have n2_ := Aside0.mk (below_step (by repeat (first | (with_reducible first | exact HB.out | apply bA_ | apply bN_ | apply b1_) | exact HB.out)) hb); have n3_ := Aside0.mk (hbox); have n4_ := Aside0.mk ((by rw [hg]; exact (below_size (by repeat (first | (with_reducible first | exact HB.out | apply bA_ | apply bN_ | apply b1_) | exact HB.out))) : w.heap.size ≤ gb740)); have n5_ := n4_; clear HO_6; clear HO_7; clear HB; have HO_6 := n0_; have HO_7 := n1_; have HB := n2_; have BK740 := n3_; have GW740 := n4_; have GE740 := n5_; clear n0_ n1_ n2_ n3_ n4_ n5_; clear hb hbox hg; obtain ⟨hcz20_0, hcz20_1, hcz20_2, hcz20_3, hcz20_4, hcz20_5, hfz20_0, hfz20_1, hfz20_2, hfz20_3, hfz20_4, hfz20_5⟩ := blk6_ BK740.out; obtain ⟨Ao21, co21, eo21⟩ := Kd.R_slice HO_6.out; subst eo21; have p741 : 0 ≤ (x22_2 : Int) := of_decide_eq_true (by assumption); have q741 : x22_2 < (t736.length : Int) := of_decide_eq_true (by assumption); obtain ⟨ad741, e741, hx741_0⟩ := Kd.at_int (Kd.R_reads' HO_6.out).2.2 x22_2 p741 q741; cases e741; have hn741_0 : ad741.block ≠ gb740 := Kd.own_blk (Kd.R_ne HO_6.out BK740.out (by decide)); have hn741_1 : ad741.block ≠ gb740 := Kd.own_blk (Kd.R_ne HO_6.out BK740.out (by decide)); have hn741_2 : ad741.block ≠ gb740 := Kd.own_blk (Kd.R_ne HO_6.out BK740.out (by decide)); have hn741_3 : ad741.block ≠ gb740 := Kd.own_blk (Kd.R_ne HO_6.out BK740.out (by decide)); have hn741_4 : ad741.block ≠ gb740 := Kd.own_blk (Kd.R_ne HO_6.out BK740.out (by decide)); have hn741_5 : ad741.block ≠ gb740 := Kd.own_blk (Kd.R_ne HO_6.out BK740.out (by decide)); replace hx741_0 := (cell_far (p := ⟨gb740, 0, none⟩) (by first | exact ab_ hn741_0 | exact hn741_0) (.int .i64 ((rd_T45 l0 x22_2).f0))).trans hx741_0; replace hx741_0 := (cell_far (p := ⟨gb740, 1, none⟩) (by first | exact ab_ hn741_1 | exact hn741_1) (.int .i64 ((rd_T45 l0 x22_2).f1.f0))).trans hx741_0; replace hx741_0 := (cell_far (p := ⟨gb740, 2, none⟩) (by first | exact ab_ hn741_2 | exact hn741_2) (.int .i64 ((rd_T45 l0 x22_2).f1.f1))).trans hx741_0; replace hx741_0 := (cell_far (p := ⟨gb740, 3, none⟩) (by first | exact ab_ hn741_3 | exact hn741_3) (.int .i64 ((rd_T45 l0 x22_2).f2))).trans hx741_0; replace hx741_0 := (cell_far (p := ⟨gb740, 4, none⟩) (by first | exact ab_ hn741_4 | exact hn741_4) (.int .i64 ((rd_T45 l0 x22_2).f3))).trans hx741_0; replace hx741_0 := (cell_far (p := ⟨gb740, 5, none⟩) (by first | exact ab_ hn741_5 | exact hn741_5) (.int .i64 ((rd_T45 l0 x22_2).f4))).trans hx741_0; clear hn741_0; clear hn741_1; clear hn741_2; clear hn741_3; clear hn741_4; clear hn741_5; replace p741 := eq_true p741; replace q741 := eq_true q741) | ((with_reducible refine gate_builtin (b := .append) (xs := #[.tmp 38, .tmp 40]) rfl ?_); at_builtin; refine Kd.R_append (Kd.int .i64) (w0 := w) w.heap.size rfl (.tmp 38) (.tmp 40) 31 3 (.int .i64 0) 8 rfl Try.underlying31 info3 rfl (by decide) (by omega) u7 x7_2 x22_2 [.int .i64 x22_2] (fun k_ => some k_ ≠ (.slice (some ad741) t736.length co21 : Value).ownBlock) (fun _ => False) rfl (by first | (go_simp; done) | (go_simp; rfl)) ?aP (fun _ hk => hk.elim) ?aF ?aO ?aB ?aS ?aL ?_; (case aP => exact rfl); (case aB => exact (by repeat (first | (with_reducible first | exact HB.out | apply bA_ | apply bN_ | apply b1_ | refine below_set ?_ GE740.out) | exact HB.out))); (case aF => exact (fun k_ hk => Kd.fresh' (Kd.R_lt (by (with_reducible repeat (first | apply Kd.R_alloc | apply Kd.R_drewN | apply Kd.R_drew)); exact (Kd.R_mono (Kd.R_far (p := ⟨gb740, 5, none⟩) (Kd.R_far (p := ⟨gb740, 4, none⟩) (Kd.R_far (p := ⟨gb740, 3, none⟩) (Kd.R_far (p := ⟨gb740, 2, none⟩) (Kd.R_far (p := ⟨gb740, 1, none⟩) (Kd.R_far (p := ⟨gb740, 0, none⟩) (Kd.R_types HO_6.out BK740.out (by decide)) (fun _ hk => hk.2) (.int .i64 ((rd_T45 l0 x22_2).f0))) (fun _ hk => hk.2) (.int .i64 ((rd_T45 l0 x22_2).f1.f0))) (fun _ hk => hk.2) (.int .i64 ((rd_T45 l0 x22_2).f1.f1))) (fun _ hk => hk.2) (.int .i64 ((rd_T45 l0 x22_2).f2))) (fun _ hk => hk.2) (.int .i64 ((rd_T45 l0 x22_2).f3))) (fun _ hk => hk.2) (.int .i64 ((rd_T45 l0 x22_2).f4))) (fun _ h_ => h_.1)))) k_ hk)); (case aO => exact (by (with_reducible repeat (first | apply Kd.R_alloc | apply Kd.R_drewN | apply Kd.R_drew)); exact Kd.R_mono (Kd.R_far (p := ⟨gb740, 5, none⟩) (Kd.R_far (p := ⟨gb740, 4, none⟩) (Kd.R_far (p := ⟨gb740, 3, none⟩) (Kd.R_far (p := ⟨gb740, 2, none⟩) (Kd.R_far (p := ⟨gb740, 1, none⟩) (Kd.R_far (p := ⟨gb740, 0, none⟩) (Kd.R_types HO_7.out BK740.out (by decide)) (fun _ hk => hk.2) (.int .i64 ((rd_T45 l0 x22_2).f0))) (fun _ hk => hk.2) (.int .i64 ((rd_T45 l0 x22_2).f1.f0))) (fun _ hk => hk.2) (.int .i64 ((rd_T45 l0 x22_2).f1.f1))) (fun _ hk => hk.2) (.int .i64 ((rd_T45 l0 x22_2).f2))) (fun _ hk => hk.2) (.int .i64 ((rd_T45 l0 x22_2).f3))) (fun _ hk => hk.2) (.int .i64 ((rd_T45 l0 x22_2).f4))) (fun _ hk => hk.1))); (case aS => exact (below_size (by repeat (first | (with_reducible first | exact HB.out | apply bA_ | apply bN_ | apply b1_ | refine below_set ?_ GE740.out) | exact HB.out)))); (case aL => have := LMc18.out; omega); intro v743 w22 ho hb hg hat; rw [← Ny742.out] at ho; have n0_ := Aside0.mk (Kd.R_after (ok := (fun _ => True)) (by (with_reducible repeat (first | apply Kd.R_alloc | apply Kd.R_drewN | apply Kd.R_drew)); exact Kd.R_mono (Kd.R_far (p := ⟨gb740, 5, none⟩) (Kd.R_far (p := ⟨gb740, 4, none⟩) (Kd.R_far (p := ⟨gb740, 3, none⟩) (Kd.R_far (p := ⟨gb740, 2, none⟩) (Kd.R_far (p := ⟨gb740, 1, none⟩) (Kd.R_far (p := ⟨gb740, 0, none⟩) (Kd.R_types HO_6.out BK740.out (by decide)) (fun _ hk => hk.2) (.int .i64 ((rd_T45 l0 x22_2).f0))) (fun _ hk => hk.2) (.int .i64 ((rd_T45 l0 x22_2).f1.f0))) (fun _ hk => hk.2) (.int .i64 ((rd_T45 l0 x22_2).f1.f1))) (fun _ hk => hk.2) (.int .i64 ((rd_T45 l0 x22_2).f2))) (fun _ hk => hk.2) (.int .i64 ((rd_T45 l0 x22_2).f3))) (fun _ hk => hk.2) (.int .i64 ((rd_T45 l0 x22_2).f4))) (fun _ hk => ⟨trivial, hk.1⟩)) hg hat); have n1_ := Aside0.mk (blk_grown (g := gb740) (o := .cells #[.int .i64 ((rd_T45 l0 x22_2).f0), .int .i64 ((rd_T45 l0 x22_2).f1.f0), .int .i64 ((rd_T45 l0 x22_2).f1.f1), .int .i64 ((rd_T45 l0 x22_2).f2), .int .i64 ((rd_T45 l0 x22_2).f3), .int .i64 ((rd_T45 l0 x22_2).f4)] 45 (0, 0)) (by (with_reducible repeat (first | refine blk_drewN ?_ _ | refine blk_drew ?_ | refine blk_alloc ?_ _)); refine blk_put (cs := #[.int .i64 ((rd_T45 l0 x22_2).f0), .int .i64 ((rd_T45 l0 x22_2).f1.f0), .int .i64 ((rd_T45 l0 x22_2).f1.f1), .int .i64 ((rd_T45 l0 x22_2).f2), .int .i64 ((rd_T45 l0 x22_2).f3), .int .i64 0]) ?_ 5 _ rfl; (with_reducible repeat (first | refine blk_drewN ?_ _ | refine blk_drew ?_ | refine blk_alloc ?_ _)); refine blk_put (cs := #[.int .i64 ((rd_T45 l0 x22_2).f0), .int .i64 ((rd_T45 l0 x22_2).f1.f0), .int .i64 ((rd_T45 l0 x22_2).f1.f1), .int .i64 ((rd_T45 l0 x22_2).f2), .int .i64 0, .int .i64 0]) ?_ 4 _ rfl; (with_reducible repeat (first | refine blk_drewN ?_ _ | refine blk_drew ?_ | refine blk_alloc ?_ _)); refine blk_put (cs := #[.int .i64 ((rd_T45 l0 x22_2).f0), .int .i64 ((rd_T45 l0 x22_2).f1.f0), .int .i64 ((rd_T45 l0 x22_2).f1.f1), .int .i64 0, .int .i64 0, .int .i64 0]) ?_ 3 _ rfl; (with_reducible repeat (first | refine blk_drewN ?_ _ | refine blk_drew ?_ | refine blk_alloc ?_ _)); refine blk_put (cs := #[.int .i64 ((rd_T45 l0 x22_2).f0), .int .i64 ((rd_T45 l0 x22_2).f1.f0), .int .i64 0, .int .i64 0, .int .i64 0, .int .i64 0]) ?_ 2 _ rfl; (with_reducible repeat (first | refine blk_drewN ?_ _ | refine blk_drew ?_ | refine blk_alloc ?_ _)); refine blk_put (cs := #[.int .i64 ((rd_T45 l0 x22_2).f0), .int .i64 0, .int .i64 0, .int .i64 0, .int .i64 0, .int .i64 0]) ?_ 1 _ rfl; (with_reducible repeat (first | refine blk_drewN ?_ _ | refine blk_drew ?_ | refine blk_alloc ?_ _)); refine blk_put (cs := #[.int .i64 0, .int .i64 0, .int .i64 0, .int .i64 0, .int .i64 0, .int .i64 0]) ?_ 0 _ rfl; (with_reducible repeat (first | refine blk_drewN ?_ _ | refine blk_drew ?_ | refine blk_alloc ?_ _)); exact BK740.out) hg (Kd.R_ne HO_7.out BK740.out (by decide))); have n2_ := Aside0.mk (hb); have n3_ := Aside0.mk (ho); clear HO_6; clear BK740; clear HB; clear HO_7; have HO_6 := n0_; have BK740 := n1_; have HB := n2_; have HO744 := n3_; clear n0_ n1_ n2_ n3_; clear ho hb hg hat))
      go_roundg k2
      case measure => have := HJ2.out; have := HK2.out; omega
      case rel => exact ⟨(y742), (wrap64 (x22_2 + 1)), (by first | rfl | (simp; done) | (simp [*]; done)), H', ⟨by have := HJ2.out; have := HK2.out; omega⟩, ⟨by (with_reducible repeat (first | apply Kd.R_alloc | apply Kd.R_drewN | apply Kd.R_drew)); exact Kd.R_mono HO_6.out (fun _ hk => hk.2)⟩, ⟨by (with_reducible repeat (first | apply Kd.R_alloc | apply Kd.R_drewN | apply Kd.R_drew)); exact HO744.out⟩, ⟨by repeat (first | (with_reducible first | exact HB.out | apply bA_ | apply bN_ | apply b1_ | refine below_set ?_ GE740.out) | exact HB.out)⟩⟩
   subst c9
   have H1 : (some (([] : List Int), false)) = some (r1, r2) := by rw [if_pos rfl] at H; exact H
   clear H
   have H := H1
   clear H1
   simp only [Option.some.injEq, Prod.mk.injEq] at H
   obtain ⟨rfl, rfl⟩ := H
   go_wp2
   go_ret2
   exact ⟨_, by first | rfl | (simp [errW_none, errW_some] <;> rfl) | (simp [*, errW_none, errW_some] <;> rfl), by first | exact Kd.R_nil _ _ _ _ _ | exact Kd.N_nil _ _ _ _ _ | exact Kd.V_nil _ _ _ _ _ | exact Kd.Q_nil _ _ _ _ _ | exact Kd.S_nil _ _ _ _ _, by repeat (first | (with_reducible first | exact HB.out | apply bA_ | apply bN_ | apply b1_) | exact HB.out)⟩

end Go.Proofs.Ytenfngleiohbhaa.P
