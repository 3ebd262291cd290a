/- Written by a program of this session (wip/p2) out of the translation: plain Lean functions, and that the calls of the Go functions come to what these say. Conditions: as each contract states. -/
import Derived.Test.YtenfngleiohbhaaQFnExactCutPart6
namespace Go.Proofs.Ytenfngleiohbhaa.P
open Go.RowKit Go.Proofs.YtenfngleiohbhaaW.PrintWords Go.Proofs.YtenfngleiohbhaaW.PrintLast Go.Proofs.YtenfngleiohbhaaW.PrintMore
attribute [local go_sem] max2_int min2_int max_two min_two max_three min_three max_four min_four   -- for this text's walks alone
set_option linter.unusedVariables false
set_option linter.unusedSimpArgs false

/-! ### impl_CutPart: function 41 -/
mutual
def impl_CutPart.j0 : Nat → List (S45) → Int → Bool → Option ((List (S45)) × Bool)
  | 0, _, _, _ => none
  | k + 1, x0, x1, x20 => if x20 = true then (some (([] : List (S45)), false)) else (if 0 ≤ (x0.length : Int) then (if ((x0.length : Int) : Int).toNat ≤ 35184372088832 then (impl_CutPart.l0 k x1 (List.replicate ((x0.length : Int) : Int).toNat 0) ([] : List (S45)) x0 (x0.length : Int) 0) else (none)) else (none))
def impl_CutPart.l0 : Nat → Int → List Int → List (S45) → List (S45) → Int → Int → Option ((List (S45)) × Bool)
  | 0, _, _, _, _, _, _ => none
  | k + 1, x1, x6, x7, x24, x25, x26 => if x26 < x25 then (if 0 ≤ x26 then (if x26 < (x24.length : Int) then (if x26 = x1 then (impl_CutPart.j2 k x1 x6 x7 x26 x24 x25 x26 true ((rd_T45 x24 x26).f0) ((rd_T45 x24 x26).f1.f0) ((rd_T45 x24 x26).f1.f1) ((rd_T45 x24 x26).f2) ((rd_T45 x24 x26).f3) ((rd_T45 x24 x26).f4)) else (if ((rd_T45 x24 x26).f0) ≥ 0 then (if 0 ≤ ((rd_T45 x24 x26).f0) then (if ((rd_T45 x24 x26).f0) < (x6.length : Int) then (impl_CutPart.j2 k x1 x6 x7 x26 x24 x25 x26 (decide ((rd x6 ((rd_T45 x24 x26).f0)) < 0)) ((rd_T45 x24 x26).f0) ((rd_T45 x24 x26).f1.f0) ((rd_T45 x24 x26).f1.f1) ((rd_T45 x24 x26).f2) ((rd_T45 x24 x26).f3) ((rd_T45 x24 x26).f4)) else (none)) else (none)) else (impl_CutPart.j2 k x1 x6 x7 x26 x24 x25 x26 false ((rd_T45 x24 x26).f0) ((rd_T45 x24 x26).f1.f0) ((rd_T45 x24 x26).f1.f1) ((rd_T45 x24 x26).f2) ((rd_T45 x24 x26).f3) ((rd_T45 x24 x26).f4)))) else (none)) else (none)) else ((impl_isHoseLine.f k x7).bind fun t621 => (if t621 = true then (some (x7, true)) else (some (([] : List (S45)), false))))
def impl_CutPart.j2 : Nat → Int → List Int → List (S45) → Int → List (S45) → Int → Int → Bool → Int → Int → Int → Int → Int → Int → Option ((List (S45)) × Bool)
  | 0, _, _, _, _, _, _, _, _, _, _, _, _, _, _ => none
  | k + 1, x1, x6, x7, x8, x24, x25, x26, x46, x624000, x624001, x624002, x624003, x624004, x624005 => if x46 = true then (if 0 ≤ x8 then (if x8 < (x6.length : Int) then (impl_CutPart.l0 k x1 (x6.set (x8 : Int).toNat (-1)) x7 x24 x25 (wrap64 (x26 + 1))) else (none)) else (none)) else (if 0 ≤ x8 then (if x8 < (x6.length : Int) then ((some (x6.set (x8 : Int).toNat (x7.length : Int) : List Int)).bind fun y626 => (if x624000 ≥ 0 then (if 0 ≤ x624000 then (if x624000 < (x6.length : Int) then (if x7.length < 2932031007402 then (impl_CutPart.l0 k x1 y626 (x7 ++ [(⟨rd y626 x624000, (⟨x624001, x624002⟩ : S43), x624003, x624004, x624005⟩ : S45)]) x24 x25 (wrap64 (x26 + 1))) else (none)) else (none)) else (none)) else (if x7.length < 2932031007402 then (impl_CutPart.l0 k x1 y626 (x7 ++ [(⟨x624000, (⟨x624001, x624002⟩ : S43), x624003, x624004, x624005⟩ : S45)]) x24 x25 (wrap64 (x26 + 1))) else (none)))) else (none)) else (none))
end
def impl_CutPart.f (k : Nat) (l0 : List (S45)) (a1 : Int) : Option ((List (S45)) × Bool) := (impl_isHoseLine.f k l0).bind fun t616 => (if t616 = true then ((impl_inside.f a1 0 (wrap64 ((l0.length : Int) - 1))).bind fun t617 => (impl_CutPart.j0 k l0 a1 (!t617))) else (impl_CutPart.j0 k l0 a1 true))
theorem impl_CutPart.mono_l : ∀ k, (∀ y0 y1 y2, LeO (impl_CutPart.j0 k y0 y1 y2) (impl_CutPart.j0 (k + 1) y0 y1 y2)) ∧ (∀ y0 y1 y2 y3 y4 y5, LeO (impl_CutPart.l0 k y0 y1 y2 y3 y4 y5) (impl_CutPart.l0 (k + 1) y0 y1 y2 y3 y4 y5)) ∧ (∀ y0 y1 y2 y3 y4 y5 y6 y7 y8 y9 y10 y11 y12 y13, LeO (impl_CutPart.j2 k y0 y1 y2 y3 y4 y5 y6 y7 y8 y9 y10 y11 y12 y13) (impl_CutPart.j2 (k + 1) y0 y1 y2 y3 y4 y5 y6 y7 y8 y9 y10 y11 y12 y13))
 | 0 => ⟨fun _ _ _ r h => by simp [impl_CutPart.j0] at h, fun _ _ _ _ _ _ r h => by simp [impl_CutPart.l0] at h, fun _ _ _ _ _ _ _ _ _ _ _ _ _ _ r h => by simp [impl_CutPart.j2] at h⟩
 | k + 1 => by
  obtain ⟨ih0, ih1, ih2⟩ := impl_CutPart.mono_l k
  refine ⟨?_, ?_, ?_⟩
  · intro y0 y1 y2
    unfold impl_CutPart.j0
    repeat' first
    | (with_reducible exact ih0 _ _ _)
    | (with_reducible exact ih1 _ _ _ _ _ _)
    | (with_reducible exact ih2 _ _ _ _ _ _ _ _ _ _ _ _ _ _)
    | (with_reducible exact impl_isHoseLine.mono _ _)
    | (with_reducible exact LeO.refl _)
    | (with_reducible exact LeO.none _)
    | (with_reducible refine LeO.ite ?_ ?_)
    | (with_reducible refine LeO.bind ?_ (fun _ => ?_))
    | exact ih0 _ _ _
    | exact ih1 _ _ _ _ _ _
    | exact ih2 _ _ _ _ _ _ _ _ _ _ _ _ _ _
    | exact impl_isHoseLine.mono _ _
    | exact LeO.none _
    | refine LeO.ite ?_ ?_
    | refine LeO.bind ?_ (fun _ => ?_)
  · intro y0 y1 y2 y3 y4 y5
    unfold impl_CutPart.l0
    repeat' first
    | (with_reducible exact ih0 _ _ _)
    | (with_reducible exact ih1 _ _ _ _ _ _)
    | (with_reducible exact ih2 _ _ _ _ _ _ _ _ _ _ _ _ _ _)
    | (with_reducible exact impl_isHoseLine.mono _ _)
    | (with_reducible exact LeO.refl _)
    | (with_reducible exact LeO.none _)
    | (with_reducible refine LeO.ite ?_ ?_)
    | (with_reducible refine LeO.bind ?_ (fun _ => ?_))
    | exact ih0 _ _ _
    | exact ih1 _ _ _ _ _ _
    | exact ih2 _ _ _ _ _ _ _ _ _ _ _ _ _ _
    | exact impl_isHoseLine.mono _ _
    | exact LeO.none _
    | refine LeO.ite ?_ ?_
    | refine LeO.bind ?_ (fun _ => ?_)
  · intro y0 y1 y2 y3 y4 y5 y6 y7 y8 y9 y10 y11 y12 y13
    unfold impl_CutPart.j2
    repeat' first
    | (with_reducible exact ih0 _ _ _)
    | (with_reducible exact ih1 _ _ _ _ _ _)
    | (with_reducible exact ih2 _ _ _ _ _ _ _ _ _ _ _ _ _ _)
    | (with_reducible exact impl_isHoseLine.mono _ _)
    | (with_reducible exact LeO.refl _)
    | (with_reducible exact LeO.none _)
    | (with_reducible refine LeO.ite ?_ ?_)
    | (with_reducible refine LeO.bind ?_ (fun _ => ?_))
    | exact ih0 _ _ _
    | exact ih1 _ _ _ _ _ _
    | exact ih2 _ _ _ _ _ _ _ _ _ _ _ _ _ _
    | exact impl_isHoseLine.mono _ _
    | exact LeO.none _
    | refine LeO.ite ?_ ?_
    | refine LeO.bind ?_ (fun _ => ?_)
theorem impl_CutPart.mono : ∀ a0 a1 k, LeO (impl_CutPart.f k a0 a1) (impl_CutPart.f (k + 1) a0 a1) := by
 intro a0 a1 k
 obtain ⟨ih0, ih1, ih2⟩ := impl_CutPart.mono_l k
 unfold impl_CutPart.f
 repeat' first
  | (with_reducible exact ih0 _ _ _)
  | (with_reducible exact ih1 _ _ _ _ _ _)
  | (with_reducible exact ih2 _ _ _ _ _ _ _ _ _ _ _ _ _ _)
  | (with_reducible exact impl_isHoseLine.mono _ _)
  | (with_reducible exact LeO.refl _)
  | (with_reducible exact LeO.none _)
  | (with_reducible refine LeO.ite ?_ ?_)
  | (with_reducible refine LeO.bind ?_ (fun _ => ?_))
  | exact ih0 _ _ _
  | exact ih1 _ _ _ _ _ _
  | exact ih2 _ _ _ _ _ _ _ _ _ _ _ _ _ _
  | exact impl_isHoseLine.mono _ _
  | exact LeO.none _
  | refine LeO.ite ?_ ?_
  | refine LeO.bind ?_ (fun _ => ?_)
set_option maxHeartbeats 8000000 in
set_option maxRecDepth 100000 in
theorem impl_CutPart.calls (k : Nat) (A0 : Option Addr) (c0 : Nat) (l0 : List (S45)) (a1 : Int) (r1 : List (S45)) (r2 : Bool) (w : World) (hr0 : Kd.C k45 w A0 l0.length l0) (hc0 : l0.length ≤ c0) (h : impl_CutPart.f k l0 a1 = some (r1, r2)) :
  Calls Try.prog 41 #[.slice A0 l0.length c0, .int .i64 a1] w fun e w' => ∃ v0_ : Value, e = .returned (.tuple #[v0_, .bool r2]) ∧ Kd.R k45 45 w' w.heap.size (fun _ => True) v0_ r1 ∧ Below w.heap.size w w' := by
 have hu45 := Try.underlying45
 have HR0 := Aside0.mk hr0
 have HC0 := Aside0.mk hc0
 clear hr0 hc0
 have HB := Aside0.mk (Below.refl w.heap.size w)
 have H : ((impl_isHoseLine.f k l0).bind fun t616 => (if t616 = true then ((impl_inside.f a1 0 (wrap64 ((l0.length : Int) - 1))).bind fun t617 => (impl_CutPart.j0 k l0 a1 (!t617))) else (impl_CutPart.j0 k l0 a1 true))) = some (r1, r2) := h
 clear h
 have HC3 := Aside0.mk H
 clear H
 go_enter Try.func41, Try.ntmps41
 go_upto_region 1 with (fail)
 go_cut [20] (fun v20 wc => ∃ (kq : Nat) (x20_2 : Bool), v20 = .bool x20_2 ∧ Aside0 (impl_CutPart.j0 kq l0 a1 x20_2 = some (r1, r2)) ∧ Aside0 (kq ≤ k) ∧ Aside0 (Below w.heap.size w wc))
 case first =>
  have H := HC3.out
  clear HC3
  replace H := Option.bind_eq_some_iff.mp H
  obtain ⟨t616, A40, H⟩ := H
  replace H : (if t616 = true then ((impl_inside.f a1 0 (wrap64 ((l0.length : Int) - 1))).bind fun t617 => (impl_CutPart.j0 k l0 a1 (!t617))) else (impl_CutPart.j0 k l0 a1 true)) = some (r1, r2) := H
  have A4 := Aside0.mk A40
  clear A40
  by_cases c5 : t616 = true
  case neg =>
   replace c5 := Bool.eq_false_iff.mpr c5
   subst c5
   have H1 : (impl_CutPart.j0 k l0 a1 true) = some (r1, r2) := by rw [if_neg (show ¬ (false = true) by decide)] at H; exact H
   clear H
   have H := H1
   clear H1
   have H' := Aside0.mk H
   clear H
   go_wp2_with (first | ((with_reducible refine gate_callee (f := 52) rfl ?_); refine goesL_ (some 11) rfl rfl Try.func52 (by kernel_rfl) rfl #[.slice A0 l0.length c0] rfl (by (try simp only [List.map_toArray, List.map_cons, List.map_nil]); first | done | rfl) ?_; (with_reducible refine (impl_isHoseLine.calls k _ _ l0 false _ ?side1 ?side2 A4.out).mono ?_); (case side1 => repeat (first | exact (Kd.C_below HR0.out HB.out) | (with_reducible refine Kd.C_alloc ?_ _) | (with_reducible refine Kd.C_drewN ?_ _) | (with_reducible refine Kd.C_drew ?_))); (case side2 => exact HC0.out); rintro e w8 ⟨rfl, hb⟩; refine ⟨_, rfl, ?_⟩; have n0_ := Aside0.mk (below_step (by repeat (first | (with_reducible first | exact HB.out | apply bA_ | apply bN_ | apply b1_) | exact HB.out)) hb); clear HB; have HB := n0_; clear n0_; (try clear hb); (try clear hb2); (try clear hk); (try clear hi)))
   go_meet
   case rel => exact ⟨_, (true), (by first | rfl | (simp; done) | (simp [*]; done)), H', ⟨by first | omega | exact Nat.le_refl _⟩, ⟨by repeat (first | (with_reducible first | exact HB.out | apply bA_ | apply bN_ | apply b1_) | exact HB.out)⟩⟩
  subst c5
  have H1 : ((impl_inside.f a1 0 (wrap64 ((l0.length : Int) - 1))).bind fun t617 => (impl_CutPart.j0 k l0 a1 (!t617))) = some (r1, r2) := by rw [if_pos rfl] at H; exact H
  clear H
  have H := H1
  clear H1
  replace H := Option.bind_eq_some_iff.mp H
  obtain ⟨t617, A60, H⟩ := H
  replace H : (impl_CutPart.j0 k l0 a1 (!t617)) = some (r1, r2) := H
  have A6 := Aside0.mk A60
  clear A60
  have H' := Aside0.mk H
  clear H
  go_wp2_with (first | ((with_reducible refine gate_callee (f := 52) rfl ?_); refine goesL_ (some 11) rfl rfl Try.func52 (by kernel_rfl) rfl #[.slice A0 l0.length c0] rfl (by (try simp only [List.map_toArray, List.map_cons, List.map_nil]); first | done | rfl) ?_; (with_reducible refine (impl_isHoseLine.calls k _ _ l0 true _ ?side1 ?side2 A4.out).mono ?_); (case side1 => repeat (first | exact (Kd.C_below HR0.out HB.out) | (with_reducible refine Kd.C_alloc ?_ _) | (with_reducible refine Kd.C_drewN ?_ _) | (with_reducible refine Kd.C_drew ?_))); (case side2 => exact HC0.out); rintro e w7 ⟨rfl, hb⟩; refine ⟨_, rfl, ?_⟩; have n0_ := Aside0.mk (below_step (by repeat (first | (with_reducible first | exact HB.out | apply bA_ | apply bN_ | apply b1_) | exact HB.out)) hb); clear HB; have HB := n0_; clear n0_; (try clear hb); (try clear hb2); (try clear hk); (try clear hi)) | (go_at_call 68; (with_reducible refine (impl_inside.calls a1 0 (wrap64 ((l0.length : Int) - 1)) t617 _ A6.out).mono ?_); rintro e w' ⟨rfl, ⟨nd, rfl⟩⟩))
  go_meet
  case rel => exact ⟨_, (!t617), (by first | rfl | (simp; done) | (simp [*]; done)), H', ⟨by first | omega | exact Nat.le_refl _⟩, ⟨by repeat (first | (with_reducible first | exact HB.out | apply bA_ | apply bN_ | apply b1_) | exact HB.out)⟩⟩
 case rest =>
  clear HC3
  try clear p2
  try clear c4
  try clear c5
  try clear p6
  obtain ⟨kq, x20_2, rfl, HA, HJ2, HB⟩ := hcut
  cases kq with
  | zero => exact absurd HA.out (by simp [impl_CutPart.j0])
  | succ kj2 =>
   have H := HA.out
   clear HA
   simp only [impl_CutPart.j0] at H
   by_cases c9 : x20_2 = true
   case neg =>
    replace c9 := Bool.eq_false_iff.mpr c9
    subst c9
    have H1 : (if 0 ≤ (l0.length : Int) then (if ((l0.length : Int) : Int).toNat ≤ 35184372088832 then (impl_CutPart.l0 kj2 a1 (List.replicate ((l0.length : Int) : Int).toNat 0) ([] : List (S45)) l0 (l0.length : Int) 0) else (none)) else (none)) = some (r1, r2) := by rw [if_neg (show ¬ (false = true) by decide)] at H; exact H
    clear H
    have H := H1
    clear H1
    by_cases c10 : 0 ≤ (l0.length : Int)
    case neg =>
     rw [if_neg c10] at H
     exact absurd H (by simp)
    rw [if_pos c10] at H
    have c10b0 := eq_true c10
    have c10b1 : decide (0 ≤ (l0.length : Int)) = true := decide_eq_true c10
    clear c10
    by_cases c11 : ((l0.length : Int) : Int).toNat ≤ 35184372088832
    case neg =>
     rw [if_neg c11] at H
     exact absurd H (by simp)
    rw [if_pos c11] at H
    have c11b0 := eq_true c11
    have c11b1 : decide (((l0.length : Int) : Int).toNat ≤ 35184372088832) = true := decide_eq_true c11
    clear c11
    obtain ⟨y618, hy618⟩ : ∃ y_ : List Int, y_ = (List.replicate ((l0.length : Int) : Int).toNat 0) := ⟨_, rfl⟩
    replace H : (impl_CutPart.l0 kj2 a1 y618 ([] : List (S45)) l0 (l0.length : Int) 0) = some (r1, r2) := by first | (rw [hy618]; with_reducible exact H) | (have H2_ := (Option.bind_some _ _).symm.trans H; rw [hy618]; with_reducible exact H2_) | (have H2_ := (Option.bind_some _ _).symm.trans H; with_reducible exact H2_) | with_reducible exact H | (rw [hy618]; exact H) | exact H
    have Ny618 := Aside0.mk hy618
    clear hy618
    have H' := Aside0.mk H
    clear H
    go_wp2_with (first | ((with_reducible refine gate_dst (N := 23) rfl ?_); (try (refine gate_guard (by rfl) ?_; dsimp only)); refine Kd.R_make (Kd.int .i64) _ 3 rfl (N := 23) rfl 31 _ _ rfl (l0.length : Int) rfl rfl Try.underlying31 (.int .i64 0) 8 info3 rfl (by decide) (by omega) 0 (ok := fun _ => True) (okp := fun _ => True) rfl (fun _ hk => hk) trivial (of_decide_eq_true (by assumption)) (Nat.le_trans (Nat.mul_le_mul_right _ (of_decide_eq_true (by assumption) : (l0.length : Int).toNat ≤ 35184372088832)) (by omega)) (Below.refl _ _) (Nat.le_refl _) ?_; intro v619 w12 ho13 hb hg_ hnew_; clear hg_ hnew_; (first | rw [← Ny618.out] at ho13 | (simp only [Int.reduceToNat] at ho13; rw [← Ny618.out] at ho13)); have n0_ := Aside0.mk (Kd.R_lower ho13 (below_size (by repeat (first | (with_reducible first | exact HB.out | apply bA_ | apply bN_ | apply b1_) | exact HB.out)))); have n1_ := Aside0.mk (below_step (by repeat (first | (with_reducible first | exact HB.out | apply bA_ | apply bN_ | apply b1_) | exact HB.out)) hb); clear HB; have HO620 := n0_; have HB := n1_; clear n0_ n1_; clear hb ho13))
    go_loopg [7, 26] kj2 (fun kq v7 v26 w' => ∃ (x6_2 : List Int) (x7_2 : List (S45)) (x26_2 : Int), v26 = .int .i64 x26_2 ∧ Aside0 (impl_CutPart.l0 kq a1 x6_2 x7_2 l0 (l0.length : Int) x26_2 = some (r1, r2)) ∧ Aside0 (kq ≤ kj2) ∧ Aside0 (Kd.R (Kd.int .i64) 3 w' w.heap.size (fun _ => True) v619 x6_2) ∧ Aside0 (Kd.R k45 45 w' w.heap.size (fun _ => True) v7 x7_2) ∧ Aside0 (Below w.heap.size w w'))
    case atStart => exact ⟨(y618), (([] : List (S45))), (0), (by first | rfl | (simp; done) | (simp [*]; done)), H', ⟨Nat.le_refl _⟩, ⟨by (with_reducible repeat (first | apply Kd.R_alloc | apply Kd.R_drewN | apply Kd.R_drew)); exact HO620.out⟩, ⟨by first | exact Kd.R_nil _ _ _ _ _ | exact Kd.N_nil _ _ _ _ _ | exact Kd.V_nil _ _ _ _ _ | exact Kd.Q_nil _ _ _ _ _ | exact Kd.S_nil _ _ _ _ _⟩, ⟨by repeat (first | (with_reducible first | exact HB.out | apply bA_ | apply bN_ | apply b1_) | exact HB.out)⟩⟩
    case round =>
     clear H'
     try clear c1
     try clear p2
     try clear c4
     try clear c5
     try clear p6
     try clear c9
     try clear c10
     try clear c10b0
     try clear c10b1
     try clear c11
     try clear c11b0
     try clear c11b1
     try clear p2
     try clear p6
     obtain ⟨x6_2, x7_2, x26_2, rfl, HA, HK2, HO_6, HO_7, HB⟩ := hrel
     cases gk with
     | zero => exact absurd HA.out (by simp [impl_CutPart.l0])
     | succ k2 =>
      have H := HA.out
      clear HA
      simp only [impl_CutPart.l0] at H
      by_cases c14 : x26_2 < (l0.length : Int)
      case neg =>
       rw [if_neg c14] at H
       have c14b0 : decide (x26_2 < (l0.length : Int)) = false := decide_eq_false c14
       clear c14
       replace H := Option.bind_eq_some_iff.mp H
       obtain ⟨t621, A510, H⟩ := H
       replace H : (if t621 = true then (some (x7_2, true)) else (some (([] : List (S45)), false))) = some (r1, r2) := H
       have A51 := Aside0.mk A510
       clear A510
       by_cases c52 : t621 = true
       case neg =>
        replace c52 := Bool.eq_false_iff.mpr c52
        subst c52
        have H1 : (some (([] : List (S45)), false)) = some (r1, r2) := by rw [if_neg (show ¬ (false = true) by decide)] at H; exact H
        clear H
        have H := H1
        clear H1
        simp only [Option.some.injEq, Prod.mk.injEq] at H
        obtain ⟨rfl, rfl⟩ := H
        obtain ⟨Ao55, co55, eo55⟩ := Kd.R_slice HO_7.out
        subst eo55
        go_wp2_with (first | ((with_reducible refine gate_callee (f := 52) rfl ?_); refine goesL_ (some 70) rfl rfl Try.func52 (by kernel_rfl) rfl #[.slice Ao55 x7_2.length co55] rfl (by (try simp only [List.map_toArray, List.map_cons, List.map_nil]); first | done | rfl) ?_; (with_reducible refine (impl_isHoseLine.calls k2 _ _ x7_2 false _ ?side1 ?side2 A51.out).mono ?_); (case side1 => repeat (first | exact (Kd.R_reads' HO_7.out).2.2 | (with_reducible refine Kd.C_alloc ?_ _) | (with_reducible refine Kd.C_drewN ?_ _) | (with_reducible refine Kd.C_drew ?_))); (case side2 => exact (Kd.R_reads' HO_7.out).2.1); rintro e w56 ⟨rfl, hb⟩; refine ⟨_, rfl, ?_⟩; have n0_ := Aside0.mk (Kd.R_below (by (with_reducible repeat (first | apply Kd.R_alloc | apply Kd.R_drewN | apply Kd.R_drew)); exact HO_6.out) hb); have n1_ := Aside0.mk (Kd.R_below (by (with_reducible repeat (first | apply Kd.R_alloc | apply Kd.R_drewN | apply Kd.R_drew)); exact HO_7.out) hb); have n2_ := Aside0.mk (below_step (by repeat (first | (with_reducible first | exact HB.out | apply bA_ | apply bN_ | apply b1_) | exact HB.out)) hb); clear HO_6; clear HO_7; clear HB; have HO_6 := n0_; have HO_7 := n1_; have HB := n2_; clear n0_ n1_ n2_; (try clear hb); (try clear hb2); (try clear hk); (try clear hi)))
        go_ret2
        exact ⟨_, by first | rfl | (simp [errW_none, errW_some] <;> rfl) | (simp [*, errW_none, errW_some] <;> rfl), by first | exact Kd.R_nil _ _ _ _ _ | exact Kd.N_nil _ _ _ _ _ | exact Kd.V_nil _ _ _ _ _ | exact Kd.Q_nil _ _ _ _ _ | exact Kd.S_nil _ _ _ _ _, by repeat (first | (with_reducible first | exact HB.out | apply bA_ | apply bN_ | apply b1_) | exact HB.out)⟩
       subst c52
       have H1 : (some (x7_2, true)) = some (r1, r2) := by rw [if_pos rfl] at H; exact H
       clear H
       have H := H1
       clear H1
       simp only [Option.some.injEq, Prod.mk.injEq] at H
       obtain ⟨rfl, rfl⟩ := H
       obtain ⟨Ao53, co53, eo53⟩ := Kd.R_slice HO_7.out
       subst eo53
       go_wp2_with (first | ((with_reducible refine gate_callee (f := 52) rfl ?_); refine goesL_ (some 70) rfl rfl Try.func52 (by kernel_rfl) rfl #[.slice Ao53 x7_2.length co53] rfl (by (try simp only [List.map_toArray, List.map_cons, List.map_nil]); first | done | rfl) ?_; (with_reducible refine (impl_isHoseLine.calls k2 _ _ x7_2 true _ ?side1 ?side2 A51.out).mono ?_); (case side1 => repeat (first | exact (Kd.R_reads' HO_7.out).2.2 | (with_reducible refine Kd.C_alloc ?_ _) | (with_reducible refine Kd.C_drewN ?_ _) | (with_reducible refine Kd.C_drew ?_))); (case side2 => exact (Kd.R_reads' HO_7.out).2.1); rintro e w54 ⟨rfl, hb⟩; refine ⟨_, rfl, ?_⟩; have n0_ := Aside0.mk (Kd.R_below (by (with_reducible repeat (first | apply Kd.R_alloc | apply Kd.R_drewN | apply Kd.R_drew)); exact HO_6.out) hb); have n1_ := Aside0.mk (Kd.R_below (by (with_reducible repeat (first | apply Kd.R_alloc | apply Kd.R_drewN | apply Kd.R_drew)); exact HO_7.out) hb); have n2_ := Aside0.mk (below_step (by repeat (first | (with_reducible first | exact HB.out | apply bA_ | apply bN_ | apply b1_) | exact HB.out)) hb); clear HO_6; clear HO_7; clear HB; have HO_6 := n0_; have HO_7 := n1_; have HB := n2_; clear n0_ n1_ n2_; (try clear hb); (try clear hb2); (try clear hk); (try clear hi)))
       go_ret2
       exact ⟨_, by first | rfl | (simp [errW_none, errW_some] <;> rfl) | (simp [*, errW_none, errW_some] <;> rfl), by (with_reducible repeat (first | apply Kd.R_alloc | apply Kd.R_drewN | apply Kd.R_drew)); exact HO_7.out, by repeat (first | (with_reducible first | exact HB.out | apply bA_ | apply bN_ | apply b1_) | exact HB.out)⟩
      rw [if_pos c14] at H
      have c14b0 : decide (x26_2 < (l0.length : Int)) = true := decide_eq_true c14
      clear c14
      by_cases c15 : 0 ≤ x26_2
      case neg =>
       rw [if_neg c15] at H
       exact absurd H (by simp)
      rw [if_pos c15] at H
      have c15b0 : decide (0 ≤ x26_2) = true := decide_eq_true c15
      clear c15
      by_cases c16 : x26_2 < (l0.length : Int)
      case neg =>
       rw [if_neg c16] at H
       exact absurd H (by simp)
      rw [if_pos c16] at H
      have c16b0 : decide (x26_2 < (l0.length : Int)) = true := decide_eq_true c16
      clear c16
      have HC17 := Aside0.mk H
      clear H
      have p622 : 0 ≤ (x26_2 : Int) := of_decide_eq_true (by assumption)
      have q622 : x26_2 < (l0.length : Int) := of_decide_eq_true (by assumption)
      obtain ⟨ad622, e622, hx622_0, hx622_1, hx622_2, hx622_3, hx622_4, hx622_5⟩ := at_T45 HR0.out x26_2 p622 q622
      cases e622
      replace hx622_0 := cl_ HB.out hx622_0
      replace hx622_1 := cl_ HB.out hx622_1
      replace hx622_2 := cl_ HB.out hx622_2
      replace hx622_3 := cl_ HB.out hx622_3
      replace hx622_4 := cl_ HB.out hx622_4
      replace hx622_5 := cl_ HB.out hx622_5
      replace p622 := eq_true p622
      replace q622 := eq_true q622
      go_upto_region 8 with (first | ((with_reducible refine gate_dst (N := 9) rfl ?_); (try (refine gate_guard (by rfl) ?_; dsimp only)); refine box_event ?hg (N := 9) ?hd (cs := #[.int .i64 0, .int .i64 0, .int .i64 0, .int .i64 0, .int .i64 0, .int .i64 0]) (t := 45) ?hr ?_; (case hd => rfl); (case hg => rfl); (case hr => first | (go_simp; done) | (go_simp; rfl)); intro gb623 hg w18 hbox hb; have n0_ := Aside0.mk (Kd.R_below (by (with_reducible repeat (first | apply Kd.R_alloc | apply Kd.R_drewN | apply Kd.R_drew)); exact HO_6.out) hb); have n1_ := Aside0.mk (Kd.R_below (Kd.R_elderB (by (with_reducible repeat (first | apply Kd.R_alloc | apply Kd.R_drewN | apply Kd.R_drew)); exact HO_7.out) gb623 (Nat.le_of_eq hg.symm)) hb); have n2_ := Aside0.mk (below_step (by repeat (first | (with_reducible first | exact HB.out | apply bA_ | apply bN_ | apply b1_) | exact HB.out)) hb); have n3_ := Aside0.mk (hbox); have n4_ := Aside0.mk ((by rw [hg]; exact (below_size (by repeat (first | (with_reducible first | exact HB.out | apply bA_ | apply bN_ | apply b1_) | exact HB.out))) : w.heap.size ≤ gb623)); have n5_ := n4_; clear HO_6; clear HO_7; clear HB; have HO_6 := n0_; have HO_7 := n1_; have HB := n2_; have BK623 := n3_; have GW623 := n4_; have GE623 := n5_; clear n0_ n1_ n2_ n3_ n4_ n5_; clear hb hbox hg; obtain ⟨hcz19_0, hcz19_1, hcz19_2, hcz19_3, hcz19_4, hcz19_5, hfz19_0, hfz19_1, hfz19_2, hfz19_3, hfz19_4, hfz19_5⟩ := blk6_ BK623.out))
      (try simp only [Act.put, List.setIfInBounds_toArray, List.set_cons_zero, List.set_cons_succ])
      go_cut [46] (fun v46 wc => ∃ (kq : Nat) (x46_16 : Bool), v46 = .bool x46_16 ∧ Aside0 (impl_CutPart.j2 kq a1 x6_2 x7_2 x26_2 l0 (l0.length : Int) x26_2 x46_16 ((rd_T45 l0 x26_2).f0) ((rd_T45 l0 x26_2).f1.f0) ((rd_T45 l0 x26_2).f1.f1) ((rd_T45 l0 x26_2).f2) ((rd_T45 l0 x26_2).f3) ((rd_T45 l0 x26_2).f4) = some (r1, r2)) ∧ Aside0 (kq ≤ k2) ∧ Aside0 (Kd.R (Kd.int .i64) 3 wc w.heap.size (fun _ => True) v619 x6_2) ∧ Aside0 (Kd.R k45 45 wc w.heap.size (fun k_ => k_ ≠ gb623) u7 x7_2) ∧ Aside0 (wc.heap[gb623]? = some (.cells #[.int .i64 ((rd_T45 l0 x26_2).f0), .int .i64 ((rd_T45 l0 x26_2).f1.f0), .int .i64 ((rd_T45 l0 x26_2).f1.f1), .int .i64 ((rd_T45 l0 x26_2).f2), .int .i64 ((rd_T45 l0 x26_2).f3), .int .i64 ((rd_T45 l0 x26_2).f4)] 45 (0, 0))) ∧ Aside0 (Below w.heap.size w wc))
      case first =>
       have H := HC17.out
       clear HC17
       by_cases c20 : x26_2 = a1
       case neg =>
        rw [if_neg c20] at H
        have c20b0 : (x26_2 == a1) = false := beq_eq_false_iff_ne.mpr c20
        have c20b1 : (x26_2 != a1) = true := bne_iff_ne.mpr c20
        (first | rw [c20b0] | (simp only [i64_w, i32_w]; rw [c20b0]) | skip)
        by_cases c21 : ((rd_T45 l0 x26_2).f0) ≥ 0
        case neg =>
         rw [if_neg c21] at H
         have c21b0 : decide (0 ≤ ((rd_T45 l0 x26_2).f0)) = false := decide_eq_false c21
         clear c21
         have H' := Aside0.mk H
         clear H
         obtain ⟨hcz26_0, hcz26_1, hcz26_2, hcz26_3, hcz26_4, hcz26_5, hfz26_0, hfz26_1, hfz26_2, hfz26_3, hfz26_4, hfz26_5⟩ := blk6_ BK623.out
         go_wp2
         go_meet
         case rel => exact ⟨_, (false), (by first | rfl | (simp; done) | (simp [*]; done)), H', ⟨by have := HJ2.out; have := HK2.out; first | omega | exact Nat.le_refl _⟩, ⟨by (with_reducible repeat (first | apply Kd.R_alloc | apply Kd.R_drewN | apply Kd.R_drew)); exact Kd.R_mono (Kd.R_far (p := ⟨gb623, 5, none⟩) (Kd.R_far (p := ⟨gb623, 4, none⟩) (Kd.R_far (p := ⟨gb623, 3, none⟩) (Kd.R_far (p := ⟨gb623, 2, none⟩) (Kd.R_far (p := ⟨gb623, 1, none⟩) (Kd.R_far (p := ⟨gb623, 0, none⟩) (Kd.R_types HO_6.out BK623.out (by decide)) (fun _ hk => hk.2) (.int .i64 ((rd_T45 l0 x26_2).f0))) (fun _ hk => hk.2) (.int .i64 ((rd_T45 l0 x26_2).f1.f0))) (fun _ hk => hk.2) (.int .i64 ((rd_T45 l0 x26_2).f1.f1))) (fun _ hk => hk.2) (.int .i64 ((rd_T45 l0 x26_2).f2))) (fun _ hk => hk.2) (.int .i64 ((rd_T45 l0 x26_2).f3))) (fun _ hk => hk.2) (.int .i64 ((rd_T45 l0 x26_2).f4))) (fun _ hk => trivial)⟩, ⟨by (with_reducible repeat (first | apply Kd.R_alloc | apply Kd.R_drewN | apply Kd.R_drew)); exact Kd.R_mono (Kd.R_far (p := ⟨gb623, 5, none⟩) (Kd.R_far (p := ⟨gb623, 4, none⟩) (Kd.R_far (p := ⟨gb623, 3, none⟩) (Kd.R_far (p := ⟨gb623, 2, none⟩) (Kd.R_far (p := ⟨gb623, 1, none⟩) (Kd.R_far (p := ⟨gb623, 0, none⟩) (Kd.R_mono HO_7.out (fun k_ hk => (⟨hk, hk.2⟩ : _ ∧ k_ ≠ gb623))) (fun _ hk => hk.2) (.int .i64 ((rd_T45 l0 x26_2).f0))) (fun _ hk => hk.2) (.int .i64 ((rd_T45 l0 x26_2).f1.f0))) (fun _ hk => hk.2) (.int .i64 ((rd_T45 l0 x26_2).f1.f1))) (fun _ hk => hk.2) (.int .i64 ((rd_T45 l0 x26_2).f2))) (fun _ hk => hk.2) (.int .i64 ((rd_T45 l0 x26_2).f3))) (fun _ hk => hk.2) (.int .i64 ((rd_T45 l0 x26_2).f4))) (fun _ hk => hk.1.2)⟩, ⟨by (with_reducible repeat (first | refine blk_drewN ?_ _ | refine blk_drew ?_ | refine blk_alloc ?_ _)); refine blk_put (cs := #[.int .i64 ((rd_T45 l0 x26_2).f0), .int .i64 ((rd_T45 l0 x26_2).f1.f0), .int .i64 ((rd_T45 l0 x26_2).f1.f1), .int .i64 ((rd_T45 l0 x26_2).f2), .int .i64 ((rd_T45 l0 x26_2).f3), .int .i64 0]) ?_ 5 _ rfl; (with_reducible repeat (first | refine blk_drewN ?_ _ | refine blk_drew ?_ | refine blk_alloc ?_ _)); refine blk_put (cs := #[.int .i64 ((rd_T45 l0 x26_2).f0), .int .i64 ((rd_T45 l0 x26_2).f1.f0), .int .i64 ((rd_T45 l0 x26_2).f1.f1), .int .i64 ((rd_T45 l0 x26_2).f2), .int .i64 0, .int .i64 0]) ?_ 4 _ rfl; (with_reducible repeat (first | refine blk_drewN ?_ _ | refine blk_drew ?_ | refine blk_alloc ?_ _)); refine blk_put (cs := #[.int .i64 ((rd_T45 l0 x26_2).f0), .int .i64 ((rd_T45 l0 x26_2).f1.f0), .int .i64 ((rd_T45 l0 x26_2).f1.f1), .int .i64 0, .int .i64 0, .int .i64 0]) ?_ 3 _ rfl; (with_reducible repeat (first | refine blk_drewN ?_ _ | refine blk_drew ?_ | refine blk_alloc ?_ _)); refine blk_put (cs := #[.int .i64 ((rd_T45 l0 x26_2).f0), .int .i64 ((rd_T45 l0 x26_2).f1.f0), .int .i64 0, .int .i64 0, .int .i64 0, .int .i64 0]) ?_ 2 _ rfl; (with_reducible repeat (first | refine blk_drewN ?_ _ | refine blk_drew ?_ | refine blk_alloc ?_ _)); refine blk_put (cs := #[.int .i64 ((rd_T45 l0 x26_2).f0), .int .i64 0, .int .i64 0, .int .i64 0, .int .i64 0, .int .i64 0]) ?_ 1 _ rfl; (with_reducible repeat (first | refine blk_drewN ?_ _ | refine blk_drew ?_ | refine blk_alloc ?_ _)); refine blk_put (cs := #[.int .i64 0, .int .i64 0, .int .i64 0, .int .i64 0, .int .i64 0, .int .i64 0]) ?_ 0 _ rfl; (with_reducible repeat (first | refine blk_drewN ?_ _ | refine blk_drew ?_ | refine blk_alloc ?_ _)); exact BK623.out⟩, ⟨by repeat (first | (with_reducible first | exact HB.out | apply bA_ | apply bN_ | apply b1_ | refine below_set ?_ GE623.out) | exact HB.out)⟩⟩
        rw [if_pos c21] at H
        have c21b0 : decide (0 ≤ ((rd_T45 l0 x26_2).f0)) = true := decide_eq_true c21
        clear c21
        by_cases c22 : 0 ≤ ((rd_T45 l0 x26_2).f0)
        case neg =>
         rw [if_neg c22] at H
         exact absurd H (by simp)
        rw [if_pos c22] at H
        have c22b0 : decide (0 ≤ ((rd_T45 l0 x26_2).f0)) = true := decide_eq_true c22
        clear c22
        by_cases c23 : ((rd_T45 l0 x26_2).f0) < (x6_2.length : Int)
        case neg =>
         rw [if_neg c23] at H
         exact absurd H (by simp)
        rw [if_pos c23] at H
        have c23b0 : decide (((rd_T45 l0 x26_2).f0) < (x6_2.length : Int)) = true := decide_eq_true c23
        clear c23
        have H' := Aside0.mk H
        clear H
        obtain ⟨hcz24_0, hcz24_1, hcz24_2, hcz24_3, hcz24_4, hcz24_5, hfz24_0, hfz24_1, hfz24_2, hfz24_3, hfz24_4, hfz24_5⟩ := blk6_ BK623.out
        obtain ⟨Ao25, co25, eo25⟩ := Kd.R_slice HO_6.out
        subst eo25
        have p624 : 0 ≤ (((rd_T45 l0 x26_2).f0) : Int) := of_decide_eq_true (by assumption)
        have q624 : ((rd_T45 l0 x26_2).f0) < (x6_2.length : Int) := of_decide_eq_true (by assumption)
        obtain ⟨ad624, e624, hx624_0⟩ := Kd.at_int (Kd.R_reads' HO_6.out).2.2 ((rd_T45 l0 x26_2).f0) p624 q624
        cases e624
        have hn624_0 : ad624.block ≠ gb623 := Kd.own_blk (Kd.R_ne HO_6.out BK623.out (by decide))
        have hn624_1 : ad624.block ≠ gb623 := Kd.own_blk (Kd.R_ne HO_6.out BK623.out (by decide))
        have hn624_2 : ad624.block ≠ gb623 := Kd.own_blk (Kd.R_ne HO_6.out BK623.out (by decide))
        have hn624_3 : ad624.block ≠ gb623 := Kd.own_blk (Kd.R_ne HO_6.out BK623.out (by decide))
        have hn624_4 : ad624.block ≠ gb623 := Kd.own_blk (Kd.R_ne HO_6.out BK623.out (by decide))
        have hn624_5 : ad624.block ≠ gb623 := Kd.own_blk (Kd.R_ne HO_6.out BK623.out (by decide))
        replace hx624_0 := (cell_far (p := ⟨gb623, 0, none⟩) (by first | exact ab_ hn624_0 | exact hn624_0) (.int .i64 ((rd_T45 l0 x26_2).f0))).trans hx624_0
        replace hx624_0 := (cell_far (p := ⟨gb623, 1, none⟩) (by first | exact ab_ hn624_1 | exact hn624_1) (.int .i64 ((rd_T45 l0 x26_2).f1.f0))).trans hx624_0
        replace hx624_0 := (cell_far (p := ⟨gb623, 2, none⟩) (by first | exact ab_ hn624_2 | exact hn624_2) (.int .i64 ((rd_T45 l0 x26_2).f1.f1))).trans hx624_0
        replace hx624_0 := (cell_far (p := ⟨gb623, 3, none⟩) (by first | exact ab_ hn624_3 | exact hn624_3) (.int .i64 ((rd_T45 l0 x26_2).f2))).trans hx624_0
        replace hx624_0 := (cell_far (p := ⟨gb623, 4, none⟩) (by first | exact ab_ hn624_4 | exact hn624_4) (.int .i64 ((rd_T45 l0 x26_2).f3))).trans hx624_0
        replace hx624_0 := (cell_far (p := ⟨gb623, 5, none⟩) (by first | exact ab_ hn624_5 | exact hn624_5) (.int .i64 ((rd_T45 l0 x26_2).f4))).trans hx624_0
        clear hn624_0
        clear hn624_1
        clear hn624_2
        clear hn624_3
        clear hn624_4
        clear hn624_5
        replace p624 := eq_true p624
        replace q624 := eq_true q624
        go_wp2
        go_meet
        case rel => exact ⟨_, (decide ((rd x6_2 ((rd_T45 l0 x26_2).f0)) < 0)), (by first | rfl | (simp; done) | (simp [*]; done)), H', ⟨by have := HJ2.out; have := HK2.out; first | omega | exact Nat.le_refl _⟩, ⟨by (with_reducible repeat (first | apply Kd.R_alloc | apply Kd.R_drewN | apply Kd.R_drew)); exact Kd.R_mono (Kd.R_far (p := ⟨gb623, 5, none⟩) (Kd.R_far (p := ⟨gb623, 4, none⟩) (Kd.R_far (p := ⟨gb623, 3, none⟩) (Kd.R_far (p := ⟨gb623, 2, none⟩) (Kd.R_far (p := ⟨gb623, 1, none⟩) (Kd.R_far (p := ⟨gb623, 0, none⟩) (Kd.R_types HO_6.out BK623.out (by decide)) (fun _ hk => hk.2) (.int .i64 ((rd_T45 l0 x26_2).f0))) (fun _ hk => hk.2) (.int .i64 ((rd_T45 l0 x26_2).f1.f0))) (fun _ hk => hk.2) (.int .i64 ((rd_T45 l0 x26_2).f1.f1))) (fun _ hk => hk.2) (.int .i64 ((rd_T45 l0 x26_2).f2))) (fun _ hk => hk.2) (.int .i64 ((rd_T45 l0 x26_2).f3))) (fun _ hk => hk.2) (.int .i64 ((rd_T45 l0 x26_2).f4))) (fun _ hk => trivial)⟩, ⟨by (with_reducible repeat (first | apply Kd.R_alloc | apply Kd.R_drewN | apply Kd.R_drew)); exact Kd.R_mono (Kd.R_far (p := ⟨gb623, 5, none⟩) (Kd.R_far (p := ⟨gb623, 4, none⟩) (Kd.R_far (p := ⟨gb623, 3, none⟩) (Kd.R_far (p := ⟨gb623, 2, none⟩) (Kd.R_far (p := ⟨gb623, 1, none⟩) (Kd.R_far (p := ⟨gb623, 0, none⟩) (Kd.R_mono HO_7.out (fun k_ hk => (⟨hk, hk.2⟩ : _ ∧ k_ ≠ gb623))) (fun _ hk => hk.2) (.int .i64 ((rd_T45 l0 x26_2).f0))) (fun _ hk => hk.2) (.int .i64 ((rd_T45 l0 x26_2).f1.f0))) (fun _ hk => hk.2) (.int .i64 ((rd_T45 l0 x26_2).f1.f1))) (fun _ hk => hk.2) (.int .i64 ((rd_T45 l0 x26_2).f2))) (fun _ hk => hk.2) (.int .i64 ((rd_T45 l0 x26_2).f3))) (fun _ hk => hk.2) (.int .i64 ((rd_T45 l0 x26_2).f4))) (fun _ hk => hk.1.2)⟩, ⟨by (with_reducible repeat (first | refine blk_drewN ?_ _ | refine blk_drew ?_ | refine blk_alloc ?_ _)); refine blk_put (cs := #[.int .i64 ((rd_T45 l0 x26_2).f0), .int .i64 ((rd_T45 l0 x26_2).f1.f0), .int .i64 ((rd_T45 l0 x26_2).f1.f1), .int .i64 ((rd_T45 l0 x26_2).f2), .int .i64 ((rd_T45 l0 x26_2).f3), .int .i64 0]) ?_ 5 _ rfl; (with_reducible repeat (first | refine blk_drewN ?_ _ | refine blk_drew ?_ | refine blk_alloc ?_ _)); refine blk_put (cs := #[.int .i64 ((rd_T45 l0 x26_2).f0), .int .i64 ((rd_T45 l0 x26_2).f1.f0), .int .i64 ((rd_T45 l0 x26_2).f1.f1), .int .i64 ((rd_T45 l0 x26_2).f2), .int .i64 0, .int .i64 0]) ?_ 4 _ rfl; (with_reducible repeat (first | refine blk_drewN ?_ _ | refine blk_drew ?_ | refine blk_alloc ?_ _)); refine blk_put (cs := #[.int .i64 ((rd_T45 l0 x26_2).f0), .int .i64 ((rd_T45 l0 x26_2).f1.f0), .int .i64 ((rd_T45 l0 x26_2).f1.f1), .int .i64 0, .int .i64 0, .int .i64 0]) ?_ 3 _ rfl; (with_reducible repeat (first | refine blk_drewN ?_ _ | refine blk_drew ?_ | refine blk_alloc ?_ _)); refine blk_put (cs := #[.int .i64 ((rd_T45 l0 x26_2).f0), .int .i64 ((rd_T45 l0 x26_2).f1.f0), .int .i64 0, .int .i64 0, .int .i64 0, .int .i64 0]) ?_ 2 _ rfl; (with_reducible repeat (first | refine blk_drewN ?_ _ | refine blk_drew ?_ | refine blk_alloc ?_ _)); refine blk_put (cs := #[.int .i64 ((rd_T45 l0 x26_2).f0), .int .i64 0, .int .i64 0, .int .i64 0, .int .i64 0, .int .i64 0]) ?_ 1 _ rfl; (with_reducible repeat (first | refine blk_drewN ?_ _ | refine blk_drew ?_ | refine blk_alloc ?_ _)); refine blk_put (cs := #[.int .i64 0, .int .i64 0, .int .i64 0, .int .i64 0, .int .i64 0, .int .i64 0]) ?_ 0 _ rfl; (with_reducible repeat (first | refine blk_drewN ?_ _ | refine blk_drew ?_ | refine blk_alloc ?_ _)); exact BK623.out⟩, ⟨by repeat (first | (with_reducible first | exact HB.out | apply bA_ | apply bN_ | apply b1_ | refine below_set ?_ GE623.out) | exact HB.out)⟩⟩
       rw [if_pos c20] at H
       have c20b0 : (x26_2 == a1) = true := beq_iff_eq.mpr c20
       have c20b1 : (x26_2 != a1) = false := bne_eq_false_iff_eq.mpr c20
       clear c20
       (first | rw [c20b0] | (simp only [i64_w, i32_w]; rw [c20b0]) | skip)
       have H' := Aside0.mk H
       clear H
       go_wp2
       go_meet
       case rel => exact ⟨_, (true), (by first | rfl | (simp; done) | (simp [*]; done)), H', ⟨by have := HJ2.out; have := HK2.out; first | omega | exact Nat.le_refl _⟩, ⟨by (with_reducible repeat (first | apply Kd.R_alloc | apply Kd.R_drewN | apply Kd.R_drew)); exact Kd.R_mono (Kd.R_far (p := ⟨gb623, 5, none⟩) (Kd.R_far (p := ⟨gb623, 4, none⟩) (Kd.R_far (p := ⟨gb623, 3, none⟩) (Kd.R_far (p := ⟨gb623, 2, none⟩) (Kd.R_far (p := ⟨gb623, 1, none⟩) (Kd.R_far (p := ⟨gb623, 0, none⟩) (Kd.R_types HO_6.out BK623.out (by decide)) (fun _ hk => hk.2) (.int .i64 ((rd_T45 l0 x26_2).f0))) (fun _ hk => hk.2) (.int .i64 ((rd_T45 l0 x26_2).f1.f0))) (fun _ hk => hk.2) (.int .i64 ((rd_T45 l0 x26_2).f1.f1))) (fun _ hk => hk.2) (.int .i64 ((rd_T45 l0 x26_2).f2))) (fun _ hk => hk.2) (.int .i64 ((rd_T45 l0 x26_2).f3))) (fun _ hk => hk.2) (.int .i64 ((rd_T45 l0 x26_2).f4))) (fun _ hk => trivial)⟩, ⟨by (with_reducible repeat (first | apply Kd.R_alloc | apply Kd.R_drewN | apply Kd.R_drew)); exact Kd.R_mono (Kd.R_far (p := ⟨gb623, 5, none⟩) (Kd.R_far (p := ⟨gb623, 4, none⟩) (Kd.R_far (p := ⟨gb623, 3, none⟩) (Kd.R_far (p := ⟨gb623, 2, none⟩) (Kd.R_far (p := ⟨gb623, 1, none⟩) (Kd.R_far (p := ⟨gb623, 0, none⟩) (Kd.R_mono HO_7.out (fun k_ hk => (⟨hk, hk.2⟩ : _ ∧ k_ ≠ gb623))) (fun _ hk => hk.2) (.int .i64 ((rd_T45 l0 x26_2).f0))) (fun _ hk => hk.2) (.int .i64 ((rd_T45 l0 x26_2).f1.f0))) (fun _ hk => hk.2) (.int .i64 ((rd_T45 l0 x26_2).f1.f1))) (fun _ hk => hk.2) (.int .i64 ((rd_T45 l0 x26_2).f2))) (fun _ hk => hk.2) (.int .i64 ((rd_T45 l0 x26_2).f3))) (fun _ hk => hk.2) (.int .i64 ((rd_T45 l0 x26_2).f4))) (fun _ hk => hk.1.2)⟩, ⟨by (with_reducible repeat (first | refine blk_drewN ?_ _ | refine blk_drew ?_ | refine blk_alloc ?_ _)); refine blk_put (cs := #[.int .i64 ((rd_T45 l0 x26_2).f0), .int .i64 ((rd_T45 l0 x26_2).f1.f0), .int .i64 ((rd_T45 l0 x26_2).f1.f1), .int .i64 ((rd_T45 l0 x26_2).f2), .int .i64 ((rd_T45 l0 x26_2).f3), .int .i64 0]) ?_ 5 _ rfl; (with_reducible repeat (first | refine blk_drewN ?_ _ | refine blk_drew ?_ | refine blk_alloc ?_ _)); refine blk_put (cs := #[.int .i64 ((rd_T45 l0 x26_2).f0), .int .i64 ((rd_T45 l0 x26_2).f1.f0), .int .i64 ((rd_T45 l0 x26_2).f1.f1), .int .i64 ((rd_T45 l0 x26_2).f2), .int .i64 0, .int .i64 0]) ?_ 4 _ rfl; (with_reducible repeat (first | refine blk_drewN ?_ _ | refine blk_drew ?_ | refine blk_alloc ?_ _)); refine blk_put (cs := #[.int .i64 ((rd_T45 l0 x26_2).f0), .int .i64 ((rd_T45 l0 x26_2).f1.f0), .int .i64 ((rd_T45 l0 x26_2).f1.f1), .int .i64 0, .int .i64 0, .int .i64 0]) ?_ 3 _ rfl; (with_reducible repeat (first | refine blk_drewN ?_ _ | refine blk_drew ?_ | refine blk_alloc ?_ _)); refine blk_put (cs := #[.int .i64 ((rd_T45 l0 x26_2).f0), .int .i64 ((rd_T45 l0 x26_2).f1.f0), .int .i64 0, .int .i64 0, .int .i64 0, .int .i64 0]) ?_ 2 _ rfl; (with_reducible repeat (first | refine blk_drewN ?_ _ | refine blk_drew ?_ | refine blk_alloc ?_ _)); refine blk_put (cs := #[.int .i64 ((rd_T45 l0 x26_2).f0), .int .i64 0, .int .i64 0, .int .i64 0, .int .i64 0, .int .i64 0]) ?_ 1 _ rfl; (with_reducible repeat (first | refine blk_drewN ?_ _ | refine blk_drew ?_ | refine blk_alloc ?_ _)); refine blk_put (cs := #[.int .i64 0, .int .i64 0, .int .i64 0, .int .i64 0, .int .i64 0, .int .i64 0]) ?_ 0 _ rfl; (with_reducible repeat (first | refine blk_drewN ?_ _ | refine blk_drew ?_ | refine blk_alloc ?_ _)); exact BK623.out⟩, ⟨by repeat (first | (with_reducible first | exact HB.out | apply bA_ | apply bN_ | apply b1_ | refine below_set ?_ GE623.out) | exact HB.out)⟩⟩
      case rest =>
       clear HC17
       try clear c1
       try clear c2
       try clear p2
       try clear c4
       try clear c5
       try clear p6
       try clear q6
       try clear hx6
       try clear c9
       try clear c10
       try clear c10b0
       try clear c10b1
       try clear c11
       try clear c11b0
       try clear c11b1
       try clear c14
       try clear c14b0
       try clear c15
       try clear c15b0
       try clear c16
       try clear c16b0
       try clear c20
       try clear c20b0
       try clear c20b1
       try clear c21
       try clear c21b0
       try clear c22
       try clear c22b0
       try clear c23
       try clear c23b0
       try clear hcz19_0
       try clear hcz19_1
       try clear hcz19_2
       try clear hcz19_3
       try clear hcz19_4
       try clear hcz19_5
       try clear hcz24_0
       try clear hcz24_1
       try clear hcz24_2
       try clear hcz24_3
       try clear hcz24_4
       try clear hcz24_5
       try clear hcz26_0
       try clear hcz26_1
       try clear hcz26_2
       try clear hcz26_3
       try clear hcz26_4
       try clear hcz26_5
       try clear hfz19_0
       try clear hfz19_1
       try clear hfz19_2
       try clear hfz19_3
       try clear hfz19_4
       try clear hfz19_5
       try clear hfz24_0
       try clear hfz24_1
       try clear hfz24_2
       try clear hfz24_3
       try clear hfz24_4
       try clear hfz24_5
       try clear hfz26_0
       try clear hfz26_1
       try clear hfz26_2
       try clear hfz26_3
       try clear hfz26_4
       try clear hfz26_5
       try clear hx622_0
       try clear hx622_1
       try clear hx622_2
       try clear hx622_3
       try clear hx622_4
       try clear hx622_5
       try clear hx624_0
       try clear p2
       try clear p6
       try clear p622
       try clear p624
       try clear q622
       try clear q624
       obtain ⟨kq, x46_16, rfl, HA, HJ16, HO_6, HO_7, BK623, HB⟩ := hcut
       cases kq with
       | zero => exact absurd HA.out (by simp [impl_CutPart.j2])
       | succ kj16 =>
        have H := HA.out
        clear HA
        simp only [impl_CutPart.j2] at H
        by_cases c27 : x46_16 = true
        case neg =>
         replace c27 := Bool.eq_false_iff.mpr c27
         subst c27
         have H1 : (if 0 ≤ x26_2 then (if x26_2 < (x6_2.length : Int) then ((some (x6_2.set (x26_2 : Int).toNat (x7_2.length : Int) : List Int)).bind fun y626 => (if ((rd_T45 l0 x26_2).f0) ≥ 0 then (if 0 ≤ ((rd_T45 l0 x26_2).f0) then (if ((rd_T45 l0 x26_2).f0) < (x6_2.length : Int) then (if x7_2.length < 2932031007402 then (impl_CutPart.l0 kj16 a1 y626 (x7_2 ++ [(⟨rd y626 ((rd_T45 l0 x26_2).f0), (⟨((rd_T45 l0 x26_2).f1.f0), ((rd_T45 l0 x26_2).f1.f1)⟩ : S43), ((rd_T45 l0 x26_2).f2), ((rd_T45 l0 x26_2).f3), ((rd_T45 l0 x26_2).f4)⟩ : S45)]) l0 (l0.length : Int) (wrap64 (x26_2 + 1))) else (none)) else (none)) else (none)) else (if x7_2.length < 2932031007402 then (impl_CutPart.l0 kj16 a1 y626 (x7_2 ++ [(⟨((rd_T45 l0 x26_2).f0), (⟨((rd_T45 l0 x26_2).f1.f0), ((rd_T45 l0 x26_2).f1.f1)⟩ : S43), ((rd_T45 l0 x26_2).f2), ((rd_T45 l0 x26_2).f3), ((rd_T45 l0 x26_2).f4)⟩ : S45)]) l0 (l0.length : Int) (wrap64 (x26_2 + 1))) else (none)))) else (none)) else (none)) = some (r1, r2) := by rw [if_neg (show ¬ (false = true) by decide)] at H; exact H
         clear H
         have H := H1
         clear H1
         by_cases c33 : 0 ≤ x26_2
         case neg =>
          rw [if_neg c33] at H
          exact absurd H (by simp)
         rw [if_pos c33] at H
         have c33b0 : decide (0 ≤ x26_2) = true := decide_eq_true c33
         clear c33
         by_cases c34 : x26_2 < (x6_2.length : Int)
         case neg =>
          rw [if_neg c34] at H
          exact absurd H (by simp)
         rw [if_pos c34] at H
         have c34b0 : decide (x26_2 < (x6_2.length : Int)) = true := decide_eq_true c34
         clear c34
         obtain ⟨y626, hy626⟩ : ∃ y_ : List Int, y_ = (x6_2.set (x26_2 : Int).toNat (x7_2.length : Int)) := ⟨_, rfl⟩
         replace H : (if ((rd_T45 l0 x26_2).f0) ≥ 0 then (if 0 ≤ ((rd_T45 l0 x26_2).f0) then (if ((rd_T45 l0 x26_2).f0) < (x6_2.length : Int) then (if x7_2.length < 2932031007402 then (impl_CutPart.l0 kj16 a1 y626 (x7_2 ++ [(⟨rd y626 ((rd_T45 l0 x26_2).f0), (⟨((rd_T45 l0 x26_2).f1.f0), ((rd_T45 l0 x26_2).f1.f1)⟩ : S43), ((rd_T45 l0 x26_2).f2), ((rd_T45 l0 x26_2).f3), ((rd_T45 l0 x26_2).f4)⟩ : S45)]) l0 (l0.length : Int) (wrap64 (x26_2 + 1))) else (none)) else (none)) else (none)) else (if x7_2.length < 2932031007402 then (impl_CutPart.l0 kj16 a1 y626 (x7_2 ++ [(⟨((rd_T45 l0 x26_2).f0), (⟨((rd_T45 l0 x26_2).f1.f0), ((rd_T45 l0 x26_2).f1.f1)⟩ : S43), ((rd_T45 l0 x26_2).f2), ((rd_T45 l0 x26_2).f3), ((rd_T45 l0 x26_2).f4)⟩ : S45)]) l0 (l0.length : Int) (wrap64 (x26_2 + 1))) else (none))) = some (r1, r2) := by first | (rw [hy626]; with_reducible exact H) | (have H2_ := (Option.bind_some _ _).symm.trans H; rw [hy626]; with_reducible exact H2_) | (have H2_ := (Option.bind_some _ _).symm.trans H; with_reducible exact H2_) | with_reducible exact H | (rw [hy626]; exact H) | exact H
         have Ny626 := Aside0.mk hy626
         clear hy626
         by_cases c36 : ((rd_T45 l0 x26_2).f0) ≥ 0
         case neg =>
          rw [if_neg c36] at H
          have c36b0 : decide (0 ≤ ((rd_T45 l0 x26_2).f0)) = false := decide_eq_false c36
          clear c36
          by_cases c45 : x7_2.length < 2932031007402
          case neg =>
           rw [if_neg c45] at H
           exact absurd H (by simp)
          rw [if_pos c45] at H
          have LMc45 := Aside0.mk c45
          clear c45
          obtain ⟨y631, hy631⟩ : ∃ y_ : List (S45), y_ = (x7_2 ++ [(⟨((rd_T45 l0 x26_2).f0), (⟨((rd_T45 l0 x26_2).f1.f0), ((rd_T45 l0 x26_2).f1.f1)⟩ : S43), ((rd_T45 l0 x26_2).f2), ((rd_T45 l0 x26_2).f3), ((rd_T45 l0 x26_2).f4)⟩ : S45)]) := ⟨_, rfl⟩
          replace H : (impl_CutPart.l0 kj16 a1 y626 y631 l0 (l0.length : Int) (wrap64 (x26_2 + 1))) = some (r1, r2) := by first | (rw [hy631]; with_reducible exact H) | (have H2_ := (Option.bind_some _ _).symm.trans H; rw [hy631]; with_reducible exact H2_) | (have H2_ := (Option.bind_some _ _).symm.trans H; with_reducible exact H2_) | with_reducible exact H | (rw [hy631]; exact H) | exact H
          have Ny631 := Aside0.mk hy631
          clear hy631
          have H' := Aside0.mk H
          clear H
          obtain ⟨Ao46, co46, eo46⟩ := Kd.R_slice HO_7.out
          subst eo46
          have p35 : 0 ≤ (x26_2 : Int) := of_decide_eq_true (by assumption)
          have q35 : (x26_2 : Int) < ((x6_2.length : Int) : Int) := of_decide_eq_true (by assumption)
          obtain ⟨go35, co35, eo35, gb35, gl35, cl35, HG35⟩ := Kd.R_form HO_6.out (by omega)
          (first | cases eo35 | (injection eo35 with ea_ en_ ec_; (first | subst ea_ | (injection ea_ with ea_; subst ea_)); subst ec_; clear en_))
          have GB35 := Aside0.mk gb35
          have GG35 := Aside0.mk HG35
          clear gb35 gl35 HG35
          obtain ⟨hx35_0, hf35_0⟩ := Kd.R_celln 0 HO_6.out (x26_2 : Int) p35 q35
          replace p35 := eq_true p35
          replace q35 := eq_true q35
          have HP47 := Kd.R_putg HO_6.out (x26_2 : Int) (x7_2.length : Int)
          go_wp2_with (first | ((with_reducible refine gate_store (t := 3) (p := 54) rfl ?_); refine store_event (t := 3) (p := 54) (v := ?vo_w48) (w1 := (wc.setCell ⟨go35, (x26_2 : Int).toNat, none⟩ (.int .i64 (x7_2.length : Int)))) ?hg ?ho ?hn ?hr ?_; (case ho => rfl); (case hg => rfl); (case hn => rfl); (case hr => first | (go_simp; done) | (go_simp; rfl)); intro w48 hw; have hg : wc.grownBy w48 (some go35) := (by rw [hw]; exact HP47.2); have hp_ : Kd.R (Kd.int .i64) 3 w48 w.heap.size (fun _ => True) (.slice (some ⟨go35, 0, none⟩) x6_2.length co35) y626 := (by rw [hw, Ny626.out]; exact HP47.1); clear HP47; have n0_ := Aside0.mk (hp_); have n1_ := Aside0.mk (Kd.R_over' (v := (.slice (some ⟨go35, 0, none⟩) x6_2.length co35)) (by (with_reducible repeat (first | apply Kd.R_alloc | apply Kd.R_drewN | apply Kd.R_drew)); exact HO_7.out) (Kd.R_typed HO_6.out) (by decide) hg); have n2_ := Aside0.mk (blk_grown (g := gb623) (o := .cells #[.int .i64 ((rd_T45 l0 x26_2).f0), .int .i64 ((rd_T45 l0 x26_2).f1.f0), .int .i64 ((rd_T45 l0 x26_2).f1.f1), .int .i64 ((rd_T45 l0 x26_2).f2), .int .i64 ((rd_T45 l0 x26_2).f3), .int .i64 ((rd_T45 l0 x26_2).f4)] 45 (0, 0)) (by (with_reducible repeat (first | refine blk_drewN ?_ _ | refine blk_drew ?_ | refine blk_alloc ?_ _)); exact BK623.out) hg (Kd.R_ne HO_6.out BK623.out (by decide))); have n3_ := Aside0.mk ((by rw [hw]; exact below_set (HB.out) GB35.out : Below w.heap.size w w48)); clear HO_6; clear HO_7; clear BK623; clear HB; have HO_6 := n0_; have HO_7 := n1_; have BK623 := n2_; have HB := n3_; clear n0_ n1_ n2_ n3_; clear hg hw hp_; obtain ⟨hcz49_0, hcz49_1, hcz49_2, hcz49_3, hcz49_4, hcz49_5, hfz49_0, hfz49_1, hfz49_2, hfz49_3, hfz49_4, hfz49_5⟩ := blk6_ BK623.out) | ((with_reducible refine gate_builtin (b := .append) (xs := #[.tmp 64, .tmp 66]) rfl ?_); (try (refine gate_guard (by rfl) ?_; dsimp only)); at_builtin; refine Kd.R_append k45 (w0 := w) w.heap.size rfl (.tmp 64) (.tmp 66) 25 45 (.agg #[(.int .i64 0), (.int .i64 0), (.int .i64 0), (.int .i64 0), (.int .i64 0), (.int .i64 0)]) 48 rfl Try.underlying25 info45 rfl (by decide) (by omega) (.slice Ao46 x7_2.length co46) x7_2 (⟨((rd_T45 l0 x26_2).f0), (⟨((rd_T45 l0 x26_2).f1.f0), ((rd_T45 l0 x26_2).f1.f1)⟩ : S43), ((rd_T45 l0 x26_2).f2), ((rd_T45 l0 x26_2).f3), ((rd_T45 l0 x26_2).f4)⟩ : S45) [.int .i64 ((rd_T45 l0 x26_2).f0), .int .i64 ((rd_T45 l0 x26_2).f1.f0), .int .i64 ((rd_T45 l0 x26_2).f1.f1), .int .i64 ((rd_T45 l0 x26_2).f2), .int .i64 ((rd_T45 l0 x26_2).f3), .int .i64 ((rd_T45 l0 x26_2).f4)] (fun k_ => k_ ≠ gb623) (fun _ => False) rfl rfl ?aP (fun _ hk => hk.elim) ?aF ?aO ?aB ?aS ?aL ?_; (case aP => exact k45_mkM _ _ _ (⟨((rd_T45 l0 x26_2).f0), (⟨((rd_T45 l0 x26_2).f1.f0), ((rd_T45 l0 x26_2).f1.f1)⟩ : S43), ((rd_T45 l0 x26_2).f2), ((rd_T45 l0 x26_2).f3), ((rd_T45 l0 x26_2).f4)⟩ : S45)); (case aB => exact (by repeat (first | (with_reducible first | exact HB.out | apply bA_ | apply bN_ | apply b1_ | refine below_set ?_ GE623.out) | exact HB.out))); (case aF => exact (fun k_ hk => Kd.freshB (g := gb623) (o := .cells #[.int .i64 ((rd_T45 l0 x26_2).f0), .int .i64 ((rd_T45 l0 x26_2).f1.f0), .int .i64 ((rd_T45 l0 x26_2).f1.f1), .int .i64 ((rd_T45 l0 x26_2).f2), .int .i64 ((rd_T45 l0 x26_2).f3), .int .i64 ((rd_T45 l0 x26_2).f4)] 45 (0, 0)) (by (with_reducible repeat (first | refine blk_drewN ?_ _ | refine blk_drew ?_ | refine blk_alloc ?_ _)); exact BK623.out) k_ hk)); (case aO => exact (by (with_reducible repeat (first | apply Kd.R_alloc | apply Kd.R_drewN | apply Kd.R_drew)); exact HO_7.out)); (case aS => exact (below_size (by repeat (first | (with_reducible first | exact HB.out | apply bA_ | apply bN_ | apply b1_ | refine below_set ?_ GE623.out) | exact HB.out)))); (case aL => have := LMc45.out; omega); intro v632 w50 ho hb hg hat; rw [← Ny631.out] at ho; have n0_ := Aside0.mk (Kd.R_over' (by (with_reducible repeat (first | apply Kd.R_alloc | apply Kd.R_drewN | apply Kd.R_drew)); exact HO_6.out) (Kd.R_typed (by (with_reducible repeat (first | apply Kd.R_alloc | apply Kd.R_drewN | apply Kd.R_drew)); exact HO_7.out)) (by decide) hg); have n1_ := Aside0.mk (blk_grown (g := gb623) (o := .cells #[.int .i64 ((rd_T45 l0 x26_2).f0), .int .i64 ((rd_T45 l0 x26_2).f1.f0), .int .i64 ((rd_T45 l0 x26_2).f1.f1), .int .i64 ((rd_T45 l0 x26_2).f2), .int .i64 ((rd_T45 l0 x26_2).f3), .int .i64 ((rd_T45 l0 x26_2).f4)] 45 (0, 0)) (by (with_reducible repeat (first | refine blk_drewN ?_ _ | refine blk_drew ?_ | refine blk_alloc ?_ _)); exact BK623.out) hg (Kd.R_away HO_7.out (fun _ hk => hk))); have n2_ := Aside0.mk (hb); have n3_ := Aside0.mk (ho); clear HO_6; clear BK623; clear HB; clear HO_7; have HO_6 := n0_; have BK623 := n1_; have HB := n2_; have HO633 := n3_; clear n0_ n1_ n2_ n3_; clear ho hb hg hat))
          go_roundg kj16
          case measure => have := HJ2.out; have := HK2.out; have := HJ16.out; omega
          case rel => exact ⟨(y626), (y631), (wrap64 (x26_2 + 1)), (by first | rfl | (simp; done) | (simp [*]; done)), H', ⟨by have := HJ2.out; have := HK2.out; have := HJ16.out; omega⟩, ⟨by (with_reducible repeat (first | apply Kd.R_alloc | apply Kd.R_drewN | apply Kd.R_drew)); exact HO_6.out⟩, ⟨by (with_reducible repeat (first | apply Kd.R_alloc | apply Kd.R_drewN | apply Kd.R_drew)); exact Kd.R_mono HO633.out (fun _ hk => trivial)⟩, ⟨by repeat (first | (with_reducible first | exact HB.out | apply bA_ | apply bN_ | apply b1_ | refine below_set ?_ GE623.out) | exact HB.out)⟩⟩
         rw [if_pos c36] at H
         have c36b0 : decide (0 ≤ ((rd_T45 l0 x26_2).f0)) = true := decide_eq_true c36
         clear c36
         by_cases c37 : 0 ≤ ((rd_T45 l0 x26_2).f0)
         case neg =>
          rw [if_neg c37] at H
          exact absurd H (by simp)
         rw [if_pos c37] at H
         have c37b0 : decide (0 ≤ ((rd_T45 l0 x26_2).f0)) = true := decide_eq_true c37
         clear c37
         by_cases c38 : ((rd_T45 l0 x26_2).f0) < (x6_2.length : Int)
         case neg =>
          rw [if_neg c38] at H
          exact absurd H (by simp)
         rw [if_pos c38] at H
         have c38b0 : decide (((rd_T45 l0 x26_2).f0) < (x6_2.length : Int)) = true := decide_eq_true c38
         clear c38
         by_cases c39 : x7_2.length < 2932031007402
         case neg =>
          rw [if_neg c39] at H
          exact absurd H (by simp)
         rw [if_pos c39] at H
         have LMc39 := Aside0.mk c39
         clear c39
         obtain ⟨y628, hy628⟩ : ∃ y_ : List (S45), y_ = (x7_2 ++ [(⟨rd y626 ((rd_T45 l0 x26_2).f0), (⟨((rd_T45 l0 x26_2).f1.f0), ((rd_T45 l0 x26_2).f1.f1)⟩ : S43), ((rd_T45 l0 x26_2).f2), ((rd_T45 l0 x26_2).f3), ((rd_T45 l0 x26_2).f4)⟩ : S45)]) := ⟨_, rfl⟩
         replace H : (impl_CutPart.l0 kj16 a1 y626 y628 l0 (l0.length : Int) (wrap64 (x26_2 + 1))) = some (r1, r2) := by first | (rw [hy628]; with_reducible exact H) | (have H2_ := (Option.bind_some _ _).symm.trans H; rw [hy628]; with_reducible exact H2_) | (have H2_ := (Option.bind_some _ _).symm.trans H; with_reducible exact H2_) | with_reducible exact H | (rw [hy628]; exact H) | exact H
         have Ny628 := Aside0.mk hy628
         clear hy628
         have H' := Aside0.mk H
         clear H
         obtain ⟨Ao40, co40, eo40⟩ := Kd.R_slice HO_7.out
         subst eo40
         have p35 : 0 ≤ (x26_2 : Int) := of_decide_eq_true (by assumption)
         have q35 : (x26_2 : Int) < ((x6_2.length : Int) : Int) := of_decide_eq_true (by assumption)
         obtain ⟨go35, co35, eo35, gb35, gl35, cl35, HG35⟩ := Kd.R_form HO_6.out (by omega)
         (first | cases eo35 | (injection eo35 with ea_ en_ ec_; (first | subst ea_ | (injection ea_ with ea_; subst ea_)); subst ec_; clear en_))
         have GB35 := Aside0.mk gb35
         have GG35 := Aside0.mk HG35
         clear gb35 gl35 HG35
         obtain ⟨hx35_0, hf35_0⟩ := Kd.R_celln 0 HO_6.out (x26_2 : Int) p35 q35
         replace p35 := eq_true p35
         replace q35 := eq_true q35
         have HP41 := Kd.R_putg HO_6.out (x26_2 : Int) (x7_2.length : Int)
         go_wp2_with (first | ((with_reducible refine gate_store (t := 3) (p := 54) rfl ?_); refine store_event (t := 3) (p := 54) (v := ?vo_w42) (w1 := (wc.setCell ⟨go35, (x26_2 : Int).toNat, none⟩ (.int .i64 (x7_2.length : Int)))) ?hg ?ho ?hn ?hr ?_; (case ho => rfl); (case hg => rfl); (case hn => rfl); (case hr => first | (go_simp; done) | (go_simp; rfl)); intro w42 hw; have hg : wc.grownBy w42 (some go35) := (by rw [hw]; exact HP41.2); have hp_ : Kd.R (Kd.int .i64) 3 w42 w.heap.size (fun _ => True) (.slice (some ⟨go35, 0, none⟩) x6_2.length co35) y626 := (by rw [hw, Ny626.out]; exact HP41.1); clear HP41; have n0_ := Aside0.mk (hp_); have n1_ := Aside0.mk (Kd.R_over' (v := (.slice (some ⟨go35, 0, none⟩) x6_2.length co35)) (by (with_reducible repeat (first | apply Kd.R_alloc | apply Kd.R_drewN | apply Kd.R_drew)); exact HO_7.out) (Kd.R_typed HO_6.out) (by decide) hg); have n2_ := Aside0.mk (blk_grown (g := gb623) (o := .cells #[.int .i64 ((rd_T45 l0 x26_2).f0), .int .i64 ((rd_T45 l0 x26_2).f1.f0), .int .i64 ((rd_T45 l0 x26_2).f1.f1), .int .i64 ((rd_T45 l0 x26_2).f2), .int .i64 ((rd_T45 l0 x26_2).f3), .int .i64 ((rd_T45 l0 x26_2).f4)] 45 (0, 0)) (by (with_reducible repeat (first | refine blk_drewN ?_ _ | refine blk_drew ?_ | refine blk_alloc ?_ _)); exact BK623.out) hg (Kd.R_ne HO_6.out BK623.out (by decide))); have n3_ := Aside0.mk ((by rw [hw]; exact below_set (HB.out) GB35.out : Below w.heap.size w w42)); clear HO_6; clear HO_7; clear BK623; clear HB; have HO_6 := n0_; have HO_7 := n1_; have BK623 := n2_; have HB := n3_; clear n0_ n1_ n2_ n3_; clear hg hw hp_; obtain ⟨hcz43_0, hcz43_1, hcz43_2, hcz43_3, hcz43_4, hcz43_5, hfz43_0, hfz43_1, hfz43_2, hfz43_3, hfz43_4, hfz43_5⟩ := blk6_ BK623.out; have p627 : 0 ≤ (((rd_T45 l0 x26_2).f0) : Int) := of_decide_eq_true (by assumption); have q627 : ((rd_T45 l0 x26_2).f0) < (y626.length : Int) := (by have h_ : (((rd_T45 l0 x26_2).f0) : Int) < ((x6_2.length : Int) : Int) := of_decide_eq_true (by assumption); first | (have e_ := (Kd.R_reads' HO_6.out).1; omega) | simpa only [Ny626.out, List.length_set] using h_); have ql627 : ((((rd_T45 l0 x26_2).f0) : Int) < ((x6_2.length : Int) : Int)) = True := eq_true (of_decide_eq_true (by assumption)); obtain ⟨ad627, e627, hx627_0⟩ := Kd.at_int (Kd.R_reads' HO_6.out).2.2 ((rd_T45 l0 x26_2).f0) p627 q627; obtain rfl : (⟨go35, 0, none⟩ : Addr) = ad627 := (by injection e627); (first | simp only [add_plain] at hx627_0 | simp only [add_at] at hx627_0 | simp only [Addr.add, Nat.zero_add] at hx627_0 | skip); replace p627 := eq_true p627; replace q627 := eq_true q627) | ((with_reducible refine gate_builtin (b := .append) (xs := #[.tmp 64, .tmp 66]) rfl ?_); (try (refine gate_guard (by rfl) ?_; dsimp only)); at_builtin; refine Kd.R_append k45 (w0 := w) w.heap.size rfl (.tmp 64) (.tmp 66) 25 45 (.agg #[(.int .i64 0), (.int .i64 0), (.int .i64 0), (.int .i64 0), (.int .i64 0), (.int .i64 0)]) 48 rfl Try.underlying25 info45 rfl (by decide) (by omega) (.slice Ao40 x7_2.length co40) x7_2 (⟨rd y626 ((rd_T45 l0 x26_2).f0), (⟨((rd_T45 l0 x26_2).f1.f0), ((rd_T45 l0 x26_2).f1.f1)⟩ : S43), ((rd_T45 l0 x26_2).f2), ((rd_T45 l0 x26_2).f3), ((rd_T45 l0 x26_2).f4)⟩ : S45) [.int .i64 (rd y626 ((rd_T45 l0 x26_2).f0)), .int .i64 ((rd_T45 l0 x26_2).f1.f0), .int .i64 ((rd_T45 l0 x26_2).f1.f1), .int .i64 ((rd_T45 l0 x26_2).f2), .int .i64 ((rd_T45 l0 x26_2).f3), .int .i64 ((rd_T45 l0 x26_2).f4)] (fun k_ => k_ ≠ gb623) (fun _ => False) rfl (by first | (go_simp; done) | (go_simp; rfl)) ?aP (fun _ hk => hk.elim) ?aF ?aO ?aB ?aS ?aL ?_; (case aP => exact k45_mkM _ _ _ (⟨rd y626 ((rd_T45 l0 x26_2).f0), (⟨((rd_T45 l0 x26_2).f1.f0), ((rd_T45 l0 x26_2).f1.f1)⟩ : S43), ((rd_T45 l0 x26_2).f2), ((rd_T45 l0 x26_2).f3), ((rd_T45 l0 x26_2).f4)⟩ : S45)); (case aB => exact (by repeat (first | (with_reducible first | exact HB.out | apply bA_ | apply bN_ | apply b1_ | refine below_set ?_ GE623.out) | exact HB.out))); (case aF => exact (fun k_ hk => Kd.freshB (g := gb623) (o := .cells #[.int .i64 (rd y626 ((rd_T45 l0 x26_2).f0)), .int .i64 ((rd_T45 l0 x26_2).f1.f0), .int .i64 ((rd_T45 l0 x26_2).f1.f1), .int .i64 ((rd_T45 l0 x26_2).f2), .int .i64 ((rd_T45 l0 x26_2).f3), .int .i64 ((rd_T45 l0 x26_2).f4)] 45 (0, 0)) (by (with_reducible repeat (first | refine blk_drewN ?_ _ | refine blk_drew ?_ | refine blk_alloc ?_ _)); refine blk_put (cs := #[.int .i64 ((rd_T45 l0 x26_2).f0), .int .i64 ((rd_T45 l0 x26_2).f1.f0), .int .i64 ((rd_T45 l0 x26_2).f1.f1), .int .i64 ((rd_T45 l0 x26_2).f2), .int .i64 ((rd_T45 l0 x26_2).f3), .int .i64 ((rd_T45 l0 x26_2).f4)]) ?_ 0 _ rfl; (with_reducible repeat (first | refine blk_drewN ?_ _ | refine blk_drew ?_ | refine blk_alloc ?_ _)); exact BK623.out) k_ hk)); (case aO => exact (by (with_reducible repeat (first | apply Kd.R_alloc | apply Kd.R_drewN | apply Kd.R_drew)); exact Kd.R_mono (Kd.R_far (p := ⟨gb623, 0, none⟩) (Kd.R_mono HO_7.out (fun k_ hk => (⟨hk, hk⟩ : _ ∧ k_ ≠ gb623))) (fun _ hk => hk.2) (.int .i64 (rd y626 ((rd_T45 l0 x26_2).f0)))) (fun _ hk => hk.1))); (case aS => exact (below_size (by repeat (first | (with_reducible first | exact HB.out | apply bA_ | apply bN_ | apply b1_ | refine below_set ?_ GE623.out) | exact HB.out)))); (case aL => have := LMc39.out; omega); intro v629 w44 ho hb hg hat; rw [← Ny628.out] at ho; have n0_ := Aside0.mk (Kd.R_over' (by (with_reducible repeat (first | apply Kd.R_alloc | apply Kd.R_drewN | apply Kd.R_drew)); exact (Kd.R_mono (Kd.R_far (p := ⟨gb623, 0, none⟩) (Kd.R_types HO_6.out BK623.out (by decide)) (fun _ hk => hk.2) (.int .i64 (rd y626 ((rd_T45 l0 x26_2).f0)))) (fun _ h_ => h_.1))) (Kd.R_typed (by (with_reducible repeat (first | apply Kd.R_alloc | apply Kd.R_drewN | apply Kd.R_drew)); exact (Kd.R_mono (Kd.R_far (p := ⟨gb623, 0, none⟩) (Kd.R_mono HO_7.out (fun k_ hk => (⟨hk, hk⟩ : _ ∧ k_ ≠ gb623))) (fun _ hk => hk.2) (.int .i64 (rd y626 ((rd_T45 l0 x26_2).f0)))) (fun _ h_ => h_.1)))) (by decide) hg); have n1_ := Aside0.mk (blk_grown (g := gb623) (o := .cells #[.int .i64 (rd y626 ((rd_T45 l0 x26_2).f0)), .int .i64 ((rd_T45 l0 x26_2).f1.f0), .int .i64 ((rd_T45 l0 x26_2).f1.f1), .int .i64 ((rd_T45 l0 x26_2).f2), .int .i64 ((rd_T45 l0 x26_2).f3), .int .i64 ((rd_T45 l0 x26_2).f4)] 45 (0, 0)) (by (with_reducible repeat (first | refine blk_drewN ?_ _ | refine blk_drew ?_ | refine blk_alloc ?_ _)); refine blk_put (cs := #[.int .i64 ((rd_T45 l0 x26_2).f0), .int .i64 ((rd_T45 l0 x26_2).f1.f0), .int .i64 ((rd_T45 l0 x26_2).f1.f1), .int .i64 ((rd_T45 l0 x26_2).f2), .int .i64 ((rd_T45 l0 x26_2).f3), .int .i64 ((rd_T45 l0 x26_2).f4)]) ?_ 0 _ rfl; (with_reducible repeat (first | refine blk_drewN ?_ _ | refine blk_drew ?_ | refine blk_alloc ?_ _)); exact BK623.out) hg (Kd.R_away HO_7.out (fun _ hk => hk))); have n2_ := Aside0.mk (hb); have n3_ := Aside0.mk (ho); clear HO_6; clear BK623; clear HB; clear HO_7; have HO_6 := n0_; have BK623 := n1_; have HB := n2_; have HO630 := n3_; clear n0_ n1_ n2_ n3_; clear ho hb hg hat))
         go_roundg kj16
         case measure => have := HJ2.out; have := HK2.out; have := HJ16.out; omega
         case rel => exact ⟨(y626), (y628), (wrap64 (x26_2 + 1)), (by first | rfl | (simp; done) | (simp [*]; done)), H', ⟨by have := HJ2.out; have := HK2.out; have := HJ16.out; omega⟩, ⟨by (with_reducible repeat (first | apply Kd.R_alloc | apply Kd.R_drewN | apply Kd.R_drew)); exact HO_6.out⟩, ⟨by (with_reducible repeat (first | apply Kd.R_alloc | apply Kd.R_drewN | apply Kd.R_drew)); exact Kd.R_mono HO630.out (fun _ hk => trivial)⟩, ⟨by repeat (first | (with_reducible first | exact HB.out | apply bA_ | apply bN_ | apply b1_ | refine below_set ?_ GE623.out) | exact HB.out)⟩⟩
        subst c27
        have H1 : (if 0 ≤ x26_2 then (if x26_2 < (x6_2.length : Int) then (impl_CutPart.l0 kj16 a1 (x6_2.set (x26_2 : Int).toNat (-1)) x7_2 l0 (l0.length : Int) (wrap64 (x26_2 + 1))) else (none)) else (none)) = some (r1, r2) := by rw [if_pos rfl] at H; exact H
        clear H
        have H := H1
        clear H1
        by_cases c28 : 0 ≤ x26_2
        case neg =>
         rw [if_neg c28] at H
         exact absurd H (by simp)
        rw [if_pos c28] at H
        have c28b0 : decide (0 ≤ x26_2) = true := decide_eq_true c28
        clear c28
        by_cases c29 : x26_2 < (x6_2.length : Int)
        case neg =>
         rw [if_neg c29] at H
         exact absurd H (by simp)
        rw [if_pos c29] at H
        have c29b0 : decide (x26_2 < (x6_2.length : Int)) = true := decide_eq_true c29
        clear c29
        obtain ⟨y625, hy625⟩ : ∃ y_ : List Int, y_ = (x6_2.set (x26_2 : Int).toNat (-1)) := ⟨_, rfl⟩
        replace H : (impl_CutPart.l0 kj16 a1 y625 x7_2 l0 (l0.length : Int) (wrap64 (x26_2 + 1))) = some (r1, r2) := by first | (rw [hy625]; with_reducible exact H) | (have H2_ := (Option.bind_some _ _).symm.trans H; rw [hy625]; with_reducible exact H2_) | (have H2_ := (Option.bind_some _ _).symm.trans H; with_reducible exact H2_) | with_reducible exact H | (rw [hy625]; exact H) | exact H
        have Ny625 := Aside0.mk hy625
        clear hy625
        have H' := Aside0.mk H
        clear H
        have p30 : 0 ≤ (x26_2 : Int) := of_decide_eq_true (by assumption)
        have q30 : (x26_2 : Int) < ((x6_2.length : Int) : Int) := of_decide_eq_true (by assumption)
        obtain ⟨go30, co30, eo30, gb30, gl30, cl30, HG30⟩ := Kd.R_form HO_6.out (by omega)
        (first | cases eo30 | (injection eo30 with ea_ en_ ec_; (first | subst ea_ | (injection ea_ with ea_; subst ea_)); subst ec_; clear en_))
        have GB30 := Aside0.mk gb30
        have GG30 := Aside0.mk HG30
        clear gb30 gl30 HG30
        obtain ⟨hx30_0, hf30_0⟩ := Kd.R_celln 0 HO_6.out (x26_2 : Int) p30 q30
        replace p30 := eq_true p30
        replace q30 := eq_true q30
        have HP31 := Kd.R_putg HO_6.out (x26_2 : Int) (-1)
        go_wp2_with (first | ((with_reducible refine gate_store (t := 3) (p := 49) rfl ?_); refine store_event (t := 3) (p := 49) (v := ?vo_w32) (w1 := (wc.setCell ⟨go30, (x26_2 : Int).toNat, none⟩ (.int .i64 (-1)))) ?hg ?ho ?hn ?hr ?_; (case ho => rfl); (case hg => rfl); (case hn => rfl); (case hr => first | (go_simp; done) | (go_simp; rfl)); intro w32 hw; have hg : wc.grownBy w32 (some go30) := (by rw [hw]; exact HP31.2); have hp_ : Kd.R (Kd.int .i64) 3 w32 w.heap.size (fun _ => True) (.slice (some ⟨go30, 0, none⟩) x6_2.length co30) y625 := (by rw [hw, Ny625.out]; exact HP31.1); clear HP31; have n0_ := Aside0.mk (hp_); have n1_ := Aside0.mk (Kd.R_over' (v := (.slice (some ⟨go30, 0, none⟩) x6_2.length co30)) (by (with_reducible repeat (first | apply Kd.R_alloc | apply Kd.R_drewN | apply Kd.R_drew)); exact HO_7.out) (Kd.R_typed HO_6.out) (by decide) hg); have n2_ := Aside0.mk (blk_grown (g := gb623) (o := .cells #[.int .i64 ((rd_T45 l0 x26_2).f0), .int .i64 ((rd_T45 l0 x26_2).f1.f0), .int .i64 ((rd_T45 l0 x26_2).f1.f1), .int .i64 ((rd_T45 l0 x26_2).f2), .int .i64 ((rd_T45 l0 x26_2).f3), .int .i64 ((rd_T45 l0 x26_2).f4)] 45 (0, 0)) (by (with_reducible repeat (first | refine blk_drewN ?_ _ | refine blk_drew ?_ | refine blk_alloc ?_ _)); exact BK623.out) hg (Kd.R_ne HO_6.out BK623.out (by decide))); have n3_ := Aside0.mk ((by rw [hw]; exact below_set (HB.out) GB30.out : Below w.heap.size w w32)); clear HO_6; clear HO_7; clear BK623; clear HB; have HO_6 := n0_; have HO_7 := n1_; have BK623 := n2_; have HB := n3_; clear n0_ n1_ n2_ n3_; clear hg hw hp_))
        go_roundg kj16
        case measure => have := HJ2.out; have := HK2.out; have := HJ16.out; omega
        case rel => exact ⟨(y625), (x7_2), (wrap64 (x26_2 + 1)), (by first | rfl | (simp; done) | (simp [*]; done)), H', ⟨by have := HJ2.out; have := HK2.out; have := HJ16.out; omega⟩, ⟨by (with_reducible repeat (first | apply Kd.R_alloc | apply Kd.R_drewN | apply Kd.R_drew)); exact HO_6.out⟩, ⟨by (with_reducible repeat (first | apply Kd.R_alloc | apply Kd.R_drewN | apply Kd.R_drew)); exact Kd.R_mono HO_7.out (fun _ hk => trivial)⟩, ⟨by repeat (first | (with_reducible first | exact HB.out | apply bA_ | apply bN_ | apply b1_ | refine below_set ?_ GE623.out) | exact HB.out)⟩⟩
   subst c9
   have H1 : (some (([] : List (S45)), false)) = some (r1, r2) := by rw [if_pos rfl] at H; exact H
   clear H
   have H := H1
   clear H1
   simp only [Option.some.injEq, Prod.mk.injEq] at H
   obtain ⟨rfl, rfl⟩ := H
   go_wp2
   go_ret2
   exact ⟨_, by first | rfl | (simp [errW_none, errW_some] <;> rfl) | (simp [*, errW_none, errW_some] <;> rfl), by first | exact Kd.R_nil _ _ _ _ _ | exact Kd.N_nil _ _ _ _ _ | exact Kd.V_nil _ _ _ _ _ | exact Kd.Q_nil _ _ _ _ _ | exact Kd.S_nil _ _ _ _ _, by repeat (first | (with_reducible first | exact HB.out | apply bA_ | apply bN_ | apply b1_) | exact HB.out)⟩

end Go.Proofs.Ytenfngleiohbhaa.P
