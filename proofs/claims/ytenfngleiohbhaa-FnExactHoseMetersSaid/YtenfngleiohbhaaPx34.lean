/- Written by a program of this session (wip/p2) out of the translation: plain Lean functions, and that the calls of the Go functions come to what these say. Conditions: as each contract states. -/
import Derived.Test.YtenfngleiohbhaaPx0
namespace Go.Proofs.Ytenfngleiohbhaa.P
open Go.RowKit Go.Proofs.YtenfngleiohbhaaW.PrintWords Go.Proofs.YtenfngleiohbhaaW.PrintLast Go.Proofs.YtenfngleiohbhaaW.PrintMore
attribute [local go_sem] max2_int min2_int max_two min_two max_three min_three max_four min_four   -- for this text's walks alone
set_option linter.unusedVariables false
set_option linter.unusedSimpArgs false

/-! ### laws_heldLinePartS: function 33 -/
def laws_heldLinePartS.l0 : Nat → List (S45) → Int → Int → Option (Int)
  | 0, _, _, _ => none
  | k + 1, x0, x1, x5 => if x5 < (x0.length : Int) then (if 0 ≤ x5 then (if ((rd_T45 x0 x5).f0) = x1 then (if ((rd_T45 x0 x5).f1.f0) = (wrap64 (x1 + 1)) then (if ((rd_T45 x0 x5).f1.f1) = (wrap64 ((wrap64 (x1 + 1)) + 1)) then (if ((rd_T45 x0 x5).f2) = (wrap64 ((wrap64 ((wrap64 (x1 + 1)) + 1)) + 1)) then (if ((rd_T45 x0 x5).f3) = (wrap64 ((wrap64 ((wrap64 ((wrap64 (x1 + 1)) + 1)) + 1)) + 1)) then (if ((rd_T45 x0 x5).f4) = (wrap64 ((wrap64 ((wrap64 ((wrap64 ((wrap64 (x1 + 1)) + 1)) + 1)) + 1)) + 1)) then (laws_heldLinePartS.l0 k x0 (wrap64 ((wrap64 ((wrap64 ((wrap64 ((wrap64 ((wrap64 (x1 + 1)) + 1)) + 1)) + 1)) + 1)) + 1)) (wrap64 (x5 + 1))) else (some (-1))) else (some (-1))) else (some (-1))) else (some (-1))) else (some (-1))) else (some (-1))) else (none)) else (some x1)
def laws_heldLinePartS.f (k : Nat) (l0 : List (S45)) (a1 : Int) : Option (Int) := laws_heldLinePartS.l0 k l0 a1 0
theorem laws_heldLinePartS.mono_l : ∀ k, (∀ y0 y1 y2, LeO (laws_heldLinePartS.l0 k y0 y1 y2) (laws_heldLinePartS.l0 (k + 1) y0 y1 y2))
 | 0 => fun _ _ _ r h => by simp [laws_heldLinePartS.l0] at h
 | k + 1 => by
  have ih0 := laws_heldLinePartS.mono_l k
  · intro y0 y1 y2
    unfold laws_heldLinePartS.l0
    repeat' first
    | (with_reducible exact ih0 _ _ _)
    | (with_reducible exact LeO.refl _)
    | (with_reducible exact LeO.none _)
    | (with_reducible refine LeO.ite ?_ ?_)
    | (with_reducible refine LeO.bind ?_ (fun _ => ?_))
    | exact ih0 _ _ _
    | exact LeO.none _
    | refine LeO.ite ?_ ?_
    | refine LeO.bind ?_ (fun _ => ?_)
theorem laws_heldLinePartS.mono : ∀ a0 a1 k, LeO (laws_heldLinePartS.f k a0 a1) (laws_heldLinePartS.f (k + 1) a0 a1) := by
 intro a0 a1 k
 have ih0 := laws_heldLinePartS.mono_l k
 unfold laws_heldLinePartS.f
 repeat' first
  | (with_reducible exact ih0 _ _ _)
  | (with_reducible exact LeO.refl _)
  | (with_reducible exact LeO.none _)
  | (with_reducible refine LeO.ite ?_ ?_)
  | (with_reducible refine LeO.bind ?_ (fun _ => ?_))
  | exact ih0 _ _ _
  | exact LeO.none _
  | refine LeO.ite ?_ ?_
  | refine LeO.bind ?_ (fun _ => ?_)
set_option maxHeartbeats 8000000 in
set_option maxRecDepth 100000 in
theorem laws_heldLinePartS.calls (k : Nat) (A0 : Option Addr) (c0 : Nat) (l0 : List (S45)) (a1 : Int) (r : Int) (w : World) (hr0 : Kd.C k45 w A0 l0.length l0) (hc0 : l0.length ≤ c0) (h : laws_heldLinePartS.f k l0 a1 = some r) :
  Calls Try.prog 33 #[.slice A0 l0.length c0, .int .i64 a1] w fun e w' => e = .returned (.int .i64 r) ∧ Drawn0 w w' := by
 have HR0 := Aside0.mk hr0
 have HC0 := Aside0.mk hc0
 clear hr0 hc0
 have H : (laws_heldLinePartS.l0 k l0 a1 0) = some r := h
 clear h
 have H' := Aside0.mk H
 clear H
 go_enter Try.func33, Try.ntmps33
 go_wp2
 go_loopg [1, 5] k (fun kq v1 v5 w' => ∃ (x1_1 : Int) (x5_1 : Int), v1 = .int .i64 x1_1 ∧ v5 = .int .i64 x5_1 ∧ Aside0 (laws_heldLinePartS.l0 kq l0 x1_1 x5_1 = some r) ∧ Aside0 (kq ≤ k) ∧ Drawn0 w w')
 case atStart => exact ⟨(a1), (0), (by first | rfl | (simp; done) | (simp [*]; done)), (by first | rfl | (simp; done) | (simp [*]; done)), H', ⟨Nat.le_refl _⟩, by repeat (first | exact Drawn0.refl _ | apply Drawn0.step)⟩
 case round =>
  clear H'
  try clear p2
  obtain ⟨x1_1, x5_1, rfl, rfl, HA, HK1, ⟨m1, rfl⟩⟩ := hrel
  cases gk with
  | zero => exact absurd HA.out (by simp [laws_heldLinePartS.l0])
  | succ k1 =>
   have H := HA.out
   clear HA
   simp only [laws_heldLinePartS.l0] at H
   by_cases c3 : x5_1 < (l0.length : Int)
   case neg =>
    rw [if_neg c3] at H
    have c3b0 : decide (x5_1 < (l0.length : Int)) = false := decide_eq_false c3
    clear c3
    obtain rfl := Option.some.inj H
    go_wp2
    go_ret
    exact ⟨by first | rfl | (simp; done) | (simp [*]; done), by repeat (first | exact Drawn0.refl _ | apply Drawn0.step)⟩
   rw [if_pos c3] at H
   have c3b0 : decide (x5_1 < (l0.length : Int)) = true := decide_eq_true c3
   clear c3
   by_cases c4 : 0 ≤ x5_1
   case neg =>
    rw [if_neg c4] at H
    exact absurd H (by simp)
   rw [if_pos c4] at H
   have c4b0 : decide (0 ≤ x5_1) = true := decide_eq_true c4
   clear c4
   by_cases c5 : ((rd_T45 l0 x5_1).f0) = x1_1
   case neg =>
    rw [if_neg c5] at H
    have c5b0 : (((rd_T45 l0 x5_1).f0) == x1_1) = false := beq_eq_false_iff_ne.mpr c5
    have c5b1 : (((rd_T45 l0 x5_1).f0) != x1_1) = true := bne_iff_ne.mpr c5
    obtain rfl := Option.some.inj H
    have p381 : 0 ≤ (x5_1 : Int) := of_decide_eq_true (by first | (with_reducible assumption) | assumption)
    have q381 : x5_1 < (l0.length : Int) := of_decide_eq_true (by first | (with_reducible assumption) | assumption)
    obtain ⟨ad381, e381, hx381_0, hx381_1, hx381_2, hx381_3, hx381_4, hx381_5⟩ := at_T45 HR0.out x5_1 p381 q381
    cases e381
    replace p381 := eq_true p381
    replace q381 := eq_true q381
    go_wp2
    go_ret
    exact ⟨by first | rfl | (simp; done) | (simp [*]; done), by repeat (first | exact Drawn0.refl _ | apply Drawn0.step)⟩
   rw [if_pos c5] at H
   have c5b0 : (((rd_T45 l0 x5_1).f0) == x1_1) = true := beq_iff_eq.mpr c5
   have c5b1 : (((rd_T45 l0 x5_1).f0) != x1_1) = false := bne_eq_false_iff_eq.mpr c5
   clear c5
   by_cases c6 : ((rd_T45 l0 x5_1).f1.f0) = (wrap64 (x1_1 + 1))
   case neg =>
    rw [if_neg c6] at H
    have c6b0 : (((rd_T45 l0 x5_1).f1.f0) == (wrap64 (x1_1 + 1))) = false := beq_eq_false_iff_ne.mpr c6
    have c6b1 : (((rd_T45 l0 x5_1).f1.f0) != (wrap64 (x1_1 + 1))) = true := bne_iff_ne.mpr c6
    obtain rfl := Option.some.inj H
    have p381 : 0 ≤ (x5_1 : Int) := of_decide_eq_true (by first | (with_reducible assumption) | assumption)
    have q381 : x5_1 < (l0.length : Int) := of_decide_eq_true (by first | (with_reducible assumption) | assumption)
    obtain ⟨ad381, e381, hx381_0, hx381_1, hx381_2, hx381_3, hx381_4, hx381_5⟩ := at_T45 HR0.out x5_1 p381 q381
    cases e381
    replace p381 := eq_true p381
    replace q381 := eq_true q381
    have p382 : 0 ≤ (x5_1 : Int) := of_decide_eq_true (by first | (with_reducible assumption) | assumption)
    have q382 : x5_1 < (l0.length : Int) := of_decide_eq_true (by first | (with_reducible assumption) | assumption)
    obtain ⟨ad382, e382, hx382_0, hx382_1, hx382_2, hx382_3, hx382_4, hx382_5⟩ := at_T45 HR0.out x5_1 p382 q382
    obtain rfl : ad381 = ad382 := (by injection e382)
    replace p382 := eq_true p382
    replace q382 := eq_true q382
    go_wp2
    go_ret
    exact ⟨by first | rfl | (simp; done) | (simp [*]; done), by repeat (first | exact Drawn0.refl _ | apply Drawn0.step)⟩
   rw [if_pos c6] at H
   have c6b0 : (((rd_T45 l0 x5_1).f1.f0) == (wrap64 (x1_1 + 1))) = true := beq_iff_eq.mpr c6
   have c6b1 : (((rd_T45 l0 x5_1).f1.f0) != (wrap64 (x1_1 + 1))) = false := bne_eq_false_iff_eq.mpr c6
   clear c6
   by_cases c7 : ((rd_T45 l0 x5_1).f1.f1) = (wrap64 ((wrap64 (x1_1 + 1)) + 1))
   case neg =>
    rw [if_neg c7] at H
    have c7b0 : (((rd_T45 l0 x5_1).f1.f1) == (wrap64 ((wrap64 (x1_1 + 1)) + 1))) = false := beq_eq_false_iff_ne.mpr c7
    have c7b1 : (((rd_T45 l0 x5_1).f1.f1) != (wrap64 ((wrap64 (x1_1 + 1)) + 1))) = true := bne_iff_ne.mpr c7
    obtain rfl := Option.some.inj H
    have p381 : 0 ≤ (x5_1 : Int) := of_decide_eq_true (by first | (with_reducible assumption) | assumption)
    have q381 : x5_1 < (l0.length : Int) := of_decide_eq_true (by first | (with_reducible assumption) | assumption)
    obtain ⟨ad381, e381, hx381_0, hx381_1, hx381_2, hx381_3, hx381_4, hx381_5⟩ := at_T45 HR0.out x5_1 p381 q381
    cases e381
    replace p381 := eq_true p381
    replace q381 := eq_true q381
    have p382 : 0 ≤ (x5_1 : Int) := of_decide_eq_true (by first | (with_reducible assumption) | assumption)
    have q382 : x5_1 < (l0.length : Int) := of_decide_eq_true (by first | (with_reducible assumption) | assumption)
    obtain ⟨ad382, e382, hx382_0, hx382_1, hx382_2, hx382_3, hx382_4, hx382_5⟩ := at_T45 HR0.out x5_1 p382 q382
    obtain rfl : ad381 = ad382 := (by injection e382)
    replace p382 := eq_true p382
    replace q382 := eq_true q382
    have p383 : 0 ≤ (x5_1 : Int) := of_decide_eq_true (by first | (with_reducible assumption) | assumption)
    have q383 : x5_1 < (l0.length : Int) := of_decide_eq_true (by first | (with_reducible assumption) | assumption)
    obtain ⟨ad383, e383, hx383_0, hx383_1, hx383_2, hx383_3, hx383_4, hx383_5⟩ := at_T45 HR0.out x5_1 p383 q383
    obtain rfl : ad381 = ad383 := (by injection e383)
    replace p383 := eq_true p383
    replace q383 := eq_true q383
    go_wp2
    go_ret
    exact ⟨by first | rfl | (simp; done) | (simp [*]; done), by repeat (first | exact Drawn0.refl _ | apply Drawn0.step)⟩
   rw [if_pos c7] at H
   have c7b0 : (((rd_T45 l0 x5_1).f1.f1) == (wrap64 ((wrap64 (x1_1 + 1)) + 1))) = true := beq_iff_eq.mpr c7
   have c7b1 : (((rd_T45 l0 x5_1).f1.f1) != (wrap64 ((wrap64 (x1_1 + 1)) + 1))) = false := bne_eq_false_iff_eq.mpr c7
   clear c7
   by_cases c8 : ((rd_T45 l0 x5_1).f2) = (wrap64 ((wrap64 ((wrap64 (x1_1 + 1)) + 1)) + 1))
   case neg =>
    rw [if_neg c8] at H
    have c8b0 : (((rd_T45 l0 x5_1).f2) == (wrap64 ((wrap64 ((wrap64 (x1_1 + 1)) + 1)) + 1))) = false := beq_eq_false_iff_ne.mpr c8
    have c8b1 : (((rd_T45 l0 x5_1).f2) != (wrap64 ((wrap64 ((wrap64 (x1_1 + 1)) + 1)) + 1))) = true := bne_iff_ne.mpr c8
    obtain rfl := Option.some.inj H
    have p381 : 0 ≤ (x5_1 : Int) := of_decide_eq_true (by first | (with_reducible assumption) | assumption)
    have q381 : x5_1 < (l0.length : Int) := of_decide_eq_true (by first | (with_reducible assumption) | assumption)
    obtain ⟨ad381, e381, hx381_0, hx381_1, hx381_2, hx381_3, hx381_4, hx381_5⟩ := at_T45 HR0.out x5_1 p381 q381
    cases e381
    replace p381 := eq_true p381
    replace q381 := eq_true q381
    have p382 : 0 ≤ (x5_1 : Int) := of_decide_eq_true (by first | (with_reducible assumption) | assumption)
    have q382 : x5_1 < (l0.length : Int) := of_decide_eq_true (by first | (with_reducible assumption) | assumption)
    obtain ⟨ad382, e382, hx382_0, hx382_1, hx382_2, hx382_3, hx382_4, hx382_5⟩ := at_T45 HR0.out x5_1 p382 q382
    obtain rfl : ad381 = ad382 := (by injection e382)
    replace p382 := eq_true p382
    replace q382 := eq_true q382
    have p383 : 0 ≤ (x5_1 : Int) := of_decide_eq_true (by first | (with_reducible assumption) | assumption)
    have q383 : x5_1 < (l0.length : Int) := of_decide_eq_true (by first | (with_reducible assumption) | assumption)
    obtain ⟨ad383, e383, hx383_0, hx383_1, hx383_2, hx383_3, hx383_4, hx383_5⟩ := at_T45 HR0.out x5_1 p383 q383
    obtain rfl : ad381 = ad383 := (by injection e383)
    replace p383 := eq_true p383
    replace q383 := eq_true q383
    have p384 : 0 ≤ (x5_1 : Int) := of_decide_eq_true (by first | (with_reducible assumption) | assumption)
    have q384 : x5_1 < (l0.length : Int) := of_decide_eq_true (by first | (with_reducible assumption) | assumption)
    obtain ⟨ad384, e384, hx384_0, hx384_1, hx384_2, hx384_3, hx384_4, hx384_5⟩ := at_T45 HR0.out x5_1 p384 q384
    obtain rfl : ad381 = ad384 := (by injection e384)
    replace p384 := eq_true p384
    replace q384 := eq_true q384
    go_wp2
    go_ret
    exact ⟨by first | rfl | (simp; done) | (simp [*]; done), by repeat (first | exact Drawn0.refl _ | apply Drawn0.step)⟩
   rw [if_pos c8] at H
   have c8b0 : (((rd_T45 l0 x5_1).f2) == (wrap64 ((wrap64 ((wrap64 (x1_1 + 1)) + 1)) + 1))) = true := beq_iff_eq.mpr c8
   have c8b1 : (((rd_T45 l0 x5_1).f2) != (wrap64 ((wrap64 ((wrap64 (x1_1 + 1)) + 1)) + 1))) = false := bne_eq_false_iff_eq.mpr c8
   clear c8
   by_cases c9 : ((rd_T45 l0 x5_1).f3) = (wrap64 ((wrap64 ((wrap64 ((wrap64 (x1_1 + 1)) + 1)) + 1)) + 1))
   case neg =>
    rw [if_neg c9] at H
    have c9b0 : (((rd_T45 l0 x5_1).f3) == (wrap64 ((wrap64 ((wrap64 ((wrap64 (x1_1 + 1)) + 1)) + 1)) + 1))) = false := beq_eq_false_iff_ne.mpr c9
    have c9b1 : (((rd_T45 l0 x5_1).f3) != (wrap64 ((wrap64 ((wrap64 ((wrap64 (x1_1 + 1)) + 1)) + 1)) + 1))) = true := bne_iff_ne.mpr c9
    obtain rfl := Option.some.inj H
    have p381 : 0 ≤ (x5_1 : Int) := of_decide_eq_true (by first | (with_reducible assumption) | assumption)
    have q381 : x5_1 < (l0.length : Int) := of_decide_eq_true (by first | (with_reducible assumption) | assumption)
    obtain ⟨ad381, e381, hx381_0, hx381_1, hx381_2, hx381_3, hx381_4, hx381_5⟩ := at_T45 HR0.out x5_1 p381 q381
    cases e381
    replace p381 := eq_true p381
    replace q381 := eq_true q381
    have p382 : 0 ≤ (x5_1 : Int) := of_decide_eq_true (by first | (with_reducible assumption) | assumption)
    have q382 : x5_1 < (l0.length : Int) := of_decide_eq_true (by first | (with_reducible assumption) | assumption)
    obtain ⟨ad382, e382, hx382_0, hx382_1, hx382_2, hx382_3, hx382_4, hx382_5⟩ := at_T45 HR0.out x5_1 p382 q382
    obtain rfl : ad381 = ad382 := (by injection e382)
    replace p382 := eq_true p382
    replace q382 := eq_true q382
    have p383 : 0 ≤ (x5_1 : Int) := of_decide_eq_true (by first | (with_reducible assumption) | assumption)
    have q383 : x5_1 < (l0.length : Int) := of_decide_eq_true (by first | (with_reducible assumption) | assumption)
    obtain ⟨ad383, e383, hx383_0, hx383_1, hx383_2, hx383_3, hx383_4, hx383_5⟩ := at_T45 HR0.out x5_1 p383 q383
    obtain rfl : ad381 = ad383 := (by injection e383)
    replace p383 := eq_true p383
    replace q383 := eq_true q383
    have p384 : 0 ≤ (x5_1 : Int) := of_decide_eq_true (by first | (with_reducible assumption) | assumption)
    have q384 : x5_1 < (l0.length : Int) := of_decide_eq_true (by first | (with_reducible assumption) | assumption)
    obtain ⟨ad384, e384, hx384_0, hx384_1, hx384_2, hx384_3, hx384_4, hx384_5⟩ := at_T45 HR0.out x5_1 p384 q384
    obtain rfl : ad381 = ad384 := (by injection e384)
    replace p384 := eq_true p384
    replace q384 := eq_true q384
    have p385 : 0 ≤ (x5_1 : Int) := of_decide_eq_true (by first | (with_reducible assumption) | assumption)
    have q385 : x5_1 < (l0.length : Int) := of_decide_eq_true (by first | (with_reducible assumption) | assumption)
    obtain ⟨ad385, e385, hx385_0, hx385_1, hx385_2, hx385_3, hx385_4, hx385_5⟩ := at_T45 HR0.out x5_1 p385 q385
    obtain rfl : ad381 = ad385 := (by injection e385)
    replace p385 := eq_true p385
    replace q385 := eq_true q385
    go_wp2
    go_ret
    exact ⟨by first | rfl | (simp; done) | (simp [*]; done), by repeat (first | exact Drawn0.refl _ | apply Drawn0.step)⟩
   rw [if_pos c9] at H
   have c9b0 : (((rd_T45 l0 x5_1).f3) == (wrap64 ((wrap64 ((wrap64 ((wrap64 (x1_1 + 1)) + 1)) + 1)) + 1))) = true := beq_iff_eq.mpr c9
   have c9b1 : (((rd_T45 l0 x5_1).f3) != (wrap64 ((wrap64 ((wrap64 ((wrap64 (x1_1 + 1)) + 1)) + 1)) + 1))) = false := bne_eq_false_iff_eq.mpr c9
   clear c9
   by_cases c10 : ((rd_T45 l0 x5_1).f4) = (wrap64 ((wrap64 ((wrap64 ((wrap64 ((wrap64 (x1_1 + 1)) + 1)) + 1)) + 1)) + 1))
   case neg =>
    rw [if_neg c10] at H
    have c10b0 : (((rd_T45 l0 x5_1).f4) == (wrap64 ((wrap64 ((wrap64 ((wrap64 ((wrap64 (x1_1 + 1)) + 1)) + 1)) + 1)) + 1))) = false := beq_eq_false_iff_ne.mpr c10
    have c10b1 : (((rd_T45 l0 x5_1).f4) != (wrap64 ((wrap64 ((wrap64 ((wrap64 ((wrap64 (x1_1 + 1)) + 1)) + 1)) + 1)) + 1))) = true := bne_iff_ne.mpr c10
    obtain rfl := Option.some.inj H
    have p381 : 0 ≤ (x5_1 : Int) := of_decide_eq_true (by first | (with_reducible assumption) | assumption)
    have q381 : x5_1 < (l0.length : Int) := of_decide_eq_true (by first | (with_reducible assumption) | assumption)
    obtain ⟨ad381, e381, hx381_0, hx381_1, hx381_2, hx381_3, hx381_4, hx381_5⟩ := at_T45 HR0.out x5_1 p381 q381
    cases e381
    replace p381 := eq_true p381
    replace q381 := eq_true q381
    have p382 : 0 ≤ (x5_1 : Int) := of_decide_eq_true (by first | (with_reducible assumption) | assumption)
    have q382 : x5_1 < (l0.length : Int) := of_decide_eq_true (by first | (with_reducible assumption) | assumption)
    obtain ⟨ad382, e382, hx382_0, hx382_1, hx382_2, hx382_3, hx382_4, hx382_5⟩ := at_T45 HR0.out x5_1 p382 q382
    obtain rfl : ad381 = ad382 := (by injection e382)
    replace p382 := eq_true p382
    replace q382 := eq_true q382
    have p383 : 0 ≤ (x5_1 : Int) := of_decide_eq_true (by first | (with_reducible assumption) | assumption)
    have q383 : x5_1 < (l0.length : Int) := of_decide_eq_true (by first | (with_reducible assumption) | assumption)
    obtain ⟨ad383, e383, hx383_0, hx383_1, hx383_2, hx383_3, hx383_4, hx383_5⟩ := at_T45 HR0.out x5_1 p383 q383
    obtain rfl : ad381 = ad383 := (by injection e383)
    replace p383 := eq_true p383
    replace q383 := eq_true q383
    have p384 : 0 ≤ (x5_1 : Int) := of_decide_eq_true (by first | (with_reducible assumption) | assumption)
    have q384 : x5_1 < (l0.length : Int) := of_decide_eq_true (by first | (with_reducible assumption) | assumption)
    obtain ⟨ad384, e384, hx384_0, hx384_1, hx384_2, hx384_3, hx384_4, hx384_5⟩ := at_T45 HR0.out x5_1 p384 q384
    obtain rfl : ad381 = ad384 := (by injection e384)
    replace p384 := eq_true p384
    replace q384 := eq_true q384
    have p385 : 0 ≤ (x5_1 : Int) := of_decide_eq_true (by first | (with_reducible assumption) | assumption)
    have q385 : x5_1 < (l0.length : Int) := of_decide_eq_true (by first | (with_reducible assumption) | assumption)
    obtain ⟨ad385, e385, hx385_0, hx385_1, hx385_2, hx385_3, hx385_4, hx385_5⟩ := at_T45 HR0.out x5_1 p385 q385
    obtain rfl : ad381 = ad385 := (by injection e385)
    replace p385 := eq_true p385
    replace q385 := eq_true q385
    have p386 : 0 ≤ (x5_1 : Int) := of_decide_eq_true (by first | (with_reducible assumption) | assumption)
    have q386 : x5_1 < (l0.length : Int) := of_decide_eq_true (by first | (with_reducible assumption) | assumption)
    obtain ⟨ad386, e386, hx386_0, hx386_1, hx386_2, hx386_3, hx386_4, hx386_5⟩ := at_T45 HR0.out x5_1 p386 q386
    obtain rfl : ad381 = ad386 := (by injection e386)
    replace p386 := eq_true p386
    replace q386 := eq_true q386
    go_wp2
    go_ret
    exact ⟨by first | rfl | (simp; done) | (simp [*]; done), by repeat (first | exact Drawn0.refl _ | apply Drawn0.step)⟩
   rw [if_pos c10] at H
   have c10b0 : (((rd_T45 l0 x5_1).f4) == (wrap64 ((wrap64 ((wrap64 ((wrap64 ((wrap64 (x1_1 + 1)) + 1)) + 1)) + 1)) + 1))) = true := beq_iff_eq.mpr c10
   have c10b1 : (((rd_T45 l0 x5_1).f4) != (wrap64 ((wrap64 ((wrap64 ((wrap64 ((wrap64 (x1_1 + 1)) + 1)) + 1)) + 1)) + 1))) = false := bne_eq_false_iff_eq.mpr c10
   clear c10
   have H' := Aside0.mk H
   clear H
   have p381 : 0 ≤ (x5_1 : Int) := of_decide_eq_true (by first | (with_reducible assumption) | assumption)
   have q381 : x5_1 < (l0.length : Int) := of_decide_eq_true (by first | (with_reducible assumption) | assumption)
   obtain ⟨ad381, e381, hx381_0, hx381_1, hx381_2, hx381_3, hx381_4, hx381_5⟩ := at_T45 HR0.out x5_1 p381 q381
   cases e381
   replace p381 := eq_true p381
   replace q381 := eq_true q381
   have p382 : 0 ≤ (x5_1 : Int) := of_decide_eq_true (by first | (with_reducible assumption) | assumption)
   have q382 : x5_1 < (l0.length : Int) := of_decide_eq_true (by first | (with_reducible assumption) | assumption)
   obtain ⟨ad382, e382, hx382_0, hx382_1, hx382_2, hx382_3, hx382_4, hx382_5⟩ := at_T45 HR0.out x5_1 p382 q382
   obtain rfl : ad381 = ad382 := (by injection e382)
   replace p382 := eq_true p382
   replace q382 := eq_true q382
   have p383 : 0 ≤ (x5_1 : Int) := of_decide_eq_true (by first | (with_reducible assumption) | assumption)
   have q383 : x5_1 < (l0.length : Int) := of_decide_eq_true (by first | (with_reducible assumption) | assumption)
   obtain ⟨ad383, e383, hx383_0, hx383_1, hx383_2, hx383_3, hx383_4, hx383_5⟩ := at_T45 HR0.out x5_1 p383 q383
   obtain rfl : ad381 = ad383 := (by injection e383)
   replace p383 := eq_true p383
   replace q383 := eq_true q383
   have p384 : 0 ≤ (x5_1 : Int) := of_decide_eq_true (by first | (with_reducible assumption) | assumption)
   have q384 : x5_1 < (l0.length : Int) := of_decide_eq_true (by first | (with_reducible assumption) | assumption)
   obtain ⟨ad384, e384, hx384_0, hx384_1, hx384_2, hx384_3, hx384_4, hx384_5⟩ := at_T45 HR0.out x5_1 p384 q384
   obtain rfl : ad381 = ad384 := (by injection e384)
   replace p384 := eq_true p384
   replace q384 := eq_true q384
   have p385 : 0 ≤ (x5_1 : Int) := of_decide_eq_true (by first | (with_reducible assumption) | assumption)
   have q385 : x5_1 < (l0.length : Int) := of_decide_eq_true (by first | (with_reducible assumption) | assumption)
   obtain ⟨ad385, e385, hx385_0, hx385_1, hx385_2, hx385_3, hx385_4, hx385_5⟩ := at_T45 HR0.out x5_1 p385 q385
   obtain rfl : ad381 = ad385 := (by injection e385)
   replace p385 := eq_true p385
   replace q385 := eq_true q385
   have p386 : 0 ≤ (x5_1 : Int) := of_decide_eq_true (by first | (with_reducible assumption) | assumption)
   have q386 : x5_1 < (l0.length : Int) := of_decide_eq_true (by first | (with_reducible assumption) | assumption)
   obtain ⟨ad386, e386, hx386_0, hx386_1, hx386_2, hx386_3, hx386_4, hx386_5⟩ := at_T45 HR0.out x5_1 p386 q386
   obtain rfl : ad381 = ad386 := (by injection e386)
   replace p386 := eq_true p386
   replace q386 := eq_true q386
   go_wp2
   go_roundg k1
   case measure => have := HK1.out; omega
   case rel => exact ⟨(wrap64 ((wrap64 ((wrap64 ((wrap64 ((wrap64 ((wrap64 (x1_1 + 1)) + 1)) + 1)) + 1)) + 1)) + 1)), (wrap64 (x5_1 + 1)), (by first | rfl | (simp; done) | (simp [*]; done)), (by first | rfl | (simp; done) | (simp [*]; done)), H', ⟨by have := HK1.out; omega⟩, by repeat (first | exact Drawn0.refl _ | apply Drawn0.step)⟩

end Go.Proofs.Ytenfngleiohbhaa.P
