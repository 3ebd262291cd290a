/- Written by a program of this session (wip/p2) out of the translation: plain Lean functions, and that the calls of the Go functions come to what these say. Conditions: as each contract states. -/
import Derived.Test.YtlfhedmmlfpekaaPx0
import Derived.Test.YtlfhedmmlfpekaaPx7
import Derived.Test.YtlfhedmmlfpekaaPx21
import Derived.Test.YtlfhedmmlfpekaaPx26
namespace Go.Proofs.Ytlfhedmmlfpekaa.P
open Go.RowKit Go.Proofs.YtlfhedmmlfpekaaW.PrintWords Go.Proofs.YtlfhedmmlfpekaaW.PrintLast Go.Proofs.YtlfhedmmlfpekaaW.PrintMore
attribute [local go_sem] max2_int min2_int max_two min_two max_three min_three max_four min_four   -- for this text's walks alone
set_option linter.unusedVariables false
set_option linter.unusedSimpArgs false

/-! ### spec_IsStronger: function 36 -/
mutual
def spec_IsStronger.j0 : Nat → List (S64) → List (S64) → Bool → Option (Bool × Bool)
  | 0, _, _, _ => none
  | k + 1, x0, x1, x19 => if x19 = true then (some (false, false)) else ((spec_tbCases.f k).bind fun t404 => (spec_IsStronger.l0 k x0 x1 t404 (t404.length : Int) 0))
def spec_IsStronger.l0 : Nat → List (S64) → List (S64) → List (S25) → Int → Int → Option (Bool × Bool)
  | 0, _, _, _, _, _ => none
  | k + 1, x0, x1, x20, x21, x22 => if x22 < x21 then (if 0 ≤ x22 then (if x22 < (x20.length : Int) then ((spec_tbFor.f k x1 ((rd_T25 x20 x22).f0) ((rd_T25 x20 x22).f1) ((rd_T25 x20 x22).f2)).bind fun t409 => (if t409 < 0 then (spec_IsStronger.l0 k x0 x1 x20 x21 (wrap64 (x22 + 1))) else ((spec_tbFor.f k x0 ((rd_T25 x20 x22).f0) ((rd_T25 x20 x22).f1) ((rd_T25 x20 x22).f2)).bind fun t410 => (if t410 < 0 then (some (false, true)) else (if 0 ≤ t409 then (if t409 < (x1.length : Int) then (spec_IsStronger.l1 k x0 x1 t410 x20 x21 x22 ((rd_T64 x1 t409).f6) (((rd_T64 x1 t409).f6).length : Int) 0) else (none)) else (none)))))) else (none)) else (none)) else (some (true, true))
def spec_IsStronger.l1 : Nat → List (S64) → List (S64) → Int → List (S25) → Int → Int → List Int → Int → Int → Option (Bool × Bool)
  | 0, _, _, _, _, _, _, _, _, _ => none
  | k + 1, x0, x1, x9, x20, x21, x22, x40, x41, x42 => if x42 < x41 then (if 0 ≤ x42 then (if x42 < (x40.length : Int) then (if 0 ≤ x9 then (if x9 < (x0.length : Int) then (if x42 < (((rd_T64 x0 x9).f6).length : Int) then (if (rd ((rd_T64 x0 x9).f6) x42) < (rd x40 x42) then (some (false, true)) else (spec_IsStronger.l1 k x0 x1 x9 x20 x21 x22 x40 x41 (wrap64 (x42 + 1)))) else (none)) else (none)) else (none)) else (none)) else (none)) else (spec_IsStronger.l0 k x0 x1 x20 x21 (wrap64 (x22 + 1)))
end
def spec_IsStronger.f (k : Nat) (l0 : List (S64)) (l1 : List (S64)) : Option (Bool × Bool) := (spec_tbGood.f k l0).bind fun t402 => (if t402 = true then ((spec_tbGood.f k l1).bind fun t403 => (spec_IsStronger.j0 k l0 l1 (!t403))) else (spec_IsStronger.j0 k l0 l1 true))
theorem spec_IsStronger.mono_l : ∀ k, (∀ y0 y1 y2, LeO (spec_IsStronger.j0 k y0 y1 y2) (spec_IsStronger.j0 (k + 1) y0 y1 y2)) ∧ (∀ y0 y1 y2 y3 y4, LeO (spec_IsStronger.l0 k y0 y1 y2 y3 y4) (spec_IsStronger.l0 (k + 1) y0 y1 y2 y3 y4)) ∧ (∀ y0 y1 y2 y3 y4 y5 y6 y7 y8, LeO (spec_IsStronger.l1 k y0 y1 y2 y3 y4 y5 y6 y7 y8) (spec_IsStronger.l1 (k + 1) y0 y1 y2 y3 y4 y5 y6 y7 y8))
  | 0 => ⟨fun _ _ _ r h => by simp [spec_IsStronger.j0] at h, fun _ _ _ _ _ r h => by simp [spec_IsStronger.l0] at h, fun _ _ _ _ _ _ _ _ _ r h => by simp [spec_IsStronger.l1] at h⟩
  | k + 1 => by
    obtain ⟨ih0, ih1, ih2⟩ := spec_IsStronger.mono_l k
    refine ⟨?_, ?_, ?_⟩
    · intro y0 y1 y2
      unfold spec_IsStronger.j0
      repeat' first
      | (with_reducible exact ih0 _ _ _)
      | (with_reducible exact ih1 _ _ _ _ _)
      | (with_reducible exact ih2 _ _ _ _ _ _ _ _ _)
      | (with_reducible exact spec_tbCases.mono _)
      | (with_reducible exact spec_tbFor.mono _ _ _ _ _)
      | (with_reducible exact spec_tbGood.mono _ _)
      | (with_reducible exact LeO.refl _)
      | (with_reducible exact LeO.none _)
      | (with_reducible refine LeO.ite ?_ ?_)
      | (with_reducible refine LeO.bind ?_ (fun _ => ?_))
      | exact ih0 _ _ _
      | exact ih1 _ _ _ _ _
      | exact ih2 _ _ _ _ _ _ _ _ _
      | exact spec_tbCases.mono _
      | exact spec_tbFor.mono _ _ _ _ _
      | exact spec_tbGood.mono _ _
      | exact LeO.none _
      | refine LeO.ite ?_ ?_
      | refine LeO.bind ?_ (fun _ => ?_)
    · intro y0 y1 y2 y3 y4
      unfold spec_IsStronger.l0
      repeat' first
      | (with_reducible exact ih0 _ _ _)
      | (with_reducible exact ih1 _ _ _ _ _)
      | (with_reducible exact ih2 _ _ _ _ _ _ _ _ _)
      | (with_reducible exact spec_tbCases.mono _)
      | (with_reducible exact spec_tbFor.mono _ _ _ _ _)
      | (with_reducible exact spec_tbGood.mono _ _)
      | (with_reducible exact LeO.refl _)
      | (with_reducible exact LeO.none _)
      | (with_reducible refine LeO.ite ?_ ?_)
      | (with_reducible refine LeO.bind ?_ (fun _ => ?_))
      | exact ih0 _ _ _
      | exact ih1 _ _ _ _ _
      | exact ih2 _ _ _ _ _ _ _ _ _
      | exact spec_tbCases.mono _
      | exact spec_tbFor.mono _ _ _ _ _
      | exact spec_tbGood.mono _ _
      | exact LeO.none _
      | refine LeO.ite ?_ ?_
      | refine LeO.bind ?_ (fun _ => ?_)
    · intro y0 y1 y2 y3 y4 y5 y6 y7 y8
      unfold spec_IsStronger.l1
      repeat' first
      | (with_reducible exact ih0 _ _ _)
      | (with_reducible exact ih1 _ _ _ _ _)
      | (with_reducible exact ih2 _ _ _ _ _ _ _ _ _)
      | (with_reducible exact spec_tbCases.mono _)
      | (with_reducible exact spec_tbFor.mono _ _ _ _ _)
      | (with_reducible exact spec_tbGood.mono _ _)
      | (with_reducible exact LeO.refl _)
      | (with_reducible exact LeO.none _)
      | (with_reducible refine LeO.ite ?_ ?_)
      | (with_reducible refine LeO.bind ?_ (fun _ => ?_))
      | exact ih0 _ _ _
      | exact ih1 _ _ _ _ _
      | exact ih2 _ _ _ _ _ _ _ _ _
      | exact spec_tbCases.mono _
      | exact spec_tbFor.mono _ _ _ _ _
      | exact spec_tbGood.mono _ _
      | exact LeO.none _
      | refine LeO.ite ?_ ?_
      | refine LeO.bind ?_ (fun _ => ?_)
theorem spec_IsStronger.mono : ∀ a0 a1 k, LeO (spec_IsStronger.f k a0 a1) (spec_IsStronger.f (k + 1) a0 a1) := by
  intro a0 a1 k
  obtain ⟨ih0, ih1, ih2⟩ := spec_IsStronger.mono_l k
  unfold spec_IsStronger.f
  repeat' first
      | (with_reducible exact ih0 _ _ _)
      | (with_reducible exact ih1 _ _ _ _ _)
      | (with_reducible exact ih2 _ _ _ _ _ _ _ _ _)
      | (with_reducible exact spec_tbCases.mono _)
      | (with_reducible exact spec_tbFor.mono _ _ _ _ _)
      | (with_reducible exact spec_tbGood.mono _ _)
      | (with_reducible exact LeO.refl _)
      | (with_reducible exact LeO.none _)
      | (with_reducible refine LeO.ite ?_ ?_)
      | (with_reducible refine LeO.bind ?_ (fun _ => ?_))
      | exact ih0 _ _ _
      | exact ih1 _ _ _ _ _
      | exact ih2 _ _ _ _ _ _ _ _ _
      | exact spec_tbCases.mono _
      | exact spec_tbFor.mono _ _ _ _ _
      | exact spec_tbGood.mono _ _
      | exact LeO.none _
      | refine LeO.ite ?_ ?_
      | refine LeO.bind ?_ (fun _ => ?_)
set_option maxHeartbeats 8000000 in
set_option maxRecDepth 100000 in
theorem spec_IsStronger.calls (k : Nat) (A0 : Option Addr) (c0 : Nat) (l0 : List (S64)) (A1 : Option Addr) (c1 : Nat) (l1 : List (S64)) (r1 : Bool) (r2 : Bool) (w : World) (hr0 : Kd.C k64 w A0 l0.length l0) (hc0 : l0.length ≤ c0) (hr1 : Kd.C k64 w A1 l1.length l1) (hc1 : l1.length ≤ c1) (h : spec_IsStronger.f k l0 l1 = some (r1, r2)) :
    Calls Try.prog 36 #[.slice A0 l0.length c0, .slice A1 l1.length c1] w fun e w' => e = .returned (.tuple #[.bool r1, .bool r2]) ∧ Below w.heap.size w w' := by
  have hu25 := Try.underlying25
  have HR0 := Aside0.mk hr0
  have HC0 := Aside0.mk hc0
  clear hr0 hc0
  have HR1 := Aside0.mk hr1
  have HC1 := Aside0.mk hc1
  clear hr1 hc1
  have HB := Aside0.mk (Below.refl w.heap.size w)
  have H : ((spec_tbGood.f k l0).bind fun t402 => (if t402 = true then ((spec_tbGood.f k l1).bind fun t403 => (spec_IsStronger.j0 k l0 l1 (!t403))) else (spec_IsStronger.j0 k l0 l1 true))) = some (r1, r2) := h
  clear h
  have HC3 := Aside0.mk H
  clear H
  go_enter Try.func36, Try.ntmps36
  go_upto_region 1 with (fail)
  go_cut [19] (fun v19 wc => ∃ (kq : Nat) (x19_2 : Bool), v19 = .bool x19_2 ∧ Aside0 (spec_IsStronger.j0 kq l0 l1 x19_2 = some (r1, r2)) ∧ Aside0 (kq ≤ k) ∧ Aside0 (Below w.heap.size w wc))
  case first =>
    have H := HC3.out
    clear HC3
    replace H := Option.bind_eq_some_iff.mp H
    obtain ⟨t402, A40, H⟩ := H
    replace H : (if t402 = true then ((spec_tbGood.f k l1).bind fun t403 => (spec_IsStronger.j0 k l0 l1 (!t403))) else (spec_IsStronger.j0 k l0 l1 true)) = some (r1, r2) := H
    have A4 := Aside0.mk A40
    clear A40
    by_cases c5 : t402 = true
    · subst c5
      have H1 : ((spec_tbGood.f k l1).bind fun t403 => (spec_IsStronger.j0 k l0 l1 (!t403))) = some (r1, r2) := by rw [if_pos rfl] at H; exact H
      clear H
      have H := H1
      clear H1
      replace H := Option.bind_eq_some_iff.mp H
      obtain ⟨t403, A60, H⟩ := H
      replace H : (spec_IsStronger.j0 k l0 l1 (!t403)) = some (r1, r2) := H
      have A6 := Aside0.mk A60
      clear A60
      have H' := Aside0.mk H
      clear H
      go_wp2_with (first | ((with_reducible refine gate_callee (f := 62) rfl ?_); refine goesL_ (some 13) rfl rfl Try.func62 (by kernel_rfl) rfl #[.slice A0 l0.length c0] rfl (by (try simp only [List.map_toArray, List.map_cons, List.map_nil]); first | done | rfl | (simp only [List.length_drop, List.length_take]; rfl)) ?_; (with_reducible refine (spec_tbGood.calls k _ _ l0 true _ ?side1 ?side2 A4.out).mono ?_); (case side1 => repeat (first | exact (Kd.C_below HR0.out HB.out) | (with_reducible refine Kd.C_alloc ?_ _) | (with_reducible refine Kd.C_drewN ?_ _) | (with_reducible refine Kd.C_drew ?_))); (case side2 => exact HC0.out); rintro e w7 ⟨rfl, hb⟩; refine ⟨_, rfl, ?_⟩; have n0_ := Aside0.mk (below_step (by repeat (first | (with_reducible first | exact HB.out | apply below_alloc | apply pw_below_drewN | apply below_drew1) | exact HB.out)) hb); clear HB; have HB := n0_; clear n0_; (try clear hb); (try clear hb2); (try clear hk); (try clear hi)) | (go_at_call 62; (with_reducible refine (spec_tbGood.calls k _ _ l1 t403 _ ?side1 ?side2 A6.out).mono ?_); (case side1 => repeat (first | exact (Kd.C_below HR1.out HB.out) | (with_reducible refine Kd.C_alloc ?_ _) | (with_reducible refine Kd.C_drewN ?_ _) | (with_reducible refine Kd.C_drew ?_))); (case side2 => exact HC1.out); rintro e w8 ⟨rfl, hb⟩; have n0_ := Aside0.mk (below_step (by repeat (first | (with_reducible first | exact HB.out | apply below_alloc | apply pw_below_drewN | apply below_drew1) | exact HB.out)) hb); clear HB; have HB := n0_; clear n0_; (try clear hb); (try clear hb2); (try clear hk); (try clear hi)))
      go_meet
      case rel => exact ⟨_, (!t403), (by first | rfl | (simp; done) | (simp [*]; done)), H', ⟨by first | omega | exact Nat.le_refl _⟩, ⟨by repeat (first | (with_reducible first | exact HB.out | apply below_alloc | apply pw_below_drewN | apply below_drew1) | exact HB.out)⟩⟩
    · replace c5 := Bool.eq_false_iff.mpr c5
      subst c5
      have H1 : (spec_IsStronger.j0 k l0 l1 true) = some (r1, r2) := by rw [if_neg (show ¬ (false = true) by decide)] at H; exact H
      clear H
      have H := H1
      clear H1
      have H' := Aside0.mk H
      clear H
      go_wp2_with (first | ((with_reducible refine gate_callee (f := 62) rfl ?_); refine goesL_ (some 13) rfl rfl Try.func62 (by kernel_rfl) rfl #[.slice A0 l0.length c0] rfl (by (try simp only [List.map_toArray, List.map_cons, List.map_nil]); first | done | rfl | (simp only [List.length_drop, List.length_take]; rfl)) ?_; (with_reducible refine (spec_tbGood.calls k _ _ l0 false _ ?side1 ?side2 A4.out).mono ?_); (case side1 => repeat (first | exact (Kd.C_below HR0.out HB.out) | (with_reducible refine Kd.C_alloc ?_ _) | (with_reducible refine Kd.C_drewN ?_ _) | (with_reducible refine Kd.C_drew ?_))); (case side2 => exact HC0.out); rintro e w9 ⟨rfl, hb⟩; refine ⟨_, rfl, ?_⟩; have n0_ := Aside0.mk (below_step (by repeat (first | (with_reducible first | exact HB.out | apply below_alloc | apply pw_below_drewN | apply below_drew1) | exact HB.out)) hb); clear HB; have HB := n0_; clear n0_; (try clear hb); (try clear hb2); (try clear hk); (try clear hi)))
      go_meet
      case rel => exact ⟨_, (true), (by first | rfl | (simp; done) | (simp [*]; done)), H', ⟨by first | omega | exact Nat.le_refl _⟩, ⟨by repeat (first | (with_reducible first | exact HB.out | apply below_alloc | apply pw_below_drewN | apply below_drew1) | exact HB.out)⟩⟩
  case rest =>
    clear HC3
    try clear c1
    try clear p2
    try clear c3
    try clear c5
    try clear c6
    obtain ⟨kq, x19_2, rfl, HA, HJ2, HB⟩ := hcut
    cases kq with
    | zero => exact absurd HA.out (by simp [spec_IsStronger.j0])
    | succ kj2 =>
      have H := HA.out
      clear HA
      simp only [spec_IsStronger.j0] at H
      by_cases c10 : x19_2 = true
      · subst c10
        have H1 : (some (false, false)) = some (r1, r2) := by rw [if_pos rfl] at H; exact H
        clear H
        have H := H1
        clear H1
        simp only [Option.some.injEq, Prod.mk.injEq] at H
        obtain ⟨rfl, rfl⟩ := H
        go_wp2
        go_ret2
        exact ⟨by first | rfl | (simp [errW_none, errW_some] <;> rfl) | (simp [*, errW_none, errW_some] <;> rfl), by repeat (first | (with_reducible first | exact HB.out | apply below_alloc | apply pw_below_drewN | apply below_drew1) | exact HB.out)⟩
      · replace c10 := Bool.eq_false_iff.mpr c10
        subst c10
        have H1 : ((spec_tbCases.f kj2).bind fun t404 => (spec_IsStronger.l0 kj2 l0 l1 t404 (t404.length : Int) 0)) = some (r1, r2) := by rw [if_neg (show ¬ (false = true) by decide)] at H; exact H
        clear H
        have H := H1
        clear H1
        replace H := Option.bind_eq_some_iff.mp H
        obtain ⟨t404, A110, H⟩ := H
        replace H : (spec_IsStronger.l0 kj2 l0 l1 t404 (t404.length : Int) 0) = some (r1, r2) := H
        have A11 := Aside0.mk A110
        clear A110
        have H' := Aside0.mk H
        clear H
        go_wp2_with (first | ((with_reducible refine gate_callee (f := 70) rfl ?_); refine goesL_ (some 20) rfl rfl Try.func70 (by kernel_rfl) rfl #[] rfl (by (try simp only [List.map_toArray, List.map_cons, List.map_nil]); first | done | rfl | (simp only [List.length_drop, List.length_take]; rfl)) ?_; (with_reducible refine (spec_tbCases.calls kj2  t404 _ A11.out).mono ?_); rintro e w12 ⟨v405, rfl, ho0, hb⟩; refine ⟨_, rfl, ?_⟩; have n0_ := Aside0.mk (Kd.R_lower ho0 (below_size (by repeat (first | (with_reducible first | exact HB.out | apply below_alloc | apply pw_below_drewN | apply below_drew1) | exact HB.out)))); have n1_ := Aside0.mk (below_step (by repeat (first | (with_reducible first | exact HB.out | apply below_alloc | apply pw_below_drewN | apply below_drew1) | exact HB.out)) hb); clear HB; have HO406 := n0_; have HB := n1_; clear n0_ n1_; (try clear hb); (try clear hb2); (try clear hk); (try clear hi); (try clear ho0); obtain ⟨Ao13, co13, eo13⟩ := Kd.R_slice HO406.out; subst eo13))
        go_loopg [22] kj2 (fun kq v22 w' => ∃ (x22_2 : Int), v22 = .int .i64 x22_2 ∧ Aside0 (spec_IsStronger.l0 kq l0 l1 t404 (t404.length : Int) x22_2 = some (r1, r2)) ∧ Aside0 (kq ≤ kj2) ∧ Aside0 (Kd.R k25 25 w' w.heap.size (fun _ => True) (.slice Ao13 t404.length co13) t404) ∧ Aside0 (Below w.heap.size w w'))
        case atStart => exact ⟨(0), (by first | rfl | (simp; done) | (simp [*]; done)), H', ⟨Nat.le_refl _⟩, ⟨by (with_reducible repeat (first | apply Kd.R_alloc | apply Kd.R_drewN | apply Kd.R_drew)); exact HO406.out⟩, ⟨by repeat (first | (with_reducible first | exact HB.out | apply below_alloc | apply pw_below_drewN | apply below_drew1) | exact HB.out)⟩⟩
        case round =>
          clear H'
          try clear c1
          try clear p2
          try clear c3
          try clear c5
          try clear c6
          try clear c7
          try clear c10
          try clear p2
          obtain ⟨x22_2, rfl, HA, HK2, HO_20, HB⟩ := hrel
          cases gk with
          | zero => exact absurd HA.out (by simp [spec_IsStronger.l0])
          | succ k2 =>
            have H := HA.out
            clear HA
            simp only [spec_IsStronger.l0] at H
            by_cases c14 : x22_2 < (t404.length : Int)
            · rw [if_pos c14] at H
              have c14b0 : decide (x22_2 < (t404.length : Int)) = true := decide_eq_true c14
              clear c14
              by_cases c15 : 0 ≤ x22_2
              · rw [if_pos c15] at H
                have c15b0 : decide (0 ≤ x22_2) = true := decide_eq_true c15
                clear c15
                by_cases c16 : x22_2 < (t404.length : Int)
                · rw [if_pos c16] at H
                  have c16b0 : decide (x22_2 < (t404.length : Int)) = true := decide_eq_true c16
                  clear c16
                  replace H := Option.bind_eq_some_iff.mp H
                  obtain ⟨t409, A170, H⟩ := H
                  replace H : (if t409 < 0 then (spec_IsStronger.l0 k2 l0 l1 t404 (t404.length : Int) (wrap64 (x22_2 + 1))) else ((spec_tbFor.f k2 l0 ((rd_T25 t404 x22_2).f0) ((rd_T25 t404 x22_2).f1) ((rd_T25 t404 x22_2).f2)).bind fun t410 => (if t410 < 0 then (some (false, true)) else (if 0 ≤ t409 then (if t409 < (l1.length : Int) then (spec_IsStronger.l1 k2 l0 l1 t410 t404 (t404.length : Int) x22_2 ((rd_T64 l1 t409).f6) (((rd_T64 l1 t409).f6).length : Int) 0) else (none)) else (none))))) = some (r1, r2) := H
                  have A17 := Aside0.mk A170
                  clear A170
                  by_cases c18 : t409 < 0
                  · rw [if_pos c18] at H
                    have c18b0 : decide (t409 < 0) = true := decide_eq_true c18
                    clear c18
                    have H' := Aside0.mk H
                    clear H
                    have p407 : 0 ≤ (x22_2 : Int) := of_decide_eq_true (by first | (with_reducible assumption) | assumption)
                    have q407 : x22_2 < (t404.length : Int) := of_decide_eq_true (by first | (with_reducible assumption) | assumption)
                    obtain ⟨ad407, e407, hx407_0, hx407_1, hx407_2⟩ := at_T25 (Kd.R_reads' HO_20.out).2.2 x22_2 p407 q407
                    cases e407
                    replace p407 := eq_true p407
                    replace q407 := eq_true q407
                    go_wp2_with (first | ((with_reducible refine gate_dst (N := 7) rfl ?_); refine box_event ?hg (N := 7) ?hd (cs := #[.int .i64 0, .int .i64 0, .int .i64 0]) (t := 25) ?hr ?_; (case hd => rfl); (case hg => rfl); (case hr => first | (go_simp; done) | (go_simp; rfl)); intro gb408 hg w19 hbox hb; have n0_ := Aside0.mk (Kd.R_below (Kd.R_elderB (by (with_reducible repeat (first | apply Kd.R_alloc | apply Kd.R_drewN | apply Kd.R_drew)); exact HO_20.out) gb408 (Nat.le_of_eq hg.symm)) hb); have n1_ := Aside0.mk (below_step (by repeat (first | (with_reducible first | exact HB.out | apply below_alloc | apply pw_below_drewN | apply below_drew1) | exact HB.out)) hb); have n2_ := Aside0.mk (hbox); have n3_ := Aside0.mk ((by rw [hg]; exact (below_size (by repeat (first | (with_reducible first | exact HB.out | apply below_alloc | apply pw_below_drewN | apply below_drew1) | exact HB.out))) : w.heap.size ≤ gb408)); have n4_ := Aside0.mk ((by rw [hg]; exact (below_size (by repeat (first | (with_reducible first | exact HB.out | apply below_alloc | apply pw_below_drewN | apply below_drew1) | exact HB.out))) : w.heap.size ≤ gb408)); clear HO_20; clear HB; have HO_20 := n0_; have HB := n1_; have BK408 := n2_; have GW408 := n3_; have GE408 := n4_; clear n0_ n1_ n2_ n3_ n4_; clear hb hbox hg; have hcz20_0 : w19.cell? ⟨gb408, 0, none⟩ = some (.int .i64 0) := (blk_cell BK408.out 0).trans rfl; have hcz20_1 : w19.cell? ⟨gb408, 1, none⟩ = some (.int .i64 0) := (blk_cell BK408.out 1).trans rfl; have hcz20_2 : w19.cell? ⟨gb408, 2, none⟩ = some (.int .i64 0) := (blk_cell BK408.out 2).trans rfl; have hfz20_0 := blk_frozen BK408.out 0; have hfz20_1 := blk_frozen BK408.out 1; have hfz20_2 := blk_frozen BK408.out 2) | ((with_reducible refine gate_callee (f := 64) rfl ?_); refine goesL_ (some 28) rfl rfl Try.func64 (by kernel_rfl) rfl #[.slice A1 l1.length c1, .agg #[.int .i64 ((rd_T25 t404 x22_2).f0), .int .i64 ((rd_T25 t404 x22_2).f1), .int .i64 ((rd_T25 t404 x22_2).f2)]] rfl (by (try simp only [List.map_toArray, List.map_cons, List.map_nil]); first | done | rfl | (simp only [List.length_drop, List.length_take]; rfl)) ?_; (with_reducible refine (spec_tbFor.calls k2 _ _ l1 ((rd_T25 t404 x22_2).f0) ((rd_T25 t404 x22_2).f1) ((rd_T25 t404 x22_2).f2) t409 _ ?side1 ?side2 A17.out).mono ?_); (case side1 => exact Kd.C_below HR1.out (by repeat (first | (with_reducible first | exact HB.out | apply below_alloc | apply pw_below_drewN | apply below_drew1 | refine below_set ?_ GE408.out) | exact HB.out))); (case side2 => exact HC1.out); rintro e w21 ⟨rfl, hb⟩; refine ⟨_, rfl, ?_⟩; have n0_ := Aside0.mk (Kd.R_below (by (with_reducible repeat (first | apply Kd.R_alloc | apply Kd.R_drewN | apply Kd.R_drew)); exact (Kd.R_mono (Kd.R_far (p := ⟨gb408, 2, none⟩) (Kd.R_far (p := ⟨gb408, 1, none⟩) (Kd.R_far (p := ⟨gb408, 0, none⟩) (Kd.R_mono HO_20.out (fun k_ hk => (⟨hk, hk.2⟩ : _ ∧ k_ ≠ gb408))) (fun _ hk => hk.2) (.int .i64 ((rd_T25 t404 x22_2).f0))) (fun _ hk => hk.2) (.int .i64 ((rd_T25 t404 x22_2).f1))) (fun _ hk => hk.2) (.int .i64 ((rd_T25 t404 x22_2).f2))) (fun _ h_ => h_.1))) hb); have n1_ := Aside0.mk (blk_below (g := gb408) (o := .cells #[.int .i64 ((rd_T25 t404 x22_2).f0), .int .i64 ((rd_T25 t404 x22_2).f1), .int .i64 ((rd_T25 t404 x22_2).f2)] 25 (0, 0)) (by (with_reducible repeat (first | refine blk_drewN ?_ _ | refine blk_drew ?_ | refine blk_alloc ?_ _)); refine blk_put (cs := #[.int .i64 ((rd_T25 t404 x22_2).f0), .int .i64 ((rd_T25 t404 x22_2).f1), .int .i64 0]) ?_ 2 _ rfl; (with_reducible repeat (first | refine blk_drewN ?_ _ | refine blk_drew ?_ | refine blk_alloc ?_ _)); refine blk_put (cs := #[.int .i64 ((rd_T25 t404 x22_2).f0), .int .i64 0, .int .i64 0]) ?_ 1 _ rfl; (with_reducible repeat (first | refine blk_drewN ?_ _ | refine blk_drew ?_ | refine blk_alloc ?_ _)); refine blk_put (cs := #[.int .i64 0, .int .i64 0, .int .i64 0]) ?_ 0 _ rfl; (with_reducible repeat (first | refine blk_drewN ?_ _ | refine blk_drew ?_ | refine blk_alloc ?_ _)); exact BK408.out) hb); have n2_ := Aside0.mk (below_step (by repeat (first | (with_reducible first | exact HB.out | apply below_alloc | apply pw_below_drewN | apply below_drew1 | refine below_set ?_ GE408.out) | exact HB.out)) hb); clear HO_20; clear BK408; clear HB; have HO_20 := n0_; have BK408 := n1_; have HB := n2_; clear n0_ n1_ n2_; (try clear hb); (try clear hb2); (try clear hk); (try clear hi)))
                    go_roundg k2
                    case measure => have := HJ2.out; have := HK2.out; omega
                    case rel => exact ⟨(wrap64 (x22_2 + 1)), (by first | rfl | (simp; done) | (simp [*]; done)), H', ⟨by have := HJ2.out; have := HK2.out; omega⟩, ⟨by (with_reducible repeat (first | apply Kd.R_alloc | apply Kd.R_drewN | apply Kd.R_drew)); exact Kd.R_mono HO_20.out (fun _ hk => trivial)⟩, ⟨by repeat (first | (with_reducible first | exact HB.out | apply below_alloc | apply pw_below_drewN | apply below_drew1 | refine below_set ?_ GE408.out) | exact HB.out)⟩⟩
                  · rw [if_neg c18] at H
                    have c18b0 : decide (t409 < 0) = false := decide_eq_false c18
                    clear c18
                    replace H := Option.bind_eq_some_iff.mp H
                    obtain ⟨t410, A220, H⟩ := H
                    replace H : (if t410 < 0 then (some (false, true)) else (if 0 ≤ t409 then (if t409 < (l1.length : Int) then (spec_IsStronger.l1 k2 l0 l1 t410 t404 (t404.length : Int) x22_2 ((rd_T64 l1 t409).f6) (((rd_T64 l1 t409).f6).length : Int) 0) else (none)) else (none))) = some (r1, r2) := H
                    have A22 := Aside0.mk A220
                    clear A220
                    by_cases c23 : t410 < 0
                    · rw [if_pos c23] at H
                      have c23b0 : decide (t410 < 0) = true := decide_eq_true c23
                      clear c23
                      simp only [Option.some.injEq, Prod.mk.injEq] at H
                      obtain ⟨rfl, rfl⟩ := H
                      have p407 : 0 ≤ (x22_2 : Int) := of_decide_eq_true (by first | (with_reducible assumption) | assumption)
                      have q407 : x22_2 < (t404.length : Int) := of_decide_eq_true (by first | (with_reducible assumption) | assumption)
                      obtain ⟨ad407, e407, hx407_0, hx407_1, hx407_2⟩ := at_T25 (Kd.R_reads' HO_20.out).2.2 x22_2 p407 q407
                      cases e407
                      replace p407 := eq_true p407
                      replace q407 := eq_true q407
                      go_wp2_with (first | ((with_reducible refine gate_dst (N := 7) rfl ?_); refine box_event ?hg (N := 7) ?hd (cs := #[.int .i64 0, .int .i64 0, .int .i64 0]) (t := 25) ?hr ?_; (case hd => rfl); (case hg => rfl); (case hr => first | (go_simp; done) | (go_simp; rfl)); intro gb408 hg w24 hbox hb; have n0_ := Aside0.mk (Kd.R_below (Kd.R_elderB (by (with_reducible repeat (first | apply Kd.R_alloc | apply Kd.R_drewN | apply Kd.R_drew)); exact HO_20.out) gb408 (Nat.le_of_eq hg.symm)) hb); have n1_ := Aside0.mk (below_step (by repeat (first | (with_reducible first | exact HB.out | apply below_alloc | apply pw_below_drewN | apply below_drew1) | exact HB.out)) hb); have n2_ := Aside0.mk (hbox); have n3_ := Aside0.mk ((by rw [hg]; exact (below_size (by repeat (first | (with_reducible first | exact HB.out | apply below_alloc | apply pw_below_drewN | apply below_drew1) | exact HB.out))) : w.heap.size ≤ gb408)); have n4_ := Aside0.mk ((by rw [hg]; exact (below_size (by repeat (first | (with_reducible first | exact HB.out | apply below_alloc | apply pw_below_drewN | apply below_drew1) | exact HB.out))) : w.heap.size ≤ gb408)); clear HO_20; clear HB; have HO_20 := n0_; have HB := n1_; have BK408 := n2_; have GW408 := n3_; have GE408 := n4_; clear n0_ n1_ n2_ n3_ n4_; clear hb hbox hg; have hcz25_0 : w24.cell? ⟨gb408, 0, none⟩ = some (.int .i64 0) := (blk_cell BK408.out 0).trans rfl; have hcz25_1 : w24.cell? ⟨gb408, 1, none⟩ = some (.int .i64 0) := (blk_cell BK408.out 1).trans rfl; have hcz25_2 : w24.cell? ⟨gb408, 2, none⟩ = some (.int .i64 0) := (blk_cell BK408.out 2).trans rfl; have hfz25_0 := blk_frozen BK408.out 0; have hfz25_1 := blk_frozen BK408.out 1; have hfz25_2 := blk_frozen BK408.out 2) | ((with_reducible refine gate_callee (f := 64) rfl ?_); refine goesL_ (some 28) rfl rfl Try.func64 (by kernel_rfl) rfl #[.slice A1 l1.length c1, .agg #[.int .i64 ((rd_T25 t404 x22_2).f0), .int .i64 ((rd_T25 t404 x22_2).f1), .int .i64 ((rd_T25 t404 x22_2).f2)]] rfl (by (try simp only [List.map_toArray, List.map_cons, List.map_nil]); first | done | rfl | (simp only [List.length_drop, List.length_take]; rfl)) ?_; (with_reducible refine (spec_tbFor.calls k2 _ _ l1 ((rd_T25 t404 x22_2).f0) ((rd_T25 t404 x22_2).f1) ((rd_T25 t404 x22_2).f2) t409 _ ?side1 ?side2 A17.out).mono ?_); (case side1 => exact Kd.C_below HR1.out (by repeat (first | (with_reducible first | exact HB.out | apply below_alloc | apply pw_below_drewN | apply below_drew1 | refine below_set ?_ GE408.out) | exact HB.out))); (case side2 => exact HC1.out); rintro e w26 ⟨rfl, hb⟩; refine ⟨_, rfl, ?_⟩; have n0_ := Aside0.mk (Kd.R_below (by (with_reducible repeat (first | apply Kd.R_alloc | apply Kd.R_drewN | apply Kd.R_drew)); exact (Kd.R_mono (Kd.R_far (p := ⟨gb408, 2, none⟩) (Kd.R_far (p := ⟨gb408, 1, none⟩) (Kd.R_far (p := ⟨gb408, 0, none⟩) (Kd.R_mono HO_20.out (fun k_ hk => (⟨hk, hk.2⟩ : _ ∧ k_ ≠ gb408))) (fun _ hk => hk.2) (.int .i64 ((rd_T25 t404 x22_2).f0))) (fun _ hk => hk.2) (.int .i64 ((rd_T25 t404 x22_2).f1))) (fun _ hk => hk.2) (.int .i64 ((rd_T25 t404 x22_2).f2))) (fun _ h_ => h_.1))) hb); have n1_ := Aside0.mk (blk_below (g := gb408) (o := .cells #[.int .i64 ((rd_T25 t404 x22_2).f0), .int .i64 ((rd_T25 t404 x22_2).f1), .int .i64 ((rd_T25 t404 x22_2).f2)] 25 (0, 0)) (by (with_reducible repeat (first | refine blk_drewN ?_ _ | refine blk_drew ?_ | refine blk_alloc ?_ _)); refine blk_put (cs := #[.int .i64 ((rd_T25 t404 x22_2).f0), .int .i64 ((rd_T25 t404 x22_2).f1), .int .i64 0]) ?_ 2 _ rfl; (with_reducible repeat (first | refine blk_drewN ?_ _ | refine blk_drew ?_ | refine blk_alloc ?_ _)); refine blk_put (cs := #[.int .i64 ((rd_T25 t404 x22_2).f0), .int .i64 0, .int .i64 0]) ?_ 1 _ rfl; (with_reducible repeat (first | refine blk_drewN ?_ _ | refine blk_drew ?_ | refine blk_alloc ?_ _)); refine blk_put (cs := #[.int .i64 0, .int .i64 0, .int .i64 0]) ?_ 0 _ rfl; (with_reducible repeat (first | refine blk_drewN ?_ _ | refine blk_drew ?_ | refine blk_alloc ?_ _)); exact BK408.out) hb); have n2_ := Aside0.mk (below_step (by repeat (first | (with_reducible first | exact HB.out | apply below_alloc | apply pw_below_drewN | apply below_drew1 | refine below_set ?_ GE408.out) | exact HB.out)) hb); clear HO_20; clear BK408; clear HB; have HO_20 := n0_; have BK408 := n1_; have HB := n2_; clear n0_ n1_ n2_; (try clear hb); (try clear hb2); (try clear hk); (try clear hi); have hcz27_0 : w26.cell? ⟨gb408, 0, none⟩ = some (.int .i64 ((rd_T25 t404 x22_2).f0)) := (blk_cell BK408.out 0).trans rfl; have hcz27_1 : w26.cell? ⟨gb408, 1, none⟩ = some (.int .i64 ((rd_T25 t404 x22_2).f1)) := (blk_cell BK408.out 1).trans rfl; have hcz27_2 : w26.cell? ⟨gb408, 2, none⟩ = some (.int .i64 ((rd_T25 t404 x22_2).f2)) := (blk_cell BK408.out 2).trans rfl; have hfz27_0 := blk_frozen BK408.out 0; have hfz27_1 := blk_frozen BK408.out 1; have hfz27_2 := blk_frozen BK408.out 2) | ((with_reducible refine gate_callee (f := 64) rfl ?_); refine goesL_ (some 33) rfl rfl Try.func64 (by kernel_rfl) rfl #[.slice A0 l0.length c0, .agg #[.int .i64 ((rd_T25 t404 x22_2).f0), .int .i64 ((rd_T25 t404 x22_2).f1), .int .i64 ((rd_T25 t404 x22_2).f2)]] rfl (by (try simp only [List.map_toArray, List.map_cons, List.map_nil]); first | done | rfl | (simp only [List.length_drop, List.length_take]; rfl)) ?_; (with_reducible refine (spec_tbFor.calls k2 _ _ l0 ((rd_T25 t404 x22_2).f0) ((rd_T25 t404 x22_2).f1) ((rd_T25 t404 x22_2).f2) t410 _ ?side1 ?side2 A22.out).mono ?_); (case side1 => repeat (first | exact (Kd.C_below HR0.out HB.out) | (with_reducible refine Kd.C_alloc ?_ _) | (with_reducible refine Kd.C_drewN ?_ _) | (with_reducible refine Kd.C_drew ?_))); (case side2 => exact HC0.out); rintro e w28 ⟨rfl, hb⟩; refine ⟨_, rfl, ?_⟩; have n0_ := Aside0.mk (Kd.R_below (by (with_reducible repeat (first | apply Kd.R_alloc | apply Kd.R_drewN | apply Kd.R_drew)); exact HO_20.out) hb); have n1_ := Aside0.mk (blk_below (g := gb408) (o := .cells #[.int .i64 ((rd_T25 t404 x22_2).f0), .int .i64 ((rd_T25 t404 x22_2).f1), .int .i64 ((rd_T25 t404 x22_2).f2)] 25 (0, 0)) (by (with_reducible repeat (first | refine blk_drewN ?_ _ | refine blk_drew ?_ | refine blk_alloc ?_ _)); exact BK408.out) hb); have n2_ := Aside0.mk (below_step (by repeat (first | (with_reducible first | exact HB.out | apply below_alloc | apply pw_below_drewN | apply below_drew1 | refine below_set ?_ GE408.out) | exact HB.out)) hb); clear HO_20; clear BK408; clear HB; have HO_20 := n0_; have BK408 := n1_; have HB := n2_; clear n0_ n1_ n2_; (try clear hb); (try clear hb2); (try clear hk); (try clear hi)))
                      go_ret2
                      exact ⟨by first | rfl | (simp [errW_none, errW_some] <;> rfl) | (simp [*, errW_none, errW_some] <;> rfl), by repeat (first | (with_reducible first | exact HB.out | apply below_alloc | apply pw_below_drewN | apply below_drew1 | refine below_set ?_ GE408.out) | exact HB.out)⟩
                    · rw [if_neg c23] at H
                      have c23b0 : decide (t410 < 0) = false := decide_eq_false c23
                      clear c23
                      by_cases c29 : 0 ≤ t409
                      · rw [if_pos c29] at H
                        have c29b0 : decide (0 ≤ t409) = true := decide_eq_true c29
                        clear c29
                        by_cases c30 : t409 < (l1.length : Int)
                        · rw [if_pos c30] at H
                          have c30b0 : decide (t409 < (l1.length : Int)) = true := decide_eq_true c30
                          clear c30
                          have H' := Aside0.mk H
                          clear H
                          have p407 : 0 ≤ (x22_2 : Int) := of_decide_eq_true (by first | (with_reducible assumption) | assumption)
                          have q407 : x22_2 < (t404.length : Int) := of_decide_eq_true (by first | (with_reducible assumption) | assumption)
                          obtain ⟨ad407, e407, hx407_0, hx407_1, hx407_2⟩ := at_T25 (Kd.R_reads' HO_20.out).2.2 x22_2 p407 q407
                          cases e407
                          replace p407 := eq_true p407
                          replace q407 := eq_true q407
                          go_wp2_with (first | ((with_reducible refine gate_dst (N := 7) rfl ?_); refine box_event ?hg (N := 7) ?hd (cs := #[.int .i64 0, .int .i64 0, .int .i64 0]) (t := 25) ?hr ?_; (case hd => rfl); (case hg => rfl); (case hr => first | (go_simp; done) | (go_simp; rfl)); intro gb408 hg w31 hbox hb; have n0_ := Aside0.mk (Kd.R_below (Kd.R_elderB (by (with_reducible repeat (first | apply Kd.R_alloc | apply Kd.R_drewN | apply Kd.R_drew)); exact HO_20.out) gb408 (Nat.le_of_eq hg.symm)) hb); have n1_ := Aside0.mk (below_step (by repeat (first | (with_reducible first | exact HB.out | apply below_alloc | apply pw_below_drewN | apply below_drew1) | exact HB.out)) hb); have n2_ := Aside0.mk (hbox); have n3_ := Aside0.mk ((by rw [hg]; exact (below_size (by repeat (first | (with_reducible first | exact HB.out | apply below_alloc | apply pw_below_drewN | apply below_drew1) | exact HB.out))) : w.heap.size ≤ gb408)); have n4_ := Aside0.mk ((by rw [hg]; exact (below_size (by repeat (first | (with_reducible first | exact HB.out | apply below_alloc | apply pw_below_drewN | apply below_drew1) | exact HB.out))) : w.heap.size ≤ gb408)); clear HO_20; clear HB; have HO_20 := n0_; have HB := n1_; have BK408 := n2_; have GW408 := n3_; have GE408 := n4_; clear n0_ n1_ n2_ n3_ n4_; clear hb hbox hg; have hcz32_0 : w31.cell? ⟨gb408, 0, none⟩ = some (.int .i64 0) := (blk_cell BK408.out 0).trans rfl; have hcz32_1 : w31.cell? ⟨gb408, 1, none⟩ = some (.int .i64 0) := (blk_cell BK408.out 1).trans rfl; have hcz32_2 : w31.cell? ⟨gb408, 2, none⟩ = some (.int .i64 0) := (blk_cell BK408.out 2).trans rfl; have hfz32_0 := blk_frozen BK408.out 0; have hfz32_1 := blk_frozen BK408.out 1; have hfz32_2 := blk_frozen BK408.out 2) | ((with_reducible refine gate_callee (f := 64) rfl ?_); refine goesL_ (some 28) rfl rfl Try.func64 (by kernel_rfl) rfl #[.slice A1 l1.length c1, .agg #[.int .i64 ((rd_T25 t404 x22_2).f0), .int .i64 ((rd_T25 t404 x22_2).f1), .int .i64 ((rd_T25 t404 x22_2).f2)]] rfl (by (try simp only [List.map_toArray, List.map_cons, List.map_nil]); first | done | rfl | (simp only [List.length_drop, List.length_take]; rfl)) ?_; (with_reducible refine (spec_tbFor.calls k2 _ _ l1 ((rd_T25 t404 x22_2).f0) ((rd_T25 t404 x22_2).f1) ((rd_T25 t404 x22_2).f2) t409 _ ?side1 ?side2 A17.out).mono ?_); (case side1 => exact Kd.C_below HR1.out (by repeat (first | (with_reducible first | exact HB.out | apply below_alloc | apply pw_below_drewN | apply below_drew1 | refine below_set ?_ GE408.out) | exact HB.out))); (case side2 => exact HC1.out); rintro e w33 ⟨rfl, hb⟩; refine ⟨_, rfl, ?_⟩; have n0_ := Aside0.mk (Kd.R_below (by (with_reducible repeat (first | apply Kd.R_alloc | apply Kd.R_drewN | apply Kd.R_drew)); exact (Kd.R_mono (Kd.R_far (p := ⟨gb408, 2, none⟩) (Kd.R_far (p := ⟨gb408, 1, none⟩) (Kd.R_far (p := ⟨gb408, 0, none⟩) (Kd.R_mono HO_20.out (fun k_ hk => (⟨hk, hk.2⟩ : _ ∧ k_ ≠ gb408))) (fun _ hk => hk.2) (.int .i64 ((rd_T25 t404 x22_2).f0))) (fun _ hk => hk.2) (.int .i64 ((rd_T25 t404 x22_2).f1))) (fun _ hk => hk.2) (.int .i64 ((rd_T25 t404 x22_2).f2))) (fun _ h_ => h_.1))) hb); have n1_ := Aside0.mk (blk_below (g := gb408) (o := .cells #[.int .i64 ((rd_T25 t404 x22_2).f0), .int .i64 ((rd_T25 t404 x22_2).f1), .int .i64 ((rd_T25 t404 x22_2).f2)] 25 (0, 0)) (by (with_reducible repeat (first | refine blk_drewN ?_ _ | refine blk_drew ?_ | refine blk_alloc ?_ _)); refine blk_put (cs := #[.int .i64 ((rd_T25 t404 x22_2).f0), .int .i64 ((rd_T25 t404 x22_2).f1), .int .i64 0]) ?_ 2 _ rfl; (with_reducible repeat (first | refine blk_drewN ?_ _ | refine blk_drew ?_ | refine blk_alloc ?_ _)); refine blk_put (cs := #[.int .i64 ((rd_T25 t404 x22_2).f0), .int .i64 0, .int .i64 0]) ?_ 1 _ rfl; (with_reducible repeat (first | refine blk_drewN ?_ _ | refine blk_drew ?_ | refine blk_alloc ?_ _)); refine blk_put (cs := #[.int .i64 0, .int .i64 0, .int .i64 0]) ?_ 0 _ rfl; (with_reducible repeat (first | refine blk_drewN ?_ _ | refine blk_drew ?_ | refine blk_alloc ?_ _)); exact BK408.out) hb); have n2_ := Aside0.mk (below_step (by repeat (first | (with_reducible first | exact HB.out | apply below_alloc | apply pw_below_drewN | apply below_drew1 | refine below_set ?_ GE408.out) | exact HB.out)) hb); clear HO_20; clear BK408; clear HB; have HO_20 := n0_; have BK408 := n1_; have HB := n2_; clear n0_ n1_ n2_; (try clear hb); (try clear hb2); (try clear hk); (try clear hi); have hcz34_0 : w33.cell? ⟨gb408, 0, none⟩ = some (.int .i64 ((rd_T25 t404 x22_2).f0)) := (blk_cell BK408.out 0).trans rfl; have hcz34_1 : w33.cell? ⟨gb408, 1, none⟩ = some (.int .i64 ((rd_T25 t404 x22_2).f1)) := (blk_cell BK408.out 1).trans rfl; have hcz34_2 : w33.cell? ⟨gb408, 2, none⟩ = some (.int .i64 ((rd_T25 t404 x22_2).f2)) := (blk_cell BK408.out 2).trans rfl; have hfz34_0 := blk_frozen BK408.out 0; have hfz34_1 := blk_frozen BK408.out 1; have hfz34_2 := blk_frozen BK408.out 2) | ((with_reducible refine gate_callee (f := 64) rfl ?_); refine goesL_ (some 33) rfl rfl Try.func64 (by kernel_rfl) rfl #[.slice A0 l0.length c0, .agg #[.int .i64 ((rd_T25 t404 x22_2).f0), .int .i64 ((rd_T25 t404 x22_2).f1), .int .i64 ((rd_T25 t404 x22_2).f2)]] rfl (by (try simp only [List.map_toArray, List.map_cons, List.map_nil]); first | done | rfl | (simp only [List.length_drop, List.length_take]; rfl)) ?_; (with_reducible refine (spec_tbFor.calls k2 _ _ l0 ((rd_T25 t404 x22_2).f0) ((rd_T25 t404 x22_2).f1) ((rd_T25 t404 x22_2).f2) t410 _ ?side1 ?side2 A22.out).mono ?_); (case side1 => repeat (first | exact (Kd.C_below HR0.out HB.out) | (with_reducible refine Kd.C_alloc ?_ _) | (with_reducible refine Kd.C_drewN ?_ _) | (with_reducible refine Kd.C_drew ?_))); (case side2 => exact HC0.out); rintro e w35 ⟨rfl, hb⟩; refine ⟨_, rfl, ?_⟩; have n0_ := Aside0.mk (Kd.R_below (by (with_reducible repeat (first | apply Kd.R_alloc | apply Kd.R_drewN | apply Kd.R_drew)); exact HO_20.out) hb); have n1_ := Aside0.mk (blk_below (g := gb408) (o := .cells #[.int .i64 ((rd_T25 t404 x22_2).f0), .int .i64 ((rd_T25 t404 x22_2).f1), .int .i64 ((rd_T25 t404 x22_2).f2)] 25 (0, 0)) (by (with_reducible repeat (first | refine blk_drewN ?_ _ | refine blk_drew ?_ | refine blk_alloc ?_ _)); exact BK408.out) hb); have n2_ := Aside0.mk (below_step (by repeat (first | (with_reducible first | exact HB.out | apply below_alloc | apply pw_below_drewN | apply below_drew1 | refine below_set ?_ GE408.out) | exact HB.out)) hb); clear HO_20; clear BK408; clear HB; have HO_20 := n0_; have BK408 := n1_; have HB := n2_; clear n0_ n1_ n2_; (try clear hb); (try clear hb2); (try clear hk); (try clear hi); have p411 : 0 ≤ (t409 : Int) := of_decide_eq_true (by first | (with_reducible assumption) | assumption); have q411 : t409 < (l1.length : Int) := of_decide_eq_true (by first | (with_reducible assumption) | assumption); obtain ⟨ad411, A411_6, c411_6, e411, hx411_0, hx411_1, hx411_2, hx411_3, hx411_4, hx411_5, hx411_6, hl411_6, hi411_6⟩ := at_T64 HR1.out t409 p411 q411; cases e411; replace hx411_0 := (HB.out.cell (World.block_lt_of_cell? w _ hx411_0)).trans hx411_0; replace hx411_1 := (HB.out.cell (World.block_lt_of_cell? w _ hx411_1)).trans hx411_1; replace hx411_2 := (HB.out.cell (World.block_lt_of_cell? w _ hx411_2)).trans hx411_2; replace hx411_3 := (HB.out.cell (World.block_lt_of_cell? w _ hx411_3)).trans hx411_3; replace hx411_4 := (HB.out.cell (World.block_lt_of_cell? w _ hx411_4)).trans hx411_4; replace hx411_5 := (HB.out.cell (World.block_lt_of_cell? w _ hx411_5)).trans hx411_5; replace hx411_6 := (HB.out.cell (World.block_lt_of_cell? w _ hx411_6)).trans hx411_6; have HR411_6 := Aside0.mk hi411_6; have HC411_6 := Aside0.mk hl411_6; clear hi411_6 hl411_6; replace p411 := eq_true p411; replace q411 := eq_true q411))
                          go_loopg [42] k2 (fun kq v42 w' => ∃ (x42_3 : Int), v42 = .int .i64 x42_3 ∧ Aside0 (spec_IsStronger.l1 kq l0 l1 t410 t404 (t404.length : Int) x22_2 ((rd_T64 l1 t409).f6) (((rd_T64 l1 t409).f6).length : Int) x42_3 = some (r1, r2)) ∧ Aside0 (kq ≤ k2) ∧ Aside0 (Kd.R k25 25 w' w.heap.size (fun k_ => k_ ≠ gb408) (.slice (some ad407) t404.length co13) t404) ∧ Aside0 (w'.heap[gb408]? = some (.cells #[.int .i64 ((rd_T25 t404 x22_2).f0), .int .i64 ((rd_T25 t404 x22_2).f1), .int .i64 ((rd_T25 t404 x22_2).f2)] 25 (0, 0))) ∧ Aside0 (Below w.heap.size w w'))
                          case atStart => exact ⟨(0), (by first | rfl | (simp; done) | (simp [*]; done)), H', ⟨Nat.le_refl _⟩, ⟨by (with_reducible repeat (first | apply Kd.R_alloc | apply Kd.R_drewN | apply Kd.R_drew)); exact Kd.R_mono HO_20.out (fun _ hk => hk.2)⟩, ⟨by (with_reducible repeat (first | refine blk_drewN ?_ _ | refine blk_drew ?_ | refine blk_alloc ?_ _)); exact BK408.out⟩, ⟨by repeat (first | (with_reducible first | exact HB.out | apply below_alloc | apply pw_below_drewN | apply below_drew1 | refine below_set ?_ GE408.out) | exact HB.out)⟩⟩
                          case round =>
                            clear H'
                            try clear c1
                            try clear c2
                            try clear p2
                            try clear c3
                            try clear c4
                            try clear p4
                            try clear q4
                            try clear hx4
                            try clear c5
                            try clear c6
                            try clear p6
                            try clear c7
                            try clear c10
                            try clear c14
                            try clear c14b0
                            try clear c15
                            try clear c15b0
                            try clear c16
                            try clear c16b0
                            try clear c18
                            try clear c18b0
                            try clear c23
                            try clear c23b0
                            try clear c29
                            try clear c29b0
                            try clear c30
                            try clear c30b0
                            try clear hcz20_0
                            try clear hcz20_1
                            try clear hcz20_2
                            try clear hcz25_0
                            try clear hcz25_1
                            try clear hcz25_2
                            try clear hcz27_0
                            try clear hcz27_1
                            try clear hcz27_2
                            try clear hcz32_0
                            try clear hcz32_1
                            try clear hcz32_2
                            try clear hcz34_0
                            try clear hcz34_1
                            try clear hcz34_2
                            try clear hfz20_0
                            try clear hfz20_1
                            try clear hfz20_2
                            try clear hfz25_0
                            try clear hfz25_1
                            try clear hfz25_2
                            try clear hfz27_0
                            try clear hfz27_1
                            try clear hfz27_2
                            try clear hfz32_0
                            try clear hfz32_1
                            try clear hfz32_2
                            try clear hfz34_0
                            try clear hfz34_1
                            try clear hfz34_2
                            try clear hx407_0
                            try clear hx407_1
                            try clear hx407_2
                            try clear hx411_0
                            try clear hx411_1
                            try clear hx411_2
                            try clear hx411_3
                            try clear hx411_4
                            try clear hx411_5
                            try clear hx411_6
                            try clear p2
                            try clear p407
                            try clear p411
                            try clear q407
                            try clear q411
                            obtain ⟨x42_3, rfl, HA, HK3, HO_20, BK408, HB⟩ := hrel
                            cases gk with
                            | zero => exact absurd HA.out (by simp [spec_IsStronger.l1])
                            | succ k3 =>
                              have H := HA.out
                              clear HA
                              simp only [spec_IsStronger.l1] at H
                              by_cases c36 : x42_3 < (((rd_T64 l1 t409).f6).length : Int)
                              · rw [if_pos c36] at H
                                have c36b0 : decide (x42_3 < (((rd_T64 l1 t409).f6).length : Int)) = true := decide_eq_true c36
                                clear c36
                                by_cases c37 : 0 ≤ x42_3
                                · rw [if_pos c37] at H
                                  have c37b0 : decide (0 ≤ x42_3) = true := decide_eq_true c37
                                  clear c37
                                  by_cases c38 : x42_3 < (((rd_T64 l1 t409).f6).length : Int)
                                  · rw [if_pos c38] at H
                                    have c38b0 : decide (x42_3 < (((rd_T64 l1 t409).f6).length : Int)) = true := decide_eq_true c38
                                    clear c38
                                    by_cases c39 : 0 ≤ t410
                                    · rw [if_pos c39] at H
                                      have c39b0 : decide (0 ≤ t410) = true := decide_eq_true c39
                                      clear c39
                                      by_cases c40 : t410 < (l0.length : Int)
                                      · rw [if_pos c40] at H
                                        have c40b0 : decide (t410 < (l0.length : Int)) = true := decide_eq_true c40
                                        clear c40
                                        by_cases c41 : x42_3 < (((rd_T64 l0 t410).f6).length : Int)
                                        · rw [if_pos c41] at H
                                          have c41b0 : decide (x42_3 < (((rd_T64 l0 t410).f6).length : Int)) = true := decide_eq_true c41
                                          clear c41
                                          by_cases c42 : (rd ((rd_T64 l0 t410).f6) x42_3) < (rd ((rd_T64 l1 t409).f6) x42_3)
                                          · rw [if_pos c42] at H
                                            have c42b0 : decide ((rd ((rd_T64 l0 t410).f6) x42_3) < (rd ((rd_T64 l1 t409).f6) x42_3)) = true := decide_eq_true c42
                                            clear c42
                                            simp only [Option.some.injEq, Prod.mk.injEq] at H
                                            obtain ⟨rfl, rfl⟩ := H
                                            have p412 : 0 ≤ (x42_3 : Int) := of_decide_eq_true (by first | (with_reducible assumption) | assumption)
                                            have q412 : x42_3 < (((rd_T64 l1 t409).f6).length : Int) := of_decide_eq_true (by first | (with_reducible assumption) | assumption)
                                            obtain ⟨ad412, e412, hx412_0⟩ := Kd.at_int HR411_6.out x42_3 p412 q412
                                            cases e412
                                            replace hx412_0 := (HB.out.cell (World.block_lt_of_cell? w _ hx412_0)).trans hx412_0
                                            replace p412 := eq_true p412
                                            replace q412 := eq_true q412
                                            have p413 : 0 ≤ (t410 : Int) := of_decide_eq_true (by first | (with_reducible assumption) | assumption)
                                            have q413 : t410 < (l0.length : Int) := of_decide_eq_true (by first | (with_reducible assumption) | assumption)
                                            obtain ⟨ad413, A413_6, c413_6, e413, hx413_0, hx413_1, hx413_2, hx413_3, hx413_4, hx413_5, hx413_6, hl413_6, hi413_6⟩ := at_T64 HR0.out t410 p413 q413
                                            cases e413
                                            replace hx413_0 := (HB.out.cell (World.block_lt_of_cell? w _ hx413_0)).trans hx413_0
                                            replace hx413_1 := (HB.out.cell (World.block_lt_of_cell? w _ hx413_1)).trans hx413_1
                                            replace hx413_2 := (HB.out.cell (World.block_lt_of_cell? w _ hx413_2)).trans hx413_2
                                            replace hx413_3 := (HB.out.cell (World.block_lt_of_cell? w _ hx413_3)).trans hx413_3
                                            replace hx413_4 := (HB.out.cell (World.block_lt_of_cell? w _ hx413_4)).trans hx413_4
                                            replace hx413_5 := (HB.out.cell (World.block_lt_of_cell? w _ hx413_5)).trans hx413_5
                                            replace hx413_6 := (HB.out.cell (World.block_lt_of_cell? w _ hx413_6)).trans hx413_6
                                            have HR413_6 := Aside0.mk hi413_6
                                            have HC413_6 := Aside0.mk hl413_6
                                            clear hi413_6 hl413_6
                                            replace p413 := eq_true p413
                                            replace q413 := eq_true q413
                                            have p414 : 0 ≤ (x42_3 : Int) := of_decide_eq_true (by first | (with_reducible assumption) | assumption)
                                            have q414 : x42_3 < (((rd_T64 l0 t410).f6).length : Int) := of_decide_eq_true (by first | (with_reducible assumption) | assumption)
                                            obtain ⟨ad414, e414, hx414_0⟩ := Kd.at_int HR413_6.out x42_3 p414 q414
                                            cases e414
                                            replace hx414_0 := (HB.out.cell (World.block_lt_of_cell? w _ hx414_0)).trans hx414_0
                                            replace p414 := eq_true p414
                                            replace q414 := eq_true q414
                                            go_wp2
                                            go_ret2
                                            exact ⟨by first | rfl | (simp [errW_none, errW_some] <;> rfl) | (simp [*, errW_none, errW_some] <;> rfl), by repeat (first | (with_reducible first | exact HB.out | apply below_alloc | apply pw_below_drewN | apply below_drew1 | refine below_set ?_ GE408.out) | exact HB.out)⟩
                                          · rw [if_neg c42] at H
                                            have c42b0 : decide ((rd ((rd_T64 l0 t410).f6) x42_3) < (rd ((rd_T64 l1 t409).f6) x42_3)) = false := decide_eq_false c42
                                            clear c42
                                            have H' := Aside0.mk H
                                            clear H
                                            have p412 : 0 ≤ (x42_3 : Int) := of_decide_eq_true (by first | (with_reducible assumption) | assumption)
                                            have q412 : x42_3 < (((rd_T64 l1 t409).f6).length : Int) := of_decide_eq_true (by first | (with_reducible assumption) | assumption)
                                            obtain ⟨ad412, e412, hx412_0⟩ := Kd.at_int HR411_6.out x42_3 p412 q412
                                            cases e412
                                            replace hx412_0 := (HB.out.cell (World.block_lt_of_cell? w _ hx412_0)).trans hx412_0
                                            replace p412 := eq_true p412
                                            replace q412 := eq_true q412
                                            have p413 : 0 ≤ (t410 : Int) := of_decide_eq_true (by first | (with_reducible assumption) | assumption)
                                            have q413 : t410 < (l0.length : Int) := of_decide_eq_true (by first | (with_reducible assumption) | assumption)
                                            obtain ⟨ad413, A413_6, c413_6, e413, hx413_0, hx413_1, hx413_2, hx413_3, hx413_4, hx413_5, hx413_6, hl413_6, hi413_6⟩ := at_T64 HR0.out t410 p413 q413
                                            cases e413
                                            replace hx413_0 := (HB.out.cell (World.block_lt_of_cell? w _ hx413_0)).trans hx413_0
                                            replace hx413_1 := (HB.out.cell (World.block_lt_of_cell? w _ hx413_1)).trans hx413_1
                                            replace hx413_2 := (HB.out.cell (World.block_lt_of_cell? w _ hx413_2)).trans hx413_2
                                            replace hx413_3 := (HB.out.cell (World.block_lt_of_cell? w _ hx413_3)).trans hx413_3
                                            replace hx413_4 := (HB.out.cell (World.block_lt_of_cell? w _ hx413_4)).trans hx413_4
                                            replace hx413_5 := (HB.out.cell (World.block_lt_of_cell? w _ hx413_5)).trans hx413_5
                                            replace hx413_6 := (HB.out.cell (World.block_lt_of_cell? w _ hx413_6)).trans hx413_6
                                            have HR413_6 := Aside0.mk hi413_6
                                            have HC413_6 := Aside0.mk hl413_6
                                            clear hi413_6 hl413_6
                                            replace p413 := eq_true p413
                                            replace q413 := eq_true q413
                                            have p414 : 0 ≤ (x42_3 : Int) := of_decide_eq_true (by first | (with_reducible assumption) | assumption)
                                            have q414 : x42_3 < (((rd_T64 l0 t410).f6).length : Int) := of_decide_eq_true (by first | (with_reducible assumption) | assumption)
                                            obtain ⟨ad414, e414, hx414_0⟩ := Kd.at_int HR413_6.out x42_3 p414 q414
                                            cases e414
                                            replace hx414_0 := (HB.out.cell (World.block_lt_of_cell? w _ hx414_0)).trans hx414_0
                                            replace p414 := eq_true p414
                                            replace q414 := eq_true q414
                                            go_wp2
                                            go_roundg k3
                                            case measure => have := HJ2.out; have := HK2.out; have := HK3.out; omega
                                            case rel => exact ⟨(wrap64 (x42_3 + 1)), (by first | rfl | (simp; done) | (simp [*]; done)), H', ⟨by have := HJ2.out; have := HK2.out; have := HK3.out; omega⟩, ⟨by (with_reducible repeat (first | apply Kd.R_alloc | apply Kd.R_drewN | apply Kd.R_drew)); exact HO_20.out⟩, ⟨by (with_reducible repeat (first | refine blk_drewN ?_ _ | refine blk_drew ?_ | refine blk_alloc ?_ _)); exact BK408.out⟩, ⟨by repeat (first | (with_reducible first | exact HB.out | apply below_alloc | apply pw_below_drewN | apply below_drew1 | refine below_set ?_ GE408.out) | exact HB.out)⟩⟩
                                        · rw [if_neg c41] at H
                                          exact absurd H (by simp)
                                      · rw [if_neg c40] at H
                                        exact absurd H (by simp)
                                    · rw [if_neg c39] at H
                                      exact absurd H (by simp)
                                  · rw [if_neg c38] at H
                                    exact absurd H (by simp)
                                · rw [if_neg c37] at H
                                  exact absurd H (by simp)
                              · rw [if_neg c36] at H
                                have c36b0 : decide (x42_3 < (((rd_T64 l1 t409).f6).length : Int)) = false := decide_eq_false c36
                                clear c36
                                have H' := Aside0.mk H
                                clear H
                                go_wp2
                                go_roundg k3
                                case measure => have := HJ2.out; have := HK2.out; have := HK3.out; omega
                                case rel => exact ⟨(wrap64 (x22_2 + 1)), (by first | rfl | (simp; done) | (simp [*]; done)), H', ⟨by have := HJ2.out; have := HK2.out; have := HK3.out; omega⟩, ⟨by (with_reducible repeat (first | apply Kd.R_alloc | apply Kd.R_drewN | apply Kd.R_drew)); exact Kd.R_mono HO_20.out (fun _ hk => trivial)⟩, ⟨by repeat (first | (with_reducible first | exact HB.out | apply below_alloc | apply pw_below_drewN | apply below_drew1 | refine below_set ?_ GE408.out) | exact HB.out)⟩⟩
                        · rw [if_neg c30] at H
                          exact absurd H (by simp)
                      · rw [if_neg c29] at H
                        exact absurd H (by simp)
                · rw [if_neg c16] at H
                  exact absurd H (by simp)
              · rw [if_neg c15] at H
                exact absurd H (by simp)
            · rw [if_neg c14] at H
              have c14b0 : decide (x22_2 < (t404.length : Int)) = false := decide_eq_false c14
              clear c14
              simp only [Option.some.injEq, Prod.mk.injEq] at H
              obtain ⟨rfl, rfl⟩ := H
              go_wp2
              go_ret2
              exact ⟨by first | rfl | (simp [errW_none, errW_some] <;> rfl) | (simp [*, errW_none, errW_some] <;> rfl), by repeat (first | (with_reducible first | exact HB.out | apply below_alloc | apply pw_below_drewN | apply below_drew1) | exact HB.out)⟩

end Go.Proofs.Ytlfhedmmlfpekaa.P
