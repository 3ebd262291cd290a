/- Written by a program of this session (wip/p2) out of the translation: plain Lean functions, and that the calls of the Go functions come to what these say. Conditions: as each contract states. -/
import Derived.Test.YtenfngleiohbhaaPx0
import Derived.Test.YtenfngleiohbhaaPx10
import Derived.Test.YtenfngleiohbhaaPx11
import Derived.Test.YtenfngleiohbhaaPx12
import Derived.Test.YtenfngleiohbhaaPx14
import Derived.Test.YtenfngleiohbhaaPx15
namespace Go.Proofs.Ytenfngleiohbhaa.P
open Go.RowKit Go.Proofs.YtenfngleiohbhaaW.PrintWords Go.Proofs.YtenfngleiohbhaaW.PrintLast Go.Proofs.YtenfngleiohbhaaW.PrintMore
attribute [local go_sem] max2_int min2_int max_two min_two max_three min_three max_four min_four   -- for this text's walks alone
set_option linter.unusedVariables false
set_option linter.unusedSimpArgs false

/-! ### impl_isHoseLine: function 52 -/
mutual
def impl_isHoseLine.l0 : Nat → List (S45) → List Bool → List (S45) → Int → Int → Option (Bool)
  | 0, _, _, _, _, _ => none
  | k + 1, x0, x3, x15, x16, x17 => if x17 < x16 then (if 0 ≤ x17 then (if x17 < (x15.length : Int) then ((impl_isLinePart.f k ((rd_T45 x15 x17).f0) ((rd_T45 x15 x17).f1.f0) ((rd_T45 x15 x17).f1.f1) ((rd_T45 x15 x17).f2) ((rd_T45 x15 x17).f3) ((rd_T45 x15 x17).f4)).bind fun t197 => (if t197 = true then ((impl_inside.f ((rd_T45 x15 x17).f0) (-1) (wrap64 (x17 - 1))).bind fun t198 => (if t198 = true then (if ((rd_T45 x15 x17).f0) ≥ 0 then (if 0 ≤ ((rd_T45 x15 x17).f0) then (if ((rd_T45 x15 x17).f0) < (x0.length : Int) then (impl_isHoseLine.j1 k x0 x3 x15 x16 x17 (decide (((rd_T45 x0 ((rd_T45 x15 x17).f0)).f3) > 0)) ((rd_T45 x15 x17).f0) ((rd_T45 x15 x17).f1.f0) ((rd_T45 x15 x17).f1.f1) ((rd_T45 x15 x17).f2) ((rd_T45 x15 x17).f3) ((rd_T45 x15 x17).f4)) else (none)) else (none)) else (impl_isHoseLine.j1 k x0 x3 x15 x16 x17 false ((rd_T45 x15 x17).f0) ((rd_T45 x15 x17).f1.f0) ((rd_T45 x15 x17).f1.f1) ((rd_T45 x15 x17).f2) ((rd_T45 x15 x17).f3) ((rd_T45 x15 x17).f4))) else (impl_isHoseLine.j1 k x0 x3 x15 x16 x17 true ((rd_T45 x15 x17).f0) ((rd_T45 x15 x17).f1.f0) ((rd_T45 x15 x17).f1.f1) ((rd_T45 x15 x17).f2) ((rd_T45 x15 x17).f3) ((rd_T45 x15 x17).f4)))) else (impl_isHoseLine.j1 k x0 x3 x15 x16 x17 true ((rd_T45 x15 x17).f0) ((rd_T45 x15 x17).f1.f0) ((rd_T45 x15 x17).f1.f1) ((rd_T45 x15 x17).f2) ((rd_T45 x15 x17).f3) ((rd_T45 x15 x17).f4)))) else (none)) else (none)) else (impl_isHoseLine.l1 k x0 x3 x0 (x0.length : Int) 0)
def impl_isHoseLine.j1 : Nat → List (S45) → List Bool → List (S45) → Int → Int → Bool → Int → Int → Int → Int → Int → Int → Option (Bool)
  | 0, _, _, _, _, _, _, _, _, _, _, _, _ => none
  | k + 1, x0, x3, x15, x16, x17, x46, x197000, x197001, x197002, x197003, x197004, x197005 => if x46 = true then (some false) else (if x197000 ≥ 0 then (if 0 ≤ x197000 then (if x197000 < (x3.length : Int) then (impl_isHoseLine.l0 k x0 (x3.set (x197000 : Int).toNat true) x15 x16 (wrap64 (x17 + 1))) else (none)) else (none)) else (impl_isHoseLine.l0 k x0 x3 x15 x16 (wrap64 (x17 + 1))))
def impl_isHoseLine.l1 : Nat → List (S45) → List Bool → List (S45) → Int → Int → Option (Bool)
  | 0, _, _, _, _, _ => none
  | k + 1, x0, x3, x55, x56, x57 => if x57 < x56 then (if 0 ≤ x57 then (if x57 < (x55.length : Int) then (if ((rd_T45 x55 x57).f3) = 0 then (if x57 < (x3.length : Int) then (if rdOf false x3 x57 = true then (impl_isHoseLine.l1 k x0 x3 x55 x56 (wrap64 (x57 + 1))) else (some false)) else (none)) else (impl_isHoseLine.l1 k x0 x3 x55 x56 (wrap64 (x57 + 1)))) else (none)) else (none)) else ((impl_flowsIn.f k x0).bind fun t204 => ((slices_Max_int_int.f k t204).bind fun t207 => (if t207 ≤ 3000 then ((impl_waterOf.f k x0).bind fun t208 => (some (decide (t208 ≤ 3000)))) else (some false))))
end
def impl_isHoseLine.f (k : Nat) (l0 : List (S45)) : Option (Bool) := (impl_inside.f (l0.length : Int) 1 12).bind fun t191 => (if t191 = true then (if 0 ≤ (l0.length : Int) then (if ((l0.length : Int) : Int).toNat ≤ 281474976710656 then (impl_isHoseLine.l0 k l0 (List.replicate ((l0.length : Int) : Int).toNat false) l0 (l0.length : Int) 0) else (none)) else (none)) else (some false))
theorem impl_isHoseLine.mono_l : ∀ k, (∀ y0 y1 y2 y3 y4, LeO (impl_isHoseLine.l0 k y0 y1 y2 y3 y4) (impl_isHoseLine.l0 (k + 1) y0 y1 y2 y3 y4)) ∧ (∀ y0 y1 y2 y3 y4 y5 y6 y7 y8 y9 y10 y11, LeO (impl_isHoseLine.j1 k y0 y1 y2 y3 y4 y5 y6 y7 y8 y9 y10 y11) (impl_isHoseLine.j1 (k + 1) y0 y1 y2 y3 y4 y5 y6 y7 y8 y9 y10 y11)) ∧ (∀ y0 y1 y2 y3 y4, LeO (impl_isHoseLine.l1 k y0 y1 y2 y3 y4) (impl_isHoseLine.l1 (k + 1) y0 y1 y2 y3 y4))
 | 0 => ⟨fun _ _ _ _ _ r h => by simp [impl_isHoseLine.l0] at h, fun _ _ _ _ _ _ _ _ _ _ _ _ r h => by simp [impl_isHoseLine.j1] at h, fun _ _ _ _ _ r h => by simp [impl_isHoseLine.l1] at h⟩
 | k + 1 => by
  obtain ⟨ih0, ih1, ih2⟩ := impl_isHoseLine.mono_l k
  refine ⟨?_, ?_, ?_⟩
  · intro y0 y1 y2 y3 y4
    unfold impl_isHoseLine.l0
    repeat' first
    | (with_reducible exact ih0 _ _ _ _ _)
    | (with_reducible exact ih1 _ _ _ _ _ _ _ _ _ _ _ _)
    | (with_reducible exact ih2 _ _ _ _ _)
    | (with_reducible exact impl_flowsIn.mono _ _)
    | (with_reducible exact impl_isLinePart.mono _ _ _ _ _ _ _)
    | (with_reducible exact impl_waterOf.mono _ _)
    | (with_reducible exact slices_Max_int_int.mono _ _)
    | (with_reducible exact LeO.refl _)
    | (with_reducible exact LeO.none _)
    | (with_reducible refine LeO.ite ?_ ?_)
    | (with_reducible refine LeO.bind ?_ (fun _ => ?_))
    | exact ih0 _ _ _ _ _
    | exact ih1 _ _ _ _ _ _ _ _ _ _ _ _
    | exact ih2 _ _ _ _ _
    | exact impl_flowsIn.mono _ _
    | exact impl_isLinePart.mono _ _ _ _ _ _ _
    | exact impl_waterOf.mono _ _
    | exact slices_Max_int_int.mono _ _
    | exact LeO.none _
    | refine LeO.ite ?_ ?_
    | refine LeO.bind ?_ (fun _ => ?_)
  · intro y0 y1 y2 y3 y4 y5 y6 y7 y8 y9 y10 y11
    unfold impl_isHoseLine.j1
    repeat' first
    | (with_reducible exact ih0 _ _ _ _ _)
    | (with_reducible exact ih1 _ _ _ _ _ _ _ _ _ _ _ _)
    | (with_reducible exact ih2 _ _ _ _ _)
    | (with_reducible exact impl_flowsIn.mono _ _)
    | (with_reducible exact impl_isLinePart.mono _ _ _ _ _ _ _)
    | (with_reducible exact impl_waterOf.mono _ _)
    | (with_reducible exact slices_Max_int_int.mono _ _)
    | (with_reducible exact LeO.refl _)
    | (with_reducible exact LeO.none _)
    | (with_reducible refine LeO.ite ?_ ?_)
    | (with_reducible refine LeO.bind ?_ (fun _ => ?_))
    | exact ih0 _ _ _ _ _
    | exact ih1 _ _ _ _ _ _ _ _ _ _ _ _
    | exact ih2 _ _ _ _ _
    | exact impl_flowsIn.mono _ _
    | exact impl_isLinePart.mono _ _ _ _ _ _ _
    | exact impl_waterOf.mono _ _
    | exact slices_Max_int_int.mono _ _
    | exact LeO.none _
    | refine LeO.ite ?_ ?_
    | refine LeO.bind ?_ (fun _ => ?_)
  · intro y0 y1 y2 y3 y4
    unfold impl_isHoseLine.l1
    repeat' first
    | (with_reducible exact ih0 _ _ _ _ _)
    | (with_reducible exact ih1 _ _ _ _ _ _ _ _ _ _ _ _)
    | (with_reducible exact ih2 _ _ _ _ _)
    | (with_reducible exact impl_flowsIn.mono _ _)
    | (with_reducible exact impl_isLinePart.mono _ _ _ _ _ _ _)
    | (with_reducible exact impl_waterOf.mono _ _)
    | (with_reducible exact slices_Max_int_int.mono _ _)
    | (with_reducible exact LeO.refl _)
    | (with_reducible exact LeO.none _)
    | (with_reducible refine LeO.ite ?_ ?_)
    | (with_reducible refine LeO.bind ?_ (fun _ => ?_))
    | exact ih0 _ _ _ _ _
    | exact ih1 _ _ _ _ _ _ _ _ _ _ _ _
    | exact ih2 _ _ _ _ _
    | exact impl_flowsIn.mono _ _
    | exact impl_isLinePart.mono _ _ _ _ _ _ _
    | exact impl_waterOf.mono _ _
    | exact slices_Max_int_int.mono _ _
    | exact LeO.none _
    | refine LeO.ite ?_ ?_
    | refine LeO.bind ?_ (fun _ => ?_)
theorem impl_isHoseLine.mono : ∀ a0 k, LeO (impl_isHoseLine.f k a0) (impl_isHoseLine.f (k + 1) a0) := by
 intro a0 k
 obtain ⟨ih0, ih1, ih2⟩ := impl_isHoseLine.mono_l k
 unfold impl_isHoseLine.f
 repeat' first
  | (with_reducible exact ih0 _ _ _ _ _)
  | (with_reducible exact ih1 _ _ _ _ _ _ _ _ _ _ _ _)
  | (with_reducible exact ih2 _ _ _ _ _)
  | (with_reducible exact impl_flowsIn.mono _ _)
  | (with_reducible exact impl_isLinePart.mono _ _ _ _ _ _ _)
  | (with_reducible exact impl_waterOf.mono _ _)
  | (with_reducible exact slices_Max_int_int.mono _ _)
  | (with_reducible exact LeO.refl _)
  | (with_reducible exact LeO.none _)
  | (with_reducible refine LeO.ite ?_ ?_)
  | (with_reducible refine LeO.bind ?_ (fun _ => ?_))
  | exact ih0 _ _ _ _ _
  | exact ih1 _ _ _ _ _ _ _ _ _ _ _ _
  | exact ih2 _ _ _ _ _
  | exact impl_flowsIn.mono _ _
  | exact impl_isLinePart.mono _ _ _ _ _ _ _
  | exact impl_waterOf.mono _ _
  | exact slices_Max_int_int.mono _ _
  | exact LeO.none _
  | refine LeO.ite ?_ ?_
  | refine LeO.bind ?_ (fun _ => ?_)
set_option maxHeartbeats 8000000 in
set_option maxRecDepth 100000 in
theorem impl_isHoseLine.calls (k : Nat) (A0 : Option Addr) (c0 : Nat) (l0 : List (S45)) (r : Bool) (w : World) (hr0 : Kd.C k45 w A0 l0.length l0) (hc0 : l0.length ≤ c0) (h : impl_isHoseLine.f k l0 = some r) :
  Calls Try.prog 52 #[.slice A0 l0.length c0] w fun e w' => e = .returned (.bool r) ∧ Below w.heap.size w w' := by
 have hu45 := Try.underlying45
 have HR0 := Aside0.mk hr0
 have HC0 := Aside0.mk hc0
 clear hr0 hc0
 have HB := Aside0.mk (Below.refl w.heap.size w)
 have H : ((impl_inside.f (l0.length : Int) 1 12).bind fun t191 => (if t191 = true then (if 0 ≤ (l0.length : Int) then (if ((l0.length : Int) : Int).toNat ≤ 281474976710656 then (impl_isHoseLine.l0 k l0 (List.replicate ((l0.length : Int) : Int).toNat false) l0 (l0.length : Int) 0) else (none)) else (none)) else (some false))) = some r := h
 clear h
 replace H := Option.bind_eq_some_iff.mp H
 obtain ⟨t191, A20, H⟩ := H
 replace H : (if t191 = true then (if 0 ≤ (l0.length : Int) then (if ((l0.length : Int) : Int).toNat ≤ 281474976710656 then (impl_isHoseLine.l0 k l0 (List.replicate ((l0.length : Int) : Int).toNat false) l0 (l0.length : Int) 0) else (none)) else (none)) else (some false)) = some r := H
 have A2 := Aside0.mk A20
 clear A20
 by_cases c3 : t191 = true
 case neg =>
  replace c3 := Bool.eq_false_iff.mpr c3
  subst c3
  have H1 : (some false) = some r := by rw [if_neg (show ¬ (false = true) by decide)] at H; exact H
  clear H
  have H := H1
  clear H1
  obtain rfl := Option.some.inj H
  go_enter Try.func52, Try.ntmps52
  go_wp2_with (first | ((with_reducible refine gate_callee (f := 68) rfl ?_); refine goesL_ (some 10) rfl rfl Try.func68 (by kernel_rfl) rfl #[.int .i64 (l0.length : Int), .int .i64 1, .int .i64 12] rfl (by (try simp only [List.map_toArray, List.map_cons, List.map_nil]); first | done | rfl | (simp only [List.length_drop, List.length_take]; rfl)) ?_; (with_reducible refine (impl_inside.calls (l0.length : Int) 1 12 false _ A2.out).mono ?_); rintro e w' ⟨rfl, ⟨nd, rfl⟩⟩; refine ⟨_, rfl, ?_⟩))
  go_ret
  exact ⟨by first | rfl | (simp [errW_none, errW_some] <;> rfl) | (simp [*, errW_none, errW_some] <;> rfl), by repeat (first | (with_reducible first | exact HB.out | apply below_alloc | apply pw_below_drewN | apply below_drew1) | exact HB.out)⟩
 subst c3
 have H1 : (if 0 ≤ (l0.length : Int) then (if ((l0.length : Int) : Int).toNat ≤ 281474976710656 then (impl_isHoseLine.l0 k l0 (List.replicate ((l0.length : Int) : Int).toNat false) l0 (l0.length : Int) 0) else (none)) else (none)) = some r := by rw [if_pos rfl] at H; exact H
 clear H
 have H := H1
 clear H1
 by_cases c4 : 0 ≤ (l0.length : Int)
 case neg =>
  rw [if_neg c4] at H
  exact absurd H (by simp)
 rw [if_pos c4] at H
 have c4b0 := eq_true c4
 have c4b1 : decide (0 ≤ (l0.length : Int)) = true := decide_eq_true c4
 clear c4
 by_cases c5 : ((l0.length : Int) : Int).toNat ≤ 281474976710656
 case neg =>
  rw [if_neg c5] at H
  exact absurd H (by simp)
 rw [if_pos c5] at H
 have c5b0 := eq_true c5
 have c5b1 : decide (((l0.length : Int) : Int).toNat ≤ 281474976710656) = true := decide_eq_true c5
 clear c5
 obtain ⟨y192, hy192⟩ : ∃ y_ : List Bool, y_ = (List.replicate ((l0.length : Int) : Int).toNat false) := ⟨_, rfl⟩
 replace H : (impl_isHoseLine.l0 k l0 y192 l0 (l0.length : Int) 0) = some r := by first | (rw [hy192]; with_reducible exact H) | (have H2_ := (Option.bind_some _ _).symm.trans H; rw [hy192]; with_reducible exact H2_) | (have H2_ := (Option.bind_some _ _).symm.trans H; with_reducible exact H2_) | with_reducible exact H | (rw [hy192]; exact H) | exact H
 have Ny192 := Aside0.mk hy192
 clear hy192
 have H' := Aside0.mk H
 clear H
 go_enter Try.func52, Try.ntmps52
 go_wp2_with (first | ((with_reducible refine gate_callee (f := 68) rfl ?_); refine goesL_ (some 10) rfl rfl Try.func68 (by kernel_rfl) rfl #[.int .i64 (l0.length : Int), .int .i64 1, .int .i64 12] rfl (by (try simp only [List.map_toArray, List.map_cons, List.map_nil]); first | done | rfl | (simp only [List.length_drop, List.length_take]; rfl)) ?_; (with_reducible refine (impl_inside.calls (l0.length : Int) 1 12 true _ A2.out).mono ?_); rintro e w' ⟨rfl, ⟨nd, rfl⟩⟩; refine ⟨_, rfl, ?_⟩) | ((with_reducible refine gate_dst (N := 14) rfl ?_); refine Kd.R_make Kd.bool _ 4 rfl (N := 14) rfl 68 _ _ rfl (l0.length : Int) rfl rfl Try.underlying68 (.bool false) 1 info4 rfl (by decide) (by omega) false (ok := fun _ => True) (okp := fun _ => True) rfl (fun _ hk => hk) trivial (of_decide_eq_true (by first | (with_reducible assumption) | assumption)) (Nat.le_trans (Nat.mul_le_mul_right _ (of_decide_eq_true (by first | (with_reducible assumption) | assumption) : (l0.length : Int).toNat ≤ 281474976710656)) (by omega)) (Below.refl _ _) (Nat.le_refl _) ?_; intro v193 w6 ho7 hb hg_ hnew_; clear hg_ hnew_; (first | rw [← Ny192.out] at ho7 | (simp only [Int.reduceToNat] at ho7; rw [← Ny192.out] at ho7)); have n0_ := Aside0.mk (Kd.R_lower ho7 (below_size (by repeat (first | (with_reducible first | exact HB.out | apply below_alloc | apply pw_below_drewN | apply below_drew1) | exact HB.out)))); have n1_ := Aside0.mk (below_step (by repeat (first | (with_reducible first | exact HB.out | apply below_alloc | apply pw_below_drewN | apply below_drew1) | exact HB.out)) hb); clear HB; have HO194 := n0_; have HB := n1_; clear n0_ n1_; clear hb ho7))
 go_loopg [17] k (fun kq v17 w' => ∃ (x3_1 : List Bool) (x17_1 : Int), v17 = .int .i64 x17_1 ∧ Aside0 (impl_isHoseLine.l0 kq l0 x3_1 l0 (l0.length : Int) x17_1 = some r) ∧ Aside0 (kq ≤ k) ∧ Aside0 (Kd.R Kd.bool 4 w' w.heap.size (fun _ => True) v193 x3_1) ∧ Aside0 (Below w.heap.size w w'))
 case atStart => exact ⟨(y192), (0), (by first | rfl | (simp; done) | (simp [*]; done)), H', ⟨Nat.le_refl _⟩, ⟨by (with_reducible repeat (first | apply Kd.R_alloc | apply Kd.R_drewN | apply Kd.R_drew)); exact HO194.out⟩, ⟨by repeat (first | (with_reducible first | exact HB.out | apply below_alloc | apply pw_below_drewN | apply below_drew1) | exact HB.out)⟩⟩
 case round =>
  clear H'
  try clear p2
  try clear c3
  try clear c4
  try clear c4b0
  try clear c4b1
  try clear c5
  try clear c5b0
  try clear c5b1
  try clear c6
  obtain ⟨x3_1, x17_1, rfl, HA, HK1, HO_3, HB⟩ := hrel
  cases gk with
  | zero => exact absurd HA.out (by simp [impl_isHoseLine.l0])
  | succ k1 =>
   have H := HA.out
   clear HA
   simp only [impl_isHoseLine.l0] at H
   by_cases c8 : x17_1 < (l0.length : Int)
   case neg =>
    rw [if_neg c8] at H
    have c8b0 : decide (x17_1 < (l0.length : Int)) = false := decide_eq_false c8
    clear c8
    have H' := Aside0.mk H
    clear H
    go_wp2
    go_loopg [57] k1 (fun kq v57 w' => ∃ (x57_2 : Int), v57 = .int .i64 x57_2 ∧ Aside0 (impl_isHoseLine.l1 kq l0 x3_1 l0 (l0.length : Int) x57_2 = some r) ∧ Aside0 (kq ≤ k1) ∧ Aside0 (Kd.R Kd.bool 4 w' w.heap.size (fun _ => True) v193 x3_1) ∧ Aside0 (Below w.heap.size w w'))
    case atStart => exact ⟨(0), (by first | rfl | (simp; done) | (simp [*]; done)), H', ⟨Nat.le_refl _⟩, ⟨by (with_reducible repeat (first | apply Kd.R_alloc | apply Kd.R_drewN | apply Kd.R_drew)); exact HO_3.out⟩, ⟨by repeat (first | (with_reducible first | exact HB.out | apply below_alloc | apply pw_below_drewN | apply below_drew1) | exact HB.out)⟩⟩
    case round =>
     clear H'
     try clear c1
     try clear p1
     try clear q1
     try clear hx1
     try clear c2
     try clear p2
     try clear c3
     try clear p3
     try clear q3
     try clear hx3
     try clear hf3
     try clear c4
     try clear c4b0
     try clear c4b1
     try clear c5
     try clear c5b0
     try clear c5b1
     try clear c6
     try clear p6
     try clear c7
     try clear c8
     try clear c8b0
     try clear c9
     try clear c9b0
     try clear c10
     try clear c10b0
     try clear c15
     try clear c17
     try clear c18
     try clear c18b0
     try clear c19
     try clear c19b0
     try clear p19
     try clear q19
     try clear hx19
     try clear c20
     try clear c20b0
     try clear c32
     try clear c33
     try clear c33b0
     try clear c34
     try clear c34b0
     try clear c35
     try clear c35b0
     try clear p36
     try clear q36
     try clear hx36
     try clear hf36
     try clear hcz13_0
     try clear hcz13_1
     try clear hcz13_2
     try clear hcz13_3
     try clear hcz13_4
     try clear hcz13_5
     try clear hcz21_0
     try clear hcz21_1
     try clear hcz21_2
     try clear hcz21_3
     try clear hcz21_4
     try clear hcz21_5
     try clear hcz23_0
     try clear hcz23_1
     try clear hcz23_2
     try clear hcz23_3
     try clear hcz23_4
     try clear hcz23_5
     try clear hcz24_0
     try clear hcz24_1
     try clear hcz24_2
     try clear hcz24_3
     try clear hcz24_4
     try clear hcz24_5
     try clear hcz26_0
     try clear hcz26_1
     try clear hcz26_2
     try clear hcz26_3
     try clear hcz26_4
     try clear hcz26_5
     try clear hcz27_0
     try clear hcz27_1
     try clear hcz27_2
     try clear hcz27_3
     try clear hcz27_4
     try clear hcz27_5
     try clear hcz29_0
     try clear hcz29_1
     try clear hcz29_2
     try clear hcz29_3
     try clear hcz29_4
     try clear hcz29_5
     try clear hcz30_0
     try clear hcz30_1
     try clear hcz30_2
     try clear hcz30_3
     try clear hcz30_4
     try clear hcz30_5
     try clear hcz37_0
     try clear hcz37_1
     try clear hcz37_2
     try clear hcz37_3
     try clear hcz37_4
     try clear hcz37_5
     try clear hcz40_0
     try clear hcz40_1
     try clear hcz40_2
     try clear hcz40_3
     try clear hcz40_4
     try clear hcz40_5
     try clear hfz13_0
     try clear hfz13_1
     try clear hfz13_2
     try clear hfz13_3
     try clear hfz13_4
     try clear hfz13_5
     try clear hfz21_0
     try clear hfz21_1
     try clear hfz21_2
     try clear hfz21_3
     try clear hfz21_4
     try clear hfz21_5
     try clear hfz23_0
     try clear hfz23_1
     try clear hfz23_2
     try clear hfz23_3
     try clear hfz23_4
     try clear hfz23_5
     try clear hfz24_0
     try clear hfz24_1
     try clear hfz24_2
     try clear hfz24_3
     try clear hfz24_4
     try clear hfz24_5
     try clear hfz26_0
     try clear hfz26_1
     try clear hfz26_2
     try clear hfz26_3
     try clear hfz26_4
     try clear hfz26_5
     try clear hfz27_0
     try clear hfz27_1
     try clear hfz27_2
     try clear hfz27_3
     try clear hfz27_4
     try clear hfz27_5
     try clear hfz29_0
     try clear hfz29_1
     try clear hfz29_2
     try clear hfz29_3
     try clear hfz29_4
     try clear hfz29_5
     try clear hfz30_0
     try clear hfz30_1
     try clear hfz30_2
     try clear hfz30_3
     try clear hfz30_4
     try clear hfz30_5
     try clear hfz37_0
     try clear hfz37_1
     try clear hfz37_2
     try clear hfz37_3
     try clear hfz37_4
     try clear hfz37_5
     try clear hfz40_0
     try clear hfz40_1
     try clear hfz40_2
     try clear hfz40_3
     try clear hfz40_4
     try clear hfz40_5
     try clear hx195_0
     try clear hx195_1
     try clear hx195_2
     try clear hx195_3
     try clear hx195_4
     try clear hx195_5
     try clear hx199_0
     try clear hx199_1
     try clear hx199_2
     try clear hx199_3
     try clear hx199_4
     try clear hx199_5
     try clear hx36_0
     try clear p1
     try clear p19
     try clear p195
     try clear p199
     try clear p2
     try clear p36
     try clear p6
     try clear q1
     try clear q19
     try clear q195
     try clear q199
     try clear q36
     obtain ⟨x57_2, rfl, HA, HK2, HO_3, HB⟩ := hrel
     cases gk with
     | zero => exact absurd HA.out (by simp [impl_isHoseLine.l1])
     | succ k2 =>
      have H := HA.out
      clear HA
      simp only [impl_isHoseLine.l1] at H
      by_cases c41 : x57_2 < (l0.length : Int)
      case neg =>
       rw [if_neg c41] at H
       have c41b0 : decide (x57_2 < (l0.length : Int)) = false := decide_eq_false c41
       clear c41
       replace H := Option.bind_eq_some_iff.mp H
       obtain ⟨t204, A560, H⟩ := H
       replace H : ((slices_Max_int_int.f k2 t204).bind fun t207 => (if t207 ≤ 3000 then ((impl_waterOf.f k2 l0).bind fun t208 => (some (decide (t208 ≤ 3000)))) else (some false))) = some r := H
       have A56 := Aside0.mk A560
       clear A560
       replace H := Option.bind_eq_some_iff.mp H
       obtain ⟨t207, A570, H⟩ := H
       replace H : (if t207 ≤ 3000 then ((impl_waterOf.f k2 l0).bind fun t208 => (some (decide (t208 ≤ 3000)))) else (some false)) = some r := H
       have A57 := Aside0.mk A570
       clear A570
       by_cases c58 : t207 ≤ 3000
       case neg =>
        rw [if_neg c58] at H
        have c58b0 : decide (t207 ≤ 3000) = false := decide_eq_false c58
        clear c58
        obtain rfl := Option.some.inj H
        go_wp2_with (first | ((with_reducible refine gate_callee (f := 57) rfl ?_); refine goesL_ (some 74) rfl rfl Try.func57 (by kernel_rfl) rfl #[.slice A0 l0.length c0] rfl (by (try simp only [List.map_toArray, List.map_cons, List.map_nil]); first | done | rfl | (simp only [List.length_drop, List.length_take]; rfl)) ?_; (with_reducible refine (impl_flowsIn.calls k2 _ _ l0 t204 _ ?side1 ?side2 A56.out).mono ?_); (case side1 => repeat (first | exact (Kd.C_below HR0.out HB.out) | (with_reducible refine Kd.C_alloc ?_ _) | (with_reducible refine Kd.C_drewN ?_ _) | (with_reducible refine Kd.C_drew ?_))); (case side2 => exact HC0.out); rintro e w64 ⟨v205, rfl, ho0, hb⟩; refine ⟨_, rfl, ?_⟩; have n0_ := Aside0.mk (Kd.R_below (by (with_reducible repeat (first | apply Kd.R_alloc | apply Kd.R_drewN | apply Kd.R_drew)); exact HO_3.out) hb); have n1_ := Aside0.mk (Kd.R_lower ho0 (below_size (by repeat (first | (with_reducible first | exact HB.out | apply below_alloc | apply pw_below_drewN | apply below_drew1) | exact HB.out)))); have n2_ := Aside0.mk (below_step (by repeat (first | (with_reducible first | exact HB.out | apply below_alloc | apply pw_below_drewN | apply below_drew1) | exact HB.out)) hb); clear HO_3; clear HB; have HO_3 := n0_; have HO206 := n1_; have HB := n2_; clear n0_ n1_ n2_; (try clear hb); (try clear hb2); (try clear hk); (try clear hi); (try clear ho0); obtain ⟨Ao65, co65, eo65⟩ := Kd.R_slice HO206.out; subst eo65) | ((with_reducible refine gate_callee (f := 77) rfl ?_); refine goesL_ (some 75) rfl rfl Try.func77 (by kernel_rfl) rfl #[.slice Ao65 t204.length co65] rfl (by (try simp only [List.map_toArray, List.map_cons, List.map_nil]); first | done | rfl | (simp only [List.length_drop, List.length_take]; rfl)) ?_; (with_reducible refine (slices_Max_int_int.calls k2 _ _ t204 t207 _ ?side1 ?side2 A57.out).mono ?_); (case side1 => repeat (first | exact (Kd.R_reads' HO206.out).2.2 | (with_reducible refine Kd.C_alloc ?_ _) | (with_reducible refine Kd.C_drewN ?_ _) | (with_reducible refine Kd.C_drew ?_))); (case side2 => exact (Kd.R_reads' HO206.out).2.1); rintro e w66 ⟨rfl, hb⟩; refine ⟨_, rfl, ?_⟩; have n0_ := Aside0.mk (Kd.R_below (by (with_reducible repeat (first | apply Kd.R_alloc | apply Kd.R_drewN | apply Kd.R_drew)); exact HO_3.out) hb); have n1_ := Aside0.mk (Kd.R_below (by (with_reducible repeat (first | apply Kd.R_alloc | apply Kd.R_drewN | apply Kd.R_drew)); exact HO206.out) hb); have n2_ := Aside0.mk (below_step (by repeat (first | (with_reducible first | exact HB.out | apply below_alloc | apply pw_below_drewN | apply below_drew1) | exact HB.out)) hb); clear HO_3; clear HO206; clear HB; have HO_3 := n0_; have HO206 := n1_; have HB := n2_; clear n0_ n1_ n2_; (try clear hb); (try clear hb2); (try clear hk); (try clear hi)))
        go_ret
        exact ⟨by first | rfl | (simp [errW_none, errW_some] <;> rfl) | (simp [*, errW_none, errW_some] <;> rfl), by repeat (first | (with_reducible first | exact HB.out | apply below_alloc | apply pw_below_drewN | apply below_drew1) | exact HB.out)⟩
       rw [if_pos c58] at H
       have c58b0 : decide (t207 ≤ 3000) = true := decide_eq_true c58
       clear c58
       replace H := Option.bind_eq_some_iff.mp H
       obtain ⟨t208, A590, H⟩ := H
       replace H : (some (decide (t208 ≤ 3000))) = some r := H
       have A59 := Aside0.mk A590
       clear A590
       obtain rfl := Option.some.inj H
       go_wp2_with (first | ((with_reducible refine gate_callee (f := 57) rfl ?_); refine goesL_ (some 74) rfl rfl Try.func57 (by kernel_rfl) rfl #[.slice A0 l0.length c0] rfl (by (try simp only [List.map_toArray, List.map_cons, List.map_nil]); first | done | rfl | (simp only [List.length_drop, List.length_take]; rfl)) ?_; (with_reducible refine (impl_flowsIn.calls k2 _ _ l0 t204 _ ?side1 ?side2 A56.out).mono ?_); (case side1 => repeat (first | exact (Kd.C_below HR0.out HB.out) | (with_reducible refine Kd.C_alloc ?_ _) | (with_reducible refine Kd.C_drewN ?_ _) | (with_reducible refine Kd.C_drew ?_))); (case side2 => exact HC0.out); rintro e w60 ⟨v205, rfl, ho0, hb⟩; refine ⟨_, rfl, ?_⟩; have n0_ := Aside0.mk (Kd.R_below (by (with_reducible repeat (first | apply Kd.R_alloc | apply Kd.R_drewN | apply Kd.R_drew)); exact HO_3.out) hb); have n1_ := Aside0.mk (Kd.R_lower ho0 (below_size (by repeat (first | (with_reducible first | exact HB.out | apply below_alloc | apply pw_below_drewN | apply below_drew1) | exact HB.out)))); have n2_ := Aside0.mk (below_step (by repeat (first | (with_reducible first | exact HB.out | apply below_alloc | apply pw_below_drewN | apply below_drew1) | exact HB.out)) hb); clear HO_3; clear HB; have HO_3 := n0_; have HO206 := n1_; have HB := n2_; clear n0_ n1_ n2_; (try clear hb); (try clear hb2); (try clear hk); (try clear hi); (try clear ho0); obtain ⟨Ao61, co61, eo61⟩ := Kd.R_slice HO206.out; subst eo61) | ((with_reducible refine gate_callee (f := 77) rfl ?_); refine goesL_ (some 75) rfl rfl Try.func77 (by kernel_rfl) rfl #[.slice Ao61 t204.length co61] rfl (by (try simp only [List.map_toArray, List.map_cons, List.map_nil]); first | done | rfl | (simp only [List.length_drop, List.length_take]; rfl)) ?_; (with_reducible refine (slices_Max_int_int.calls k2 _ _ t204 t207 _ ?side1 ?side2 A57.out).mono ?_); (case side1 => repeat (first | exact (Kd.R_reads' HO206.out).2.2 | (with_reducible refine Kd.C_alloc ?_ _) | (with_reducible refine Kd.C_drewN ?_ _) | (with_reducible refine Kd.C_drew ?_))); (case side2 => exact (Kd.R_reads' HO206.out).2.1); rintro e w62 ⟨rfl, hb⟩; refine ⟨_, rfl, ?_⟩; have n0_ := Aside0.mk (Kd.R_below (by (with_reducible repeat (first | apply Kd.R_alloc | apply Kd.R_drewN | apply Kd.R_drew)); exact HO_3.out) hb); have n1_ := Aside0.mk (Kd.R_below (by (with_reducible repeat (first | apply Kd.R_alloc | apply Kd.R_drewN | apply Kd.R_drew)); exact HO206.out) hb); have n2_ := Aside0.mk (below_step (by repeat (first | (with_reducible first | exact HB.out | apply below_alloc | apply pw_below_drewN | apply below_drew1) | exact HB.out)) hb); clear HO_3; clear HO206; clear HB; have HO_3 := n0_; have HO206 := n1_; have HB := n2_; clear n0_ n1_ n2_; (try clear hb); (try clear hb2); (try clear hk); (try clear hi)) | (go_at_call 55; (with_reducible refine (impl_waterOf.calls k2 _ _ l0 t208 _ ?side1 ?side2 A59.out).mono ?_); (case side1 => repeat (first | exact (Kd.C_below HR0.out HB.out) | (with_reducible refine Kd.C_alloc ?_ _) | (with_reducible refine Kd.C_drewN ?_ _) | (with_reducible refine Kd.C_drew ?_))); (case side2 => exact HC0.out); rintro e w63 ⟨rfl, hb⟩; have n0_ := Aside0.mk (Kd.R_below (by (with_reducible repeat (first | apply Kd.R_alloc | apply Kd.R_drewN | apply Kd.R_drew)); exact HO_3.out) hb); have n1_ := Aside0.mk (Kd.R_below (by (with_reducible repeat (first | apply Kd.R_alloc | apply Kd.R_drewN | apply Kd.R_drew)); exact HO206.out) hb); have n2_ := Aside0.mk (below_step (by repeat (first | (with_reducible first | exact HB.out | apply below_alloc | apply pw_below_drewN | apply below_drew1) | exact HB.out)) hb); clear HO_3; clear HO206; clear HB; have HO_3 := n0_; have HO206 := n1_; have HB := n2_; clear n0_ n1_ n2_; (try clear hb); (try clear hb2); (try clear hk); (try clear hi)))
       go_ret
       exact ⟨by first | rfl | (simp [errW_none, errW_some] <;> rfl) | (simp [*, errW_none, errW_some] <;> rfl), by repeat (first | (with_reducible first | exact HB.out | apply below_alloc | apply pw_below_drewN | apply below_drew1) | exact HB.out)⟩
      rw [if_pos c41] at H
      have c41b0 : decide (x57_2 < (l0.length : Int)) = true := decide_eq_true c41
      clear c41
      by_cases c42 : 0 ≤ x57_2
      case neg =>
       rw [if_neg c42] at H
       exact absurd H (by simp)
      rw [if_pos c42] at H
      have c42b0 : decide (0 ≤ x57_2) = true := decide_eq_true c42
      clear c42
      by_cases c43 : x57_2 < (l0.length : Int)
      case neg =>
       rw [if_neg c43] at H
       exact absurd H (by simp)
      rw [if_pos c43] at H
      have c43b0 : decide (x57_2 < (l0.length : Int)) = true := decide_eq_true c43
      clear c43
      by_cases c44 : ((rd_T45 l0 x57_2).f3) = 0
      case neg =>
       rw [if_neg c44] at H
       have c44b0 : (((rd_T45 l0 x57_2).f3) == 0) = false := beq_eq_false_iff_ne.mpr c44
       have c44b1 : (((rd_T45 l0 x57_2).f3) != 0) = true := bne_iff_ne.mpr c44
       have H' := Aside0.mk H
       clear H
       have p201 : 0 ≤ (x57_2 : Int) := of_decide_eq_true (by first | (with_reducible assumption) | assumption)
       have q201 : x57_2 < (l0.length : Int) := of_decide_eq_true (by first | (with_reducible assumption) | assumption)
       obtain ⟨ad201, e201, hx201_0, hx201_1, hx201_2, hx201_3, hx201_4, hx201_5⟩ := at_T45 HR0.out x57_2 p201 q201
       cases e201
       replace hx201_0 := (HB.out.cell (World.block_lt_of_cell? w _ hx201_0)).trans hx201_0
       replace hx201_1 := (HB.out.cell (World.block_lt_of_cell? w _ hx201_1)).trans hx201_1
       replace hx201_2 := (HB.out.cell (World.block_lt_of_cell? w _ hx201_2)).trans hx201_2
       replace hx201_3 := (HB.out.cell (World.block_lt_of_cell? w _ hx201_3)).trans hx201_3
       replace hx201_4 := (HB.out.cell (World.block_lt_of_cell? w _ hx201_4)).trans hx201_4
       replace hx201_5 := (HB.out.cell (World.block_lt_of_cell? w _ hx201_5)).trans hx201_5
       replace p201 := eq_true p201
       replace q201 := eq_true q201
       go_wp2_with (first | ((with_reducible refine gate_dst (N := 7) rfl ?_); refine box_event ?hg (N := 7) ?hd (cs := #[.int .i64 0, .int .i64 0, .int .i64 0, .int .i64 0, .int .i64 0, .int .i64 0]) (t := 45) ?hr ?_; (case hd => rfl); (case hg => rfl); (case hr => first | (go_simp; done) | (go_simp; rfl)); intro gb202 hg w54 hbox hb; have n0_ := Aside0.mk (Kd.R_below (by (with_reducible repeat (first | apply Kd.R_alloc | apply Kd.R_drewN | apply Kd.R_drew)); exact HO_3.out) hb); have n1_ := Aside0.mk (below_step (by repeat (first | (with_reducible first | exact HB.out | apply below_alloc | apply pw_below_drewN | apply below_drew1) | exact HB.out)) hb); have n2_ := Aside0.mk (hbox); have n3_ := Aside0.mk ((by rw [hg]; exact (below_size (by repeat (first | (with_reducible first | exact HB.out | apply below_alloc | apply pw_below_drewN | apply below_drew1) | exact HB.out))) : w.heap.size ≤ gb202)); have n4_ := Aside0.mk ((by rw [hg]; exact (below_size (by repeat (first | (with_reducible first | exact HB.out | apply below_alloc | apply pw_below_drewN | apply below_drew1) | exact HB.out))) : w.heap.size ≤ gb202)); clear HO_3; clear HB; have HO_3 := n0_; have HB := n1_; have BK202 := n2_; have GW202 := n3_; have GE202 := n4_; clear n0_ n1_ n2_ n3_ n4_; clear hb hbox hg; have hcz55_0 : w54.cell? ⟨gb202, 0, none⟩ = some (.int .i64 0) := (blk_cell BK202.out 0).trans rfl; have hcz55_1 : w54.cell? ⟨gb202, 1, none⟩ = some (.int .i64 0) := (blk_cell BK202.out 1).trans rfl; have hcz55_2 : w54.cell? ⟨gb202, 2, none⟩ = some (.int .i64 0) := (blk_cell BK202.out 2).trans rfl; have hcz55_3 : w54.cell? ⟨gb202, 3, none⟩ = some (.int .i64 0) := (blk_cell BK202.out 3).trans rfl; have hcz55_4 : w54.cell? ⟨gb202, 4, none⟩ = some (.int .i64 0) := (blk_cell BK202.out 4).trans rfl; have hcz55_5 : w54.cell? ⟨gb202, 5, none⟩ = some (.int .i64 0) := (blk_cell BK202.out 5).trans rfl; have hfz55_0 := blk_frozen BK202.out 0; have hfz55_1 := blk_frozen BK202.out 1; have hfz55_2 := blk_frozen BK202.out 2; have hfz55_3 := blk_frozen BK202.out 3; have hfz55_4 := blk_frozen BK202.out 4; have hfz55_5 := blk_frozen BK202.out 5))
       go_roundg k2
       case measure => have := HK1.out; have := HK2.out; omega
       case rel => exact ⟨(wrap64 (x57_2 + 1)), (by first | rfl | (simp; done) | (simp [*]; done)), H', ⟨by have := HK1.out; have := HK2.out; omega⟩, ⟨by (with_reducible repeat (first | apply Kd.R_alloc | apply Kd.R_drewN | apply Kd.R_drew)); exact Kd.R_mono (Kd.R_far (p := ⟨gb202, 5, none⟩) (Kd.R_far (p := ⟨gb202, 4, none⟩) (Kd.R_far (p := ⟨gb202, 3, none⟩) (Kd.R_far (p := ⟨gb202, 2, none⟩) (Kd.R_far (p := ⟨gb202, 1, none⟩) (Kd.R_far (p := ⟨gb202, 0, none⟩) (Kd.R_types HO_3.out BK202.out (by decide)) (fun _ hk => hk.2) (.int .i64 ((rd_T45 l0 x57_2).f0))) (fun _ hk => hk.2) (.int .i64 ((rd_T45 l0 x57_2).f1.f0))) (fun _ hk => hk.2) (.int .i64 ((rd_T45 l0 x57_2).f1.f1))) (fun _ hk => hk.2) (.int .i64 ((rd_T45 l0 x57_2).f2))) (fun _ hk => hk.2) (.int .i64 ((rd_T45 l0 x57_2).f3))) (fun _ hk => hk.2) (.int .i64 ((rd_T45 l0 x57_2).f4))) (fun _ hk => trivial)⟩, ⟨by repeat (first | (with_reducible first | exact HB.out | apply below_alloc | apply pw_below_drewN | apply below_drew1 | refine below_set ?_ GE202.out) | exact HB.out)⟩⟩
      rw [if_pos c44] at H
      have c44b0 : (((rd_T45 l0 x57_2).f3) == 0) = true := beq_iff_eq.mpr c44
      have c44b1 : (((rd_T45 l0 x57_2).f3) != 0) = false := bne_eq_false_iff_eq.mpr c44
      clear c44
      by_cases c45 : x57_2 < (x3_1.length : Int)
      case neg =>
       rw [if_neg c45] at H
       exact absurd H (by simp)
      rw [if_pos c45] at H
      have c45b0 : decide (x57_2 < (x3_1.length : Int)) = true := decide_eq_true c45
      clear c45
      obtain ⟨bq46, hbq46⟩ : ∃ b_ : Bool, b_ = (rdOf false x3_1 x57_2) := ⟨_, rfl⟩
      replace H : (if bq46 = true then (impl_isHoseLine.l1 k2 l0 x3_1 l0 (l0.length : Int) (wrap64 (x57_2 + 1))) else (some false)) = some r := by rw [← hbq46] at H; exact H
      have Nbq46 := Aside0.mk hbq46
      clear hbq46
      by_cases c47 : bq46 = true
      case neg =>
       replace c47 := Bool.eq_false_iff.mpr c47
       subst c47
       have H1 : (some false) = some r := by rw [if_neg (show ¬ (false = true) by decide)] at H; exact H
       clear H
       have H := H1
       clear H1
       obtain rfl := Option.some.inj H
       have p201 : 0 ≤ (x57_2 : Int) := of_decide_eq_true (by first | (with_reducible assumption) | assumption)
       have q201 : x57_2 < (l0.length : Int) := of_decide_eq_true (by first | (with_reducible assumption) | assumption)
       obtain ⟨ad201, e201, hx201_0, hx201_1, hx201_2, hx201_3, hx201_4, hx201_5⟩ := at_T45 HR0.out x57_2 p201 q201
       cases e201
       replace hx201_0 := (HB.out.cell (World.block_lt_of_cell? w _ hx201_0)).trans hx201_0
       replace hx201_1 := (HB.out.cell (World.block_lt_of_cell? w _ hx201_1)).trans hx201_1
       replace hx201_2 := (HB.out.cell (World.block_lt_of_cell? w _ hx201_2)).trans hx201_2
       replace hx201_3 := (HB.out.cell (World.block_lt_of_cell? w _ hx201_3)).trans hx201_3
       replace hx201_4 := (HB.out.cell (World.block_lt_of_cell? w _ hx201_4)).trans hx201_4
       replace hx201_5 := (HB.out.cell (World.block_lt_of_cell? w _ hx201_5)).trans hx201_5
       replace p201 := eq_true p201
       replace q201 := eq_true q201
       go_wp2_with (first | ((with_reducible refine gate_dst (N := 7) rfl ?_); refine box_event ?hg (N := 7) ?hd (cs := #[.int .i64 0, .int .i64 0, .int .i64 0, .int .i64 0, .int .i64 0, .int .i64 0]) (t := 45) ?hr ?_; (case hd => rfl); (case hg => rfl); (case hr => first | (go_simp; done) | (go_simp; rfl)); intro gb202 hg w51 hbox hb; have n0_ := Aside0.mk (Kd.R_below (by (with_reducible repeat (first | apply Kd.R_alloc | apply Kd.R_drewN | apply Kd.R_drew)); exact HO_3.out) hb); have n1_ := Aside0.mk (below_step (by repeat (first | (with_reducible first | exact HB.out | apply below_alloc | apply pw_below_drewN | apply below_drew1) | exact HB.out)) hb); have n2_ := Aside0.mk (hbox); have n3_ := Aside0.mk ((by rw [hg]; exact (below_size (by repeat (first | (with_reducible first | exact HB.out | apply below_alloc | apply pw_below_drewN | apply below_drew1) | exact HB.out))) : w.heap.size ≤ gb202)); have n4_ := Aside0.mk ((by rw [hg]; exact (below_size (by repeat (first | (with_reducible first | exact HB.out | apply below_alloc | apply pw_below_drewN | apply below_drew1) | exact HB.out))) : w.heap.size ≤ gb202)); clear HO_3; clear HB; have HO_3 := n0_; have HB := n1_; have BK202 := n2_; have GW202 := n3_; have GE202 := n4_; clear n0_ n1_ n2_ n3_ n4_; clear hb hbox hg; have hcz52_0 : w51.cell? ⟨gb202, 0, none⟩ = some (.int .i64 0) := (blk_cell BK202.out 0).trans rfl; have hcz52_1 : w51.cell? ⟨gb202, 1, none⟩ = some (.int .i64 0) := (blk_cell BK202.out 1).trans rfl; have hcz52_2 : w51.cell? ⟨gb202, 2, none⟩ = some (.int .i64 0) := (blk_cell BK202.out 2).trans rfl; have hcz52_3 : w51.cell? ⟨gb202, 3, none⟩ = some (.int .i64 0) := (blk_cell BK202.out 3).trans rfl; have hcz52_4 : w51.cell? ⟨gb202, 4, none⟩ = some (.int .i64 0) := (blk_cell BK202.out 4).trans rfl; have hcz52_5 : w51.cell? ⟨gb202, 5, none⟩ = some (.int .i64 0) := (blk_cell BK202.out 5).trans rfl; have hfz52_0 := blk_frozen BK202.out 0; have hfz52_1 := blk_frozen BK202.out 1; have hfz52_2 := blk_frozen BK202.out 2; have hfz52_3 := blk_frozen BK202.out 3; have hfz52_4 := blk_frozen BK202.out 4; have hfz52_5 := blk_frozen BK202.out 5; obtain ⟨Ao53, co53, eo53⟩ := Kd.R_slice HO_3.out; subst eo53; have p203 : 0 ≤ (x57_2 : Int) := of_decide_eq_true (by first | (with_reducible assumption) | assumption); have q203 : x57_2 < (x3_1.length : Int) := of_decide_eq_true (by first | (with_reducible assumption) | assumption); obtain ⟨ad203, e203, hx203_0⟩ := Kd.at_bool (Kd.R_reads' HO_3.out).2.2 x57_2 p203 q203; (try rw [← Nbq46.out] at hx203_0); cases e203; have hn203_0 : ad203.block ≠ gb202 := Kd.own_blk (Kd.R_ne HO_3.out BK202.out (by decide)); have hn203_1 : ad203.block ≠ gb202 := Kd.own_blk (Kd.R_ne HO_3.out BK202.out (by decide)); have hn203_2 : ad203.block ≠ gb202 := Kd.own_blk (Kd.R_ne HO_3.out BK202.out (by decide)); have hn203_3 : ad203.block ≠ gb202 := Kd.own_blk (Kd.R_ne HO_3.out BK202.out (by decide)); have hn203_4 : ad203.block ≠ gb202 := Kd.own_blk (Kd.R_ne HO_3.out BK202.out (by decide)); have hn203_5 : ad203.block ≠ gb202 := Kd.own_blk (Kd.R_ne HO_3.out BK202.out (by decide)); replace hx203_0 := (cell_far (p := ⟨gb202, 0, none⟩) (by first | (rw [add_block]; exact hn203_0) | (show (Addr.add _ _).block ≠ _; rw [add_block]; exact hn203_0) | exact hn203_0) (.int .i64 ((rd_T45 l0 x57_2).f0))).trans hx203_0; replace hx203_0 := (cell_far (p := ⟨gb202, 1, none⟩) (by first | (rw [add_block]; exact hn203_1) | (show (Addr.add _ _).block ≠ _; rw [add_block]; exact hn203_1) | exact hn203_1) (.int .i64 ((rd_T45 l0 x57_2).f1.f0))).trans hx203_0; replace hx203_0 := (cell_far (p := ⟨gb202, 2, none⟩) (by first | (rw [add_block]; exact hn203_2) | (show (Addr.add _ _).block ≠ _; rw [add_block]; exact hn203_2) | exact hn203_2) (.int .i64 ((rd_T45 l0 x57_2).f1.f1))).trans hx203_0; replace hx203_0 := (cell_far (p := ⟨gb202, 3, none⟩) (by first | (rw [add_block]; exact hn203_3) | (show (Addr.add _ _).block ≠ _; rw [add_block]; exact hn203_3) | exact hn203_3) (.int .i64 ((rd_T45 l0 x57_2).f2))).trans hx203_0; replace hx203_0 := (cell_far (p := ⟨gb202, 4, none⟩) (by first | (rw [add_block]; exact hn203_4) | (show (Addr.add _ _).block ≠ _; rw [add_block]; exact hn203_4) | exact hn203_4) (.int .i64 ((rd_T45 l0 x57_2).f3))).trans hx203_0; replace hx203_0 := (cell_far (p := ⟨gb202, 5, none⟩) (by first | (rw [add_block]; exact hn203_5) | (show (Addr.add _ _).block ≠ _; rw [add_block]; exact hn203_5) | exact hn203_5) (.int .i64 ((rd_T45 l0 x57_2).f4))).trans hx203_0; clear hn203_0; clear hn203_1; clear hn203_2; clear hn203_3; clear hn203_4; clear hn203_5; replace p203 := eq_true p203; replace q203 := eq_true q203))
       go_ret
       exact ⟨by first | rfl | (simp [errW_none, errW_some] <;> rfl) | (simp [*, errW_none, errW_some] <;> rfl), by repeat (first | (with_reducible first | exact HB.out | apply below_alloc | apply pw_below_drewN | apply below_drew1 | refine below_set ?_ GE202.out) | exact HB.out)⟩
      subst c47
      have H1 : (impl_isHoseLine.l1 k2 l0 x3_1 l0 (l0.length : Int) (wrap64 (x57_2 + 1))) = some r := by rw [if_pos rfl] at H; exact H
      clear H
      have H := H1
      clear H1
      have H' := Aside0.mk H
      clear H
      have p201 : 0 ≤ (x57_2 : Int) := of_decide_eq_true (by first | (with_reducible assumption) | assumption)
      have q201 : x57_2 < (l0.length : Int) := of_decide_eq_true (by first | (with_reducible assumption) | assumption)
      obtain ⟨ad201, e201, hx201_0, hx201_1, hx201_2, hx201_3, hx201_4, hx201_5⟩ := at_T45 HR0.out x57_2 p201 q201
      cases e201
      replace hx201_0 := (HB.out.cell (World.block_lt_of_cell? w _ hx201_0)).trans hx201_0
      replace hx201_1 := (HB.out.cell (World.block_lt_of_cell? w _ hx201_1)).trans hx201_1
      replace hx201_2 := (HB.out.cell (World.block_lt_of_cell? w _ hx201_2)).trans hx201_2
      replace hx201_3 := (HB.out.cell (World.block_lt_of_cell? w _ hx201_3)).trans hx201_3
      replace hx201_4 := (HB.out.cell (World.block_lt_of_cell? w _ hx201_4)).trans hx201_4
      replace hx201_5 := (HB.out.cell (World.block_lt_of_cell? w _ hx201_5)).trans hx201_5
      replace p201 := eq_true p201
      replace q201 := eq_true q201
      go_wp2_with (first | ((with_reducible refine gate_dst (N := 7) rfl ?_); refine box_event ?hg (N := 7) ?hd (cs := #[.int .i64 0, .int .i64 0, .int .i64 0, .int .i64 0, .int .i64 0, .int .i64 0]) (t := 45) ?hr ?_; (case hd => rfl); (case hg => rfl); (case hr => first | (go_simp; done) | (go_simp; rfl)); intro gb202 hg w48 hbox hb; have n0_ := Aside0.mk (Kd.R_below (by (with_reducible repeat (first | apply Kd.R_alloc | apply Kd.R_drewN | apply Kd.R_drew)); exact HO_3.out) hb); have n1_ := Aside0.mk (below_step (by repeat (first | (with_reducible first | exact HB.out | apply below_alloc | apply pw_below_drewN | apply below_drew1) | exact HB.out)) hb); have n2_ := Aside0.mk (hbox); have n3_ := Aside0.mk ((by rw [hg]; exact (below_size (by repeat (first | (with_reducible first | exact HB.out | apply below_alloc | apply pw_below_drewN | apply below_drew1) | exact HB.out))) : w.heap.size ≤ gb202)); have n4_ := Aside0.mk ((by rw [hg]; exact (below_size (by repeat (first | (with_reducible first | exact HB.out | apply below_alloc | apply pw_below_drewN | apply below_drew1) | exact HB.out))) : w.heap.size ≤ gb202)); clear HO_3; clear HB; have HO_3 := n0_; have HB := n1_; have BK202 := n2_; have GW202 := n3_; have GE202 := n4_; clear n0_ n1_ n2_ n3_ n4_; clear hb hbox hg; have hcz49_0 : w48.cell? ⟨gb202, 0, none⟩ = some (.int .i64 0) := (blk_cell BK202.out 0).trans rfl; have hcz49_1 : w48.cell? ⟨gb202, 1, none⟩ = some (.int .i64 0) := (blk_cell BK202.out 1).trans rfl; have hcz49_2 : w48.cell? ⟨gb202, 2, none⟩ = some (.int .i64 0) := (blk_cell BK202.out 2).trans rfl; have hcz49_3 : w48.cell? ⟨gb202, 3, none⟩ = some (.int .i64 0) := (blk_cell BK202.out 3).trans rfl; have hcz49_4 : w48.cell? ⟨gb202, 4, none⟩ = some (.int .i64 0) := (blk_cell BK202.out 4).trans rfl; have hcz49_5 : w48.cell? ⟨gb202, 5, none⟩ = some (.int .i64 0) := (blk_cell BK202.out 5).trans rfl; have hfz49_0 := blk_frozen BK202.out 0; have hfz49_1 := blk_frozen BK202.out 1; have hfz49_2 := blk_frozen BK202.out 2; have hfz49_3 := blk_frozen BK202.out 3; have hfz49_4 := blk_frozen BK202.out 4; have hfz49_5 := blk_frozen BK202.out 5; obtain ⟨Ao50, co50, eo50⟩ := Kd.R_slice HO_3.out; subst eo50; have p203 : 0 ≤ (x57_2 : Int) := of_decide_eq_true (by first | (with_reducible assumption) | assumption); have q203 : x57_2 < (x3_1.length : Int) := of_decide_eq_true (by first | (with_reducible assumption) | assumption); obtain ⟨ad203, e203, hx203_0⟩ := Kd.at_bool (Kd.R_reads' HO_3.out).2.2 x57_2 p203 q203; (try rw [← Nbq46.out] at hx203_0); cases e203; have hn203_0 : ad203.block ≠ gb202 := Kd.own_blk (Kd.R_ne HO_3.out BK202.out (by decide)); have hn203_1 : ad203.block ≠ gb202 := Kd.own_blk (Kd.R_ne HO_3.out BK202.out (by decide)); have hn203_2 : ad203.block ≠ gb202 := Kd.own_blk (Kd.R_ne HO_3.out BK202.out (by decide)); have hn203_3 : ad203.block ≠ gb202 := Kd.own_blk (Kd.R_ne HO_3.out BK202.out (by decide)); have hn203_4 : ad203.block ≠ gb202 := Kd.own_blk (Kd.R_ne HO_3.out BK202.out (by decide)); have hn203_5 : ad203.block ≠ gb202 := Kd.own_blk (Kd.R_ne HO_3.out BK202.out (by decide)); replace hx203_0 := (cell_far (p := ⟨gb202, 0, none⟩) (by first | (rw [add_block]; exact hn203_0) | (show (Addr.add _ _).block ≠ _; rw [add_block]; exact hn203_0) | exact hn203_0) (.int .i64 ((rd_T45 l0 x57_2).f0))).trans hx203_0; replace hx203_0 := (cell_far (p := ⟨gb202, 1, none⟩) (by first | (rw [add_block]; exact hn203_1) | (show (Addr.add _ _).block ≠ _; rw [add_block]; exact hn203_1) | exact hn203_1) (.int .i64 ((rd_T45 l0 x57_2).f1.f0))).trans hx203_0; replace hx203_0 := (cell_far (p := ⟨gb202, 2, none⟩) (by first | (rw [add_block]; exact hn203_2) | (show (Addr.add _ _).block ≠ _; rw [add_block]; exact hn203_2) | exact hn203_2) (.int .i64 ((rd_T45 l0 x57_2).f1.f1))).trans hx203_0; replace hx203_0 := (cell_far (p := ⟨gb202, 3, none⟩) (by first | (rw [add_block]; exact hn203_3) | (show (Addr.add _ _).block ≠ _; rw [add_block]; exact hn203_3) | exact hn203_3) (.int .i64 ((rd_T45 l0 x57_2).f2))).trans hx203_0; replace hx203_0 := (cell_far (p := ⟨gb202, 4, none⟩) (by first | (rw [add_block]; exact hn203_4) | (show (Addr.add _ _).block ≠ _; rw [add_block]; exact hn203_4) | exact hn203_4) (.int .i64 ((rd_T45 l0 x57_2).f3))).trans hx203_0; replace hx203_0 := (cell_far (p := ⟨gb202, 5, none⟩) (by first | (rw [add_block]; exact hn203_5) | (show (Addr.add _ _).block ≠ _; rw [add_block]; exact hn203_5) | exact hn203_5) (.int .i64 ((rd_T45 l0 x57_2).f4))).trans hx203_0; clear hn203_0; clear hn203_1; clear hn203_2; clear hn203_3; clear hn203_4; clear hn203_5; replace p203 := eq_true p203; replace q203 := eq_true q203))
      go_roundg k2
      case measure => have := HK1.out; have := HK2.out; omega
      case rel => exact ⟨(wrap64 (x57_2 + 1)), (by first | rfl | (simp; done) | (simp [*]; done)), H', ⟨by have := HK1.out; have := HK2.out; omega⟩, ⟨by (with_reducible repeat (first | apply Kd.R_alloc | apply Kd.R_drewN | apply Kd.R_drew)); exact Kd.R_mono (Kd.R_far (p := ⟨gb202, 5, none⟩) (Kd.R_far (p := ⟨gb202, 4, none⟩) (Kd.R_far (p := ⟨gb202, 3, none⟩) (Kd.R_far (p := ⟨gb202, 2, none⟩) (Kd.R_far (p := ⟨gb202, 1, none⟩) (Kd.R_far (p := ⟨gb202, 0, none⟩) (Kd.R_types HO_3.out BK202.out (by decide)) (fun _ hk => hk.2) (.int .i64 ((rd_T45 l0 x57_2).f0))) (fun _ hk => hk.2) (.int .i64 ((rd_T45 l0 x57_2).f1.f0))) (fun _ hk => hk.2) (.int .i64 ((rd_T45 l0 x57_2).f1.f1))) (fun _ hk => hk.2) (.int .i64 ((rd_T45 l0 x57_2).f2))) (fun _ hk => hk.2) (.int .i64 ((rd_T45 l0 x57_2).f3))) (fun _ hk => hk.2) (.int .i64 ((rd_T45 l0 x57_2).f4))) (fun _ hk => trivial)⟩, ⟨by repeat (first | (with_reducible first | exact HB.out | apply below_alloc | apply pw_below_drewN | apply below_drew1 | refine below_set ?_ GE202.out) | exact HB.out)⟩⟩
   rw [if_pos c8] at H
   have c8b0 : decide (x17_1 < (l0.length : Int)) = true := decide_eq_true c8
   clear c8
   by_cases c9 : 0 ≤ x17_1
   case neg =>
    rw [if_neg c9] at H
    exact absurd H (by simp)
   rw [if_pos c9] at H
   have c9b0 : decide (0 ≤ x17_1) = true := decide_eq_true c9
   clear c9
   by_cases c10 : x17_1 < (l0.length : Int)
   case neg =>
    rw [if_neg c10] at H
    exact absurd H (by simp)
   rw [if_pos c10] at H
   have c10b0 : decide (x17_1 < (l0.length : Int)) = true := decide_eq_true c10
   clear c10
   have HC11 := Aside0.mk H
   clear H
   have p195 : 0 ≤ (x17_1 : Int) := of_decide_eq_true (by first | (with_reducible assumption) | assumption)
   have q195 : x17_1 < (l0.length : Int) := of_decide_eq_true (by first | (with_reducible assumption) | assumption)
   obtain ⟨ad195, e195, hx195_0, hx195_1, hx195_2, hx195_3, hx195_4, hx195_5⟩ := at_T45 HR0.out x17_1 p195 q195
   cases e195
   replace hx195_0 := (HB.out.cell (World.block_lt_of_cell? w _ hx195_0)).trans hx195_0
   replace hx195_1 := (HB.out.cell (World.block_lt_of_cell? w _ hx195_1)).trans hx195_1
   replace hx195_2 := (HB.out.cell (World.block_lt_of_cell? w _ hx195_2)).trans hx195_2
   replace hx195_3 := (HB.out.cell (World.block_lt_of_cell? w _ hx195_3)).trans hx195_3
   replace hx195_4 := (HB.out.cell (World.block_lt_of_cell? w _ hx195_4)).trans hx195_4
   replace hx195_5 := (HB.out.cell (World.block_lt_of_cell? w _ hx195_5)).trans hx195_5
   replace p195 := eq_true p195
   replace q195 := eq_true q195
   go_upto_region 7 with (first | ((with_reducible refine gate_dst (N := 5) rfl ?_); refine box_event ?hg (N := 5) ?hd (cs := #[.int .i64 0, .int .i64 0, .int .i64 0, .int .i64 0, .int .i64 0, .int .i64 0]) (t := 45) ?hr ?_; (case hd => rfl); (case hg => rfl); (case hr => first | (go_simp; done) | (go_simp; rfl)); intro gb196 hg w12 hbox hb; have n0_ := Aside0.mk (Kd.R_below (by (with_reducible repeat (first | apply Kd.R_alloc | apply Kd.R_drewN | apply Kd.R_drew)); exact HO_3.out) hb); have n1_ := Aside0.mk (below_step (by repeat (first | (with_reducible first | exact HB.out | apply below_alloc | apply pw_below_drewN | apply below_drew1) | exact HB.out)) hb); have n2_ := Aside0.mk (hbox); have n3_ := Aside0.mk ((by rw [hg]; exact (below_size (by repeat (first | (with_reducible first | exact HB.out | apply below_alloc | apply pw_below_drewN | apply below_drew1) | exact HB.out))) : w.heap.size ≤ gb196)); have n4_ := Aside0.mk ((by rw [hg]; exact (below_size (by repeat (first | (with_reducible first | exact HB.out | apply below_alloc | apply pw_below_drewN | apply below_drew1) | exact HB.out))) : w.heap.size ≤ gb196)); clear HO_3; clear HB; have HO_3 := n0_; have HB := n1_; have BK196 := n2_; have GW196 := n3_; have GE196 := n4_; clear n0_ n1_ n2_ n3_ n4_; clear hb hbox hg; have hcz13_0 : w12.cell? ⟨gb196, 0, none⟩ = some (.int .i64 0) := (blk_cell BK196.out 0).trans rfl; have hcz13_1 : w12.cell? ⟨gb196, 1, none⟩ = some (.int .i64 0) := (blk_cell BK196.out 1).trans rfl; have hcz13_2 : w12.cell? ⟨gb196, 2, none⟩ = some (.int .i64 0) := (blk_cell BK196.out 2).trans rfl; have hcz13_3 : w12.cell? ⟨gb196, 3, none⟩ = some (.int .i64 0) := (blk_cell BK196.out 3).trans rfl; have hcz13_4 : w12.cell? ⟨gb196, 4, none⟩ = some (.int .i64 0) := (blk_cell BK196.out 4).trans rfl; have hcz13_5 : w12.cell? ⟨gb196, 5, none⟩ = some (.int .i64 0) := (blk_cell BK196.out 5).trans rfl; have hfz13_0 := blk_frozen BK196.out 0; have hfz13_1 := blk_frozen BK196.out 1; have hfz13_2 := blk_frozen BK196.out 2; have hfz13_3 := blk_frozen BK196.out 3; have hfz13_4 := blk_frozen BK196.out 4; have hfz13_5 := blk_frozen BK196.out 5))
   (try simp only [Act.put, List.setIfInBounds_toArray, List.set_cons_zero, List.set_cons_succ])
   go_cut [46] (fun v46 wc => ∃ (kq : Nat) (x46_10 : Bool), v46 = .bool x46_10 ∧ Aside0 (impl_isHoseLine.j1 kq l0 x3_1 l0 (l0.length : Int) x17_1 x46_10 ((rd_T45 l0 x17_1).f0) ((rd_T45 l0 x17_1).f1.f0) ((rd_T45 l0 x17_1).f1.f1) ((rd_T45 l0 x17_1).f2) ((rd_T45 l0 x17_1).f3) ((rd_T45 l0 x17_1).f4) = some r) ∧ Aside0 (kq ≤ k1) ∧ Aside0 (Kd.R Kd.bool 4 wc w.heap.size (fun _ => True) v193 x3_1) ∧ Aside0 (wc.heap[gb196]? = some (.cells #[.int .i64 ((rd_T45 l0 x17_1).f0), .int .i64 ((rd_T45 l0 x17_1).f1.f0), .int .i64 ((rd_T45 l0 x17_1).f1.f1), .int .i64 ((rd_T45 l0 x17_1).f2), .int .i64 ((rd_T45 l0 x17_1).f3), .int .i64 ((rd_T45 l0 x17_1).f4)] 45 (0, 0))) ∧ Aside0 (Below w.heap.size w wc))
   case first =>
    have H := HC11.out
    clear HC11
    replace H := Option.bind_eq_some_iff.mp H
    obtain ⟨t197, A140, H⟩ := H
    replace H : (if t197 = true then ((impl_inside.f ((rd_T45 l0 x17_1).f0) (-1) (wrap64 (x17_1 - 1))).bind fun t198 => (if t198 = true then (if ((rd_T45 l0 x17_1).f0) ≥ 0 then (if 0 ≤ ((rd_T45 l0 x17_1).f0) then (if ((rd_T45 l0 x17_1).f0) < (l0.length : Int) then (impl_isHoseLine.j1 k1 l0 x3_1 l0 (l0.length : Int) x17_1 (decide (((rd_T45 l0 ((rd_T45 l0 x17_1).f0)).f3) > 0)) ((rd_T45 l0 x17_1).f0) ((rd_T45 l0 x17_1).f1.f0) ((rd_T45 l0 x17_1).f1.f1) ((rd_T45 l0 x17_1).f2) ((rd_T45 l0 x17_1).f3) ((rd_T45 l0 x17_1).f4)) else (none)) else (none)) else (impl_isHoseLine.j1 k1 l0 x3_1 l0 (l0.length : Int) x17_1 false ((rd_T45 l0 x17_1).f0) ((rd_T45 l0 x17_1).f1.f0) ((rd_T45 l0 x17_1).f1.f1) ((rd_T45 l0 x17_1).f2) ((rd_T45 l0 x17_1).f3) ((rd_T45 l0 x17_1).f4))) else (impl_isHoseLine.j1 k1 l0 x3_1 l0 (l0.length : Int) x17_1 true ((rd_T45 l0 x17_1).f0) ((rd_T45 l0 x17_1).f1.f0) ((rd_T45 l0 x17_1).f1.f1) ((rd_T45 l0 x17_1).f2) ((rd_T45 l0 x17_1).f3) ((rd_T45 l0 x17_1).f4)))) else (impl_isHoseLine.j1 k1 l0 x3_1 l0 (l0.length : Int) x17_1 true ((rd_T45 l0 x17_1).f0) ((rd_T45 l0 x17_1).f1.f0) ((rd_T45 l0 x17_1).f1.f1) ((rd_T45 l0 x17_1).f2) ((rd_T45 l0 x17_1).f3) ((rd_T45 l0 x17_1).f4))) = some r := H
    have A14 := Aside0.mk A140
    clear A140
    by_cases c15 : t197 = true
    case neg =>
     replace c15 := Bool.eq_false_iff.mpr c15
     subst c15
     have H1 : (impl_isHoseLine.j1 k1 l0 x3_1 l0 (l0.length : Int) x17_1 true ((rd_T45 l0 x17_1).f0) ((rd_T45 l0 x17_1).f1.f0) ((rd_T45 l0 x17_1).f1.f1) ((rd_T45 l0 x17_1).f2) ((rd_T45 l0 x17_1).f3) ((rd_T45 l0 x17_1).f4)) = some r := by rw [if_neg (show ¬ (false = true) by decide)] at H; exact H
     clear H
     have H := H1
     clear H1
     have H' := Aside0.mk H
     clear H
     have hcz30_0 : w12.cell? ⟨gb196, 0, none⟩ = some (.int .i64 0) := (blk_cell BK196.out 0).trans rfl
     have hcz30_1 : w12.cell? ⟨gb196, 1, none⟩ = some (.int .i64 0) := (blk_cell BK196.out 1).trans rfl
     have hcz30_2 : w12.cell? ⟨gb196, 2, none⟩ = some (.int .i64 0) := (blk_cell BK196.out 2).trans rfl
     have hcz30_3 : w12.cell? ⟨gb196, 3, none⟩ = some (.int .i64 0) := (blk_cell BK196.out 3).trans rfl
     have hcz30_4 : w12.cell? ⟨gb196, 4, none⟩ = some (.int .i64 0) := (blk_cell BK196.out 4).trans rfl
     have hcz30_5 : w12.cell? ⟨gb196, 5, none⟩ = some (.int .i64 0) := (blk_cell BK196.out 5).trans rfl
     have hfz30_0 := blk_frozen BK196.out 0
     have hfz30_1 := blk_frozen BK196.out 1
     have hfz30_2 := blk_frozen BK196.out 2
     have hfz30_3 := blk_frozen BK196.out 3
     have hfz30_4 := blk_frozen BK196.out 4
     have hfz30_5 := blk_frozen BK196.out 5
     go_wp2_with (first | ((with_reducible refine gate_callee (f := 76) rfl ?_); refine goesL_ (some 23) rfl rfl Try.func76 (by kernel_rfl) rfl #[.agg #[.int .i64 ((rd_T45 l0 x17_1).f0), .int .i64 ((rd_T45 l0 x17_1).f1.f0), .int .i64 ((rd_T45 l0 x17_1).f1.f1), .int .i64 ((rd_T45 l0 x17_1).f2), .int .i64 ((rd_T45 l0 x17_1).f3), .int .i64 ((rd_T45 l0 x17_1).f4)]] rfl (by (try simp only [List.map_toArray, List.map_cons, List.map_nil]); first | done | rfl | (simp only [List.length_drop, List.length_take]; rfl)) ?_; (with_reducible refine (impl_isLinePart.calls k1 ((rd_T45 l0 x17_1).f0) ((rd_T45 l0 x17_1).f1.f0) ((rd_T45 l0 x17_1).f1.f1) ((rd_T45 l0 x17_1).f2) ((rd_T45 l0 x17_1).f3) ((rd_T45 l0 x17_1).f4) false _ A14.out).mono ?_); rintro e w31 ⟨rfl, hb⟩; refine ⟨_, rfl, ?_⟩; have n0_ := Aside0.mk (Kd.R_below (by (with_reducible repeat (first | apply Kd.R_alloc | apply Kd.R_drewN | apply Kd.R_drew)); exact (Kd.R_mono (Kd.R_far (p := ⟨gb196, 5, none⟩) (Kd.R_far (p := ⟨gb196, 4, none⟩) (Kd.R_far (p := ⟨gb196, 3, none⟩) (Kd.R_far (p := ⟨gb196, 2, none⟩) (Kd.R_far (p := ⟨gb196, 1, none⟩) (Kd.R_far (p := ⟨gb196, 0, none⟩) (Kd.R_types HO_3.out BK196.out (by decide)) (fun _ hk => hk.2) (.int .i64 ((rd_T45 l0 x17_1).f0))) (fun _ hk => hk.2) (.int .i64 ((rd_T45 l0 x17_1).f1.f0))) (fun _ hk => hk.2) (.int .i64 ((rd_T45 l0 x17_1).f1.f1))) (fun _ hk => hk.2) (.int .i64 ((rd_T45 l0 x17_1).f2))) (fun _ hk => hk.2) (.int .i64 ((rd_T45 l0 x17_1).f3))) (fun _ hk => hk.2) (.int .i64 ((rd_T45 l0 x17_1).f4))) (fun _ h_ => h_.1))) hb); have n1_ := Aside0.mk (blk_below (g := gb196) (o := .cells #[.int .i64 ((rd_T45 l0 x17_1).f0), .int .i64 ((rd_T45 l0 x17_1).f1.f0), .int .i64 ((rd_T45 l0 x17_1).f1.f1), .int .i64 ((rd_T45 l0 x17_1).f2), .int .i64 ((rd_T45 l0 x17_1).f3), .int .i64 ((rd_T45 l0 x17_1).f4)] 45 (0, 0)) (by (with_reducible repeat (first | refine blk_drewN ?_ _ | refine blk_drew ?_ | refine blk_alloc ?_ _)); refine blk_put (cs := #[.int .i64 ((rd_T45 l0 x17_1).f0), .int .i64 ((rd_T45 l0 x17_1).f1.f0), .int .i64 ((rd_T45 l0 x17_1).f1.f1), .int .i64 ((rd_T45 l0 x17_1).f2), .int .i64 ((rd_T45 l0 x17_1).f3), .int .i64 0]) ?_ 5 _ rfl; (with_reducible repeat (first | refine blk_drewN ?_ _ | refine blk_drew ?_ | refine blk_alloc ?_ _)); refine blk_put (cs := #[.int .i64 ((rd_T45 l0 x17_1).f0), .int .i64 ((rd_T45 l0 x17_1).f1.f0), .int .i64 ((rd_T45 l0 x17_1).f1.f1), .int .i64 ((rd_T45 l0 x17_1).f2), .int .i64 0, .int .i64 0]) ?_ 4 _ rfl; (with_reducible repeat (first | refine blk_drewN ?_ _ | refine blk_drew ?_ | refine blk_alloc ?_ _)); refine blk_put (cs := #[.int .i64 ((rd_T45 l0 x17_1).f0), .int .i64 ((rd_T45 l0 x17_1).f1.f0), .int .i64 ((rd_T45 l0 x17_1).f1.f1), .int .i64 0, .int .i64 0, .int .i64 0]) ?_ 3 _ rfl; (with_reducible repeat (first | refine blk_drewN ?_ _ | refine blk_drew ?_ | refine blk_alloc ?_ _)); refine blk_put (cs := #[.int .i64 ((rd_T45 l0 x17_1).f0), .int .i64 ((rd_T45 l0 x17_1).f1.f0), .int .i64 0, .int .i64 0, .int .i64 0, .int .i64 0]) ?_ 2 _ rfl; (with_reducible repeat (first | refine blk_drewN ?_ _ | refine blk_drew ?_ | refine blk_alloc ?_ _)); refine blk_put (cs := #[.int .i64 ((rd_T45 l0 x17_1).f0), .int .i64 0, .int .i64 0, .int .i64 0, .int .i64 0, .int .i64 0]) ?_ 1 _ rfl; (with_reducible repeat (first | refine blk_drewN ?_ _ | refine blk_drew ?_ | refine blk_alloc ?_ _)); refine blk_put (cs := #[.int .i64 0, .int .i64 0, .int .i64 0, .int .i64 0, .int .i64 0, .int .i64 0]) ?_ 0 _ rfl; (with_reducible repeat (first | refine blk_drewN ?_ _ | refine blk_drew ?_ | refine blk_alloc ?_ _)); exact BK196.out) hb); have n2_ := Aside0.mk (below_step (by repeat (first | (with_reducible first | exact HB.out | apply below_alloc | apply pw_below_drewN | apply below_drew1 | refine below_set ?_ GE196.out) | exact HB.out)) hb); clear HO_3; clear BK196; clear HB; have HO_3 := n0_; have BK196 := n1_; have HB := n2_; clear n0_ n1_ n2_; (try clear hb); (try clear hb2); (try clear hk); (try clear hi)))
     go_meet
     case rel => exact ⟨_, (true), (by first | rfl | (simp; done) | (simp [*]; done)), H', ⟨by have := HK1.out; first | omega | exact Nat.le_refl _⟩, ⟨by (with_reducible repeat (first | apply Kd.R_alloc | apply Kd.R_drewN | apply Kd.R_drew)); exact HO_3.out⟩, ⟨by (with_reducible repeat (first | refine blk_drewN ?_ _ | refine blk_drew ?_ | refine blk_alloc ?_ _)); exact BK196.out⟩, ⟨by repeat (first | (with_reducible first | exact HB.out | apply below_alloc | apply pw_below_drewN | apply below_drew1 | refine below_set ?_ GE196.out) | exact HB.out)⟩⟩
    subst c15
    have H1 : ((impl_inside.f ((rd_T45 l0 x17_1).f0) (-1) (wrap64 (x17_1 - 1))).bind fun t198 => (if t198 = true then (if ((rd_T45 l0 x17_1).f0) ≥ 0 then (if 0 ≤ ((rd_T45 l0 x17_1).f0) then (if ((rd_T45 l0 x17_1).f0) < (l0.length : Int) then (impl_isHoseLine.j1 k1 l0 x3_1 l0 (l0.length : Int) x17_1 (decide (((rd_T45 l0 ((rd_T45 l0 x17_1).f0)).f3) > 0)) ((rd_T45 l0 x17_1).f0) ((rd_T45 l0 x17_1).f1.f0) ((rd_T45 l0 x17_1).f1.f1) ((rd_T45 l0 x17_1).f2) ((rd_T45 l0 x17_1).f3) ((rd_T45 l0 x17_1).f4)) else (none)) else (none)) else (impl_isHoseLine.j1 k1 l0 x3_1 l0 (l0.length : Int) x17_1 false ((rd_T45 l0 x17_1).f0) ((rd_T45 l0 x17_1).f1.f0) ((rd_T45 l0 x17_1).f1.f1) ((rd_T45 l0 x17_1).f2) ((rd_T45 l0 x17_1).f3) ((rd_T45 l0 x17_1).f4))) else (impl_isHoseLine.j1 k1 l0 x3_1 l0 (l0.length : Int) x17_1 true ((rd_T45 l0 x17_1).f0) ((rd_T45 l0 x17_1).f1.f0) ((rd_T45 l0 x17_1).f1.f1) ((rd_T45 l0 x17_1).f2) ((rd_T45 l0 x17_1).f3) ((rd_T45 l0 x17_1).f4)))) = some r := by rw [if_pos rfl] at H; exact H
    clear H
    have H := H1
    clear H1
    replace H := Option.bind_eq_some_iff.mp H
    obtain ⟨t198, A160, H⟩ := H
    replace H : (if t198 = true then (if ((rd_T45 l0 x17_1).f0) ≥ 0 then (if 0 ≤ ((rd_T45 l0 x17_1).f0) then (if ((rd_T45 l0 x17_1).f0) < (l0.length : Int) then (impl_isHoseLine.j1 k1 l0 x3_1 l0 (l0.length : Int) x17_1 (decide (((rd_T45 l0 ((rd_T45 l0 x17_1).f0)).f3) > 0)) ((rd_T45 l0 x17_1).f0) ((rd_T45 l0 x17_1).f1.f0) ((rd_T45 l0 x17_1).f1.f1) ((rd_T45 l0 x17_1).f2) ((rd_T45 l0 x17_1).f3) ((rd_T45 l0 x17_1).f4)) else (none)) else (none)) else (impl_isHoseLine.j1 k1 l0 x3_1 l0 (l0.length : Int) x17_1 false ((rd_T45 l0 x17_1).f0) ((rd_T45 l0 x17_1).f1.f0) ((rd_T45 l0 x17_1).f1.f1) ((rd_T45 l0 x17_1).f2) ((rd_T45 l0 x17_1).f3) ((rd_T45 l0 x17_1).f4))) else (impl_isHoseLine.j1 k1 l0 x3_1 l0 (l0.length : Int) x17_1 true ((rd_T45 l0 x17_1).f0) ((rd_T45 l0 x17_1).f1.f0) ((rd_T45 l0 x17_1).f1.f1) ((rd_T45 l0 x17_1).f2) ((rd_T45 l0 x17_1).f3) ((rd_T45 l0 x17_1).f4))) = some r := H
    have A16 := Aside0.mk A160
    clear A160
    by_cases c17 : t198 = true
    case neg =>
     replace c17 := Bool.eq_false_iff.mpr c17
     subst c17
     have H1 : (impl_isHoseLine.j1 k1 l0 x3_1 l0 (l0.length : Int) x17_1 true ((rd_T45 l0 x17_1).f0) ((rd_T45 l0 x17_1).f1.f0) ((rd_T45 l0 x17_1).f1.f1) ((rd_T45 l0 x17_1).f2) ((rd_T45 l0 x17_1).f3) ((rd_T45 l0 x17_1).f4)) = some r := by rw [if_neg (show ¬ (false = true) by decide)] at H; exact H
     clear H
     have H := H1
     clear H1
     have H' := Aside0.mk H
     clear H
     have hcz27_0 : w12.cell? ⟨gb196, 0, none⟩ = some (.int .i64 0) := (blk_cell BK196.out 0).trans rfl
     have hcz27_1 : w12.cell? ⟨gb196, 1, none⟩ = some (.int .i64 0) := (blk_cell BK196.out 1).trans rfl
     have hcz27_2 : w12.cell? ⟨gb196, 2, none⟩ = some (.int .i64 0) := (blk_cell BK196.out 2).trans rfl
     have hcz27_3 : w12.cell? ⟨gb196, 3, none⟩ = some (.int .i64 0) := (blk_cell BK196.out 3).trans rfl
     have hcz27_4 : w12.cell? ⟨gb196, 4, none⟩ = some (.int .i64 0) := (blk_cell BK196.out 4).trans rfl
     have hcz27_5 : w12.cell? ⟨gb196, 5, none⟩ = some (.int .i64 0) := (blk_cell BK196.out 5).trans rfl
     have hfz27_0 := blk_frozen BK196.out 0
     have hfz27_1 := blk_frozen BK196.out 1
     have hfz27_2 := blk_frozen BK196.out 2
     have hfz27_3 := blk_frozen BK196.out 3
     have hfz27_4 := blk_frozen BK196.out 4
     have hfz27_5 := blk_frozen BK196.out 5
     go_wp2_with (first | ((with_reducible refine gate_callee (f := 76) rfl ?_); refine goesL_ (some 23) rfl rfl Try.func76 (by kernel_rfl) rfl #[.agg #[.int .i64 ((rd_T45 l0 x17_1).f0), .int .i64 ((rd_T45 l0 x17_1).f1.f0), .int .i64 ((rd_T45 l0 x17_1).f1.f1), .int .i64 ((rd_T45 l0 x17_1).f2), .int .i64 ((rd_T45 l0 x17_1).f3), .int .i64 ((rd_T45 l0 x17_1).f4)]] rfl (by (try simp only [List.map_toArray, List.map_cons, List.map_nil]); first | done | rfl | (simp only [List.length_drop, List.length_take]; rfl)) ?_; (with_reducible refine (impl_isLinePart.calls k1 ((rd_T45 l0 x17_1).f0) ((rd_T45 l0 x17_1).f1.f0) ((rd_T45 l0 x17_1).f1.f1) ((rd_T45 l0 x17_1).f2) ((rd_T45 l0 x17_1).f3) ((rd_T45 l0 x17_1).f4) true _ A14.out).mono ?_); rintro e w28 ⟨rfl, hb⟩; refine ⟨_, rfl, ?_⟩; have n0_ := Aside0.mk (Kd.R_below (by (with_reducible repeat (first | apply Kd.R_alloc | apply Kd.R_drewN | apply Kd.R_drew)); exact (Kd.R_mono (Kd.R_far (p := ⟨gb196, 5, none⟩) (Kd.R_far (p := ⟨gb196, 4, none⟩) (Kd.R_far (p := ⟨gb196, 3, none⟩) (Kd.R_far (p := ⟨gb196, 2, none⟩) (Kd.R_far (p := ⟨gb196, 1, none⟩) (Kd.R_far (p := ⟨gb196, 0, none⟩) (Kd.R_types HO_3.out BK196.out (by decide)) (fun _ hk => hk.2) (.int .i64 ((rd_T45 l0 x17_1).f0))) (fun _ hk => hk.2) (.int .i64 ((rd_T45 l0 x17_1).f1.f0))) (fun _ hk => hk.2) (.int .i64 ((rd_T45 l0 x17_1).f1.f1))) (fun _ hk => hk.2) (.int .i64 ((rd_T45 l0 x17_1).f2))) (fun _ hk => hk.2) (.int .i64 ((rd_T45 l0 x17_1).f3))) (fun _ hk => hk.2) (.int .i64 ((rd_T45 l0 x17_1).f4))) (fun _ h_ => h_.1))) hb); have n1_ := Aside0.mk (blk_below (g := gb196) (o := .cells #[.int .i64 ((rd_T45 l0 x17_1).f0), .int .i64 ((rd_T45 l0 x17_1).f1.f0), .int .i64 ((rd_T45 l0 x17_1).f1.f1), .int .i64 ((rd_T45 l0 x17_1).f2), .int .i64 ((rd_T45 l0 x17_1).f3), .int .i64 ((rd_T45 l0 x17_1).f4)] 45 (0, 0)) (by (with_reducible repeat (first | refine blk_drewN ?_ _ | refine blk_drew ?_ | refine blk_alloc ?_ _)); refine blk_put (cs := #[.int .i64 ((rd_T45 l0 x17_1).f0), .int .i64 ((rd_T45 l0 x17_1).f1.f0), .int .i64 ((rd_T45 l0 x17_1).f1.f1), .int .i64 ((rd_T45 l0 x17_1).f2), .int .i64 ((rd_T45 l0 x17_1).f3), .int .i64 0]) ?_ 5 _ rfl; (with_reducible repeat (first | refine blk_drewN ?_ _ | refine blk_drew ?_ | refine blk_alloc ?_ _)); refine blk_put (cs := #[.int .i64 ((rd_T45 l0 x17_1).f0), .int .i64 ((rd_T45 l0 x17_1).f1.f0), .int .i64 ((rd_T45 l0 x17_1).f1.f1), .int .i64 ((rd_T45 l0 x17_1).f2), .int .i64 0, .int .i64 0]) ?_ 4 _ rfl; (with_reducible repeat (first | refine blk_drewN ?_ _ | refine blk_drew ?_ | refine blk_alloc ?_ _)); refine blk_put (cs := #[.int .i64 ((rd_T45 l0 x17_1).f0), .int .i64 ((rd_T45 l0 x17_1).f1.f0), .int .i64 ((rd_T45 l0 x17_1).f1.f1), .int .i64 0, .int .i64 0, .int .i64 0]) ?_ 3 _ rfl; (with_reducible repeat (first | refine blk_drewN ?_ _ | refine blk_drew ?_ | refine blk_alloc ?_ _)); refine blk_put (cs := #[.int .i64 ((rd_T45 l0 x17_1).f0), .int .i64 ((rd_T45 l0 x17_1).f1.f0), .int .i64 0, .int .i64 0, .int .i64 0, .int .i64 0]) ?_ 2 _ rfl; (with_reducible repeat (first | refine blk_drewN ?_ _ | refine blk_drew ?_ | refine blk_alloc ?_ _)); refine blk_put (cs := #[.int .i64 ((rd_T45 l0 x17_1).f0), .int .i64 0, .int .i64 0, .int .i64 0, .int .i64 0, .int .i64 0]) ?_ 1 _ rfl; (with_reducible repeat (first | refine blk_drewN ?_ _ | refine blk_drew ?_ | refine blk_alloc ?_ _)); refine blk_put (cs := #[.int .i64 0, .int .i64 0, .int .i64 0, .int .i64 0, .int .i64 0, .int .i64 0]) ?_ 0 _ rfl; (with_reducible repeat (first | refine blk_drewN ?_ _ | refine blk_drew ?_ | refine blk_alloc ?_ _)); exact BK196.out) hb); have n2_ := Aside0.mk (below_step (by repeat (first | (with_reducible first | exact HB.out | apply below_alloc | apply pw_below_drewN | apply below_drew1 | refine below_set ?_ GE196.out) | exact HB.out)) hb); clear HO_3; clear BK196; clear HB; have HO_3 := n0_; have BK196 := n1_; have HB := n2_; clear n0_ n1_ n2_; (try clear hb); (try clear hb2); (try clear hk); (try clear hi); have hcz29_0 : w28.cell? ⟨gb196, 0, none⟩ = some (.int .i64 ((rd_T45 l0 x17_1).f0)) := (blk_cell BK196.out 0).trans rfl; have hcz29_1 : w28.cell? ⟨gb196, 1, none⟩ = some (.int .i64 ((rd_T45 l0 x17_1).f1.f0)) := (blk_cell BK196.out 1).trans rfl; have hcz29_2 : w28.cell? ⟨gb196, 2, none⟩ = some (.int .i64 ((rd_T45 l0 x17_1).f1.f1)) := (blk_cell BK196.out 2).trans rfl; have hcz29_3 : w28.cell? ⟨gb196, 3, none⟩ = some (.int .i64 ((rd_T45 l0 x17_1).f2)) := (blk_cell BK196.out 3).trans rfl; have hcz29_4 : w28.cell? ⟨gb196, 4, none⟩ = some (.int .i64 ((rd_T45 l0 x17_1).f3)) := (blk_cell BK196.out 4).trans rfl; have hcz29_5 : w28.cell? ⟨gb196, 5, none⟩ = some (.int .i64 ((rd_T45 l0 x17_1).f4)) := (blk_cell BK196.out 5).trans rfl; have hfz29_0 := blk_frozen BK196.out 0; have hfz29_1 := blk_frozen BK196.out 1; have hfz29_2 := blk_frozen BK196.out 2; have hfz29_3 := blk_frozen BK196.out 3; have hfz29_4 := blk_frozen BK196.out 4; have hfz29_5 := blk_frozen BK196.out 5) | (go_at_call 68; (with_reducible refine (impl_inside.calls ((rd_T45 l0 x17_1).f0) (-1) (wrap64 (x17_1 - 1)) false _ A16.out).mono ?_); rintro e w' ⟨rfl, ⟨nd, rfl⟩⟩))
     go_meet
     case rel => exact ⟨_, (true), (by first | rfl | (simp; done) | (simp [*]; done)), H', ⟨by have := HK1.out; first | omega | exact Nat.le_refl _⟩, ⟨by (with_reducible repeat (first | apply Kd.R_alloc | apply Kd.R_drewN | apply Kd.R_drew)); exact HO_3.out⟩, ⟨by (with_reducible repeat (first | refine blk_drewN ?_ _ | refine blk_drew ?_ | refine blk_alloc ?_ _)); exact BK196.out⟩, ⟨by repeat (first | (with_reducible first | exact HB.out | apply below_alloc | apply pw_below_drewN | apply below_drew1 | refine below_set ?_ GE196.out) | exact HB.out)⟩⟩
    subst c17
    have H1 : (if ((rd_T45 l0 x17_1).f0) ≥ 0 then (if 0 ≤ ((rd_T45 l0 x17_1).f0) then (if ((rd_T45 l0 x17_1).f0) < (l0.length : Int) then (impl_isHoseLine.j1 k1 l0 x3_1 l0 (l0.length : Int) x17_1 (decide (((rd_T45 l0 ((rd_T45 l0 x17_1).f0)).f3) > 0)) ((rd_T45 l0 x17_1).f0) ((rd_T45 l0 x17_1).f1.f0) ((rd_T45 l0 x17_1).f1.f1) ((rd_T45 l0 x17_1).f2) ((rd_T45 l0 x17_1).f3) ((rd_T45 l0 x17_1).f4)) else (none)) else (none)) else (impl_isHoseLine.j1 k1 l0 x3_1 l0 (l0.length : Int) x17_1 false ((rd_T45 l0 x17_1).f0) ((rd_T45 l0 x17_1).f1.f0) ((rd_T45 l0 x17_1).f1.f1) ((rd_T45 l0 x17_1).f2) ((rd_T45 l0 x17_1).f3) ((rd_T45 l0 x17_1).f4))) = some r := by rw [if_pos rfl] at H; exact H
    clear H
    have H := H1
    clear H1
    by_cases c18 : ((rd_T45 l0 x17_1).f0) ≥ 0
    case neg =>
     rw [if_neg c18] at H
     have c18b0 : decide (0 ≤ ((rd_T45 l0 x17_1).f0)) = false := decide_eq_false c18
     clear c18
     (first | rw [c18b0] | (simp only [i64_w, i32_w]; rw [c18b0]) | skip)
     have H' := Aside0.mk H
     clear H
     have hcz24_0 : w12.cell? ⟨gb196, 0, none⟩ = some (.int .i64 0) := (blk_cell BK196.out 0).trans rfl
     have hcz24_1 : w12.cell? ⟨gb196, 1, none⟩ = some (.int .i64 0) := (blk_cell BK196.out 1).trans rfl
     have hcz24_2 : w12.cell? ⟨gb196, 2, none⟩ = some (.int .i64 0) := (blk_cell BK196.out 2).trans rfl
     have hcz24_3 : w12.cell? ⟨gb196, 3, none⟩ = some (.int .i64 0) := (blk_cell BK196.out 3).trans rfl
     have hcz24_4 : w12.cell? ⟨gb196, 4, none⟩ = some (.int .i64 0) := (blk_cell BK196.out 4).trans rfl
     have hcz24_5 : w12.cell? ⟨gb196, 5, none⟩ = some (.int .i64 0) := (blk_cell BK196.out 5).trans rfl
     have hfz24_0 := blk_frozen BK196.out 0
     have hfz24_1 := blk_frozen BK196.out 1
     have hfz24_2 := blk_frozen BK196.out 2
     have hfz24_3 := blk_frozen BK196.out 3
     have hfz24_4 := blk_frozen BK196.out 4
     have hfz24_5 := blk_frozen BK196.out 5
     go_wp2_with (first | ((with_reducible refine gate_callee (f := 76) rfl ?_); refine goesL_ (some 23) rfl rfl Try.func76 (by kernel_rfl) rfl #[.agg #[.int .i64 ((rd_T45 l0 x17_1).f0), .int .i64 ((rd_T45 l0 x17_1).f1.f0), .int .i64 ((rd_T45 l0 x17_1).f1.f1), .int .i64 ((rd_T45 l0 x17_1).f2), .int .i64 ((rd_T45 l0 x17_1).f3), .int .i64 ((rd_T45 l0 x17_1).f4)]] rfl (by (try simp only [List.map_toArray, List.map_cons, List.map_nil]); first | done | rfl | (simp only [List.length_drop, List.length_take]; rfl)) ?_; (with_reducible refine (impl_isLinePart.calls k1 ((rd_T45 l0 x17_1).f0) ((rd_T45 l0 x17_1).f1.f0) ((rd_T45 l0 x17_1).f1.f1) ((rd_T45 l0 x17_1).f2) ((rd_T45 l0 x17_1).f3) ((rd_T45 l0 x17_1).f4) true _ A14.out).mono ?_); rintro e w25 ⟨rfl, hb⟩; refine ⟨_, rfl, ?_⟩; have n0_ := Aside0.mk (Kd.R_below (by (with_reducible repeat (first | apply Kd.R_alloc | apply Kd.R_drewN | apply Kd.R_drew)); exact (Kd.R_mono (Kd.R_far (p := ⟨gb196, 5, none⟩) (Kd.R_far (p := ⟨gb196, 4, none⟩) (Kd.R_far (p := ⟨gb196, 3, none⟩) (Kd.R_far (p := ⟨gb196, 2, none⟩) (Kd.R_far (p := ⟨gb196, 1, none⟩) (Kd.R_far (p := ⟨gb196, 0, none⟩) (Kd.R_types HO_3.out BK196.out (by decide)) (fun _ hk => hk.2) (.int .i64 ((rd_T45 l0 x17_1).f0))) (fun _ hk => hk.2) (.int .i64 ((rd_T45 l0 x17_1).f1.f0))) (fun _ hk => hk.2) (.int .i64 ((rd_T45 l0 x17_1).f1.f1))) (fun _ hk => hk.2) (.int .i64 ((rd_T45 l0 x17_1).f2))) (fun _ hk => hk.2) (.int .i64 ((rd_T45 l0 x17_1).f3))) (fun _ hk => hk.2) (.int .i64 ((rd_T45 l0 x17_1).f4))) (fun _ h_ => h_.1))) hb); have n1_ := Aside0.mk (blk_below (g := gb196) (o := .cells #[.int .i64 ((rd_T45 l0 x17_1).f0), .int .i64 ((rd_T45 l0 x17_1).f1.f0), .int .i64 ((rd_T45 l0 x17_1).f1.f1), .int .i64 ((rd_T45 l0 x17_1).f2), .int .i64 ((rd_T45 l0 x17_1).f3), .int .i64 ((rd_T45 l0 x17_1).f4)] 45 (0, 0)) (by (with_reducible repeat (first | refine blk_drewN ?_ _ | refine blk_drew ?_ | refine blk_alloc ?_ _)); refine blk_put (cs := #[.int .i64 ((rd_T45 l0 x17_1).f0), .int .i64 ((rd_T45 l0 x17_1).f1.f0), .int .i64 ((rd_T45 l0 x17_1).f1.f1), .int .i64 ((rd_T45 l0 x17_1).f2), .int .i64 ((rd_T45 l0 x17_1).f3), .int .i64 0]) ?_ 5 _ rfl; (with_reducible repeat (first | refine blk_drewN ?_ _ | refine blk_drew ?_ | refine blk_alloc ?_ _)); refine blk_put (cs := #[.int .i64 ((rd_T45 l0 x17_1).f0), .int .i64 ((rd_T45 l0 x17_1).f1.f0), .int .i64 ((rd_T45 l0 x17_1).f1.f1), .int .i64 ((rd_T45 l0 x17_1).f2), .int .i64 0, .int .i64 0]) ?_ 4 _ rfl; (with_reducible repeat (first | refine blk_drewN ?_ _ | refine blk_drew ?_ | refine blk_alloc ?_ _)); refine blk_put (cs := #[.int .i64 ((rd_T45 l0 x17_1).f0), .int .i64 ((rd_T45 l0 x17_1).f1.f0), .int .i64 ((rd_T45 l0 x17_1).f1.f1), .int .i64 0, .int .i64 0, .int .i64 0]) ?_ 3 _ rfl; (with_reducible repeat (first | refine blk_drewN ?_ _ | refine blk_drew ?_ | refine blk_alloc ?_ _)); refine blk_put (cs := #[.int .i64 ((rd_T45 l0 x17_1).f0), .int .i64 ((rd_T45 l0 x17_1).f1.f0), .int .i64 0, .int .i64 0, .int .i64 0, .int .i64 0]) ?_ 2 _ rfl; (with_reducible repeat (first | refine blk_drewN ?_ _ | refine blk_drew ?_ | refine blk_alloc ?_ _)); refine blk_put (cs := #[.int .i64 ((rd_T45 l0 x17_1).f0), .int .i64 0, .int .i64 0, .int .i64 0, .int .i64 0, .int .i64 0]) ?_ 1 _ rfl; (with_reducible repeat (first | refine blk_drewN ?_ _ | refine blk_drew ?_ | refine blk_alloc ?_ _)); refine blk_put (cs := #[.int .i64 0, .int .i64 0, .int .i64 0, .int .i64 0, .int .i64 0, .int .i64 0]) ?_ 0 _ rfl; (with_reducible repeat (first | refine blk_drewN ?_ _ | refine blk_drew ?_ | refine blk_alloc ?_ _)); exact BK196.out) hb); have n2_ := Aside0.mk (below_step (by repeat (first | (with_reducible first | exact HB.out | apply below_alloc | apply pw_below_drewN | apply below_drew1 | refine below_set ?_ GE196.out) | exact HB.out)) hb); clear HO_3; clear BK196; clear HB; have HO_3 := n0_; have BK196 := n1_; have HB := n2_; clear n0_ n1_ n2_; (try clear hb); (try clear hb2); (try clear hk); (try clear hi); have hcz26_0 : w25.cell? ⟨gb196, 0, none⟩ = some (.int .i64 ((rd_T45 l0 x17_1).f0)) := (blk_cell BK196.out 0).trans rfl; have hcz26_1 : w25.cell? ⟨gb196, 1, none⟩ = some (.int .i64 ((rd_T45 l0 x17_1).f1.f0)) := (blk_cell BK196.out 1).trans rfl; have hcz26_2 : w25.cell? ⟨gb196, 2, none⟩ = some (.int .i64 ((rd_T45 l0 x17_1).f1.f1)) := (blk_cell BK196.out 2).trans rfl; have hcz26_3 : w25.cell? ⟨gb196, 3, none⟩ = some (.int .i64 ((rd_T45 l0 x17_1).f2)) := (blk_cell BK196.out 3).trans rfl; have hcz26_4 : w25.cell? ⟨gb196, 4, none⟩ = some (.int .i64 ((rd_T45 l0 x17_1).f3)) := (blk_cell BK196.out 4).trans rfl; have hcz26_5 : w25.cell? ⟨gb196, 5, none⟩ = some (.int .i64 ((rd_T45 l0 x17_1).f4)) := (blk_cell BK196.out 5).trans rfl; have hfz26_0 := blk_frozen BK196.out 0; have hfz26_1 := blk_frozen BK196.out 1; have hfz26_2 := blk_frozen BK196.out 2; have hfz26_3 := blk_frozen BK196.out 3; have hfz26_4 := blk_frozen BK196.out 4; have hfz26_5 := blk_frozen BK196.out 5) | (go_at_call 68; (with_reducible refine (impl_inside.calls ((rd_T45 l0 x17_1).f0) (-1) (wrap64 (x17_1 - 1)) true _ A16.out).mono ?_); rintro e w' ⟨rfl, ⟨nd, rfl⟩⟩))
     go_meet
     case rel => exact ⟨_, (false), (by first | rfl | (simp; done) | (simp [*]; done)), H', ⟨by have := HK1.out; first | omega | exact Nat.le_refl _⟩, ⟨by (with_reducible repeat (first | apply Kd.R_alloc | apply Kd.R_drewN | apply Kd.R_drew)); exact HO_3.out⟩, ⟨by (with_reducible repeat (first | refine blk_drewN ?_ _ | refine blk_drew ?_ | refine blk_alloc ?_ _)); exact BK196.out⟩, ⟨by repeat (first | (with_reducible first | exact HB.out | apply below_alloc | apply pw_below_drewN | apply below_drew1 | refine below_set ?_ GE196.out) | exact HB.out)⟩⟩
    rw [if_pos c18] at H
    have c18b0 : decide (0 ≤ ((rd_T45 l0 x17_1).f0)) = true := decide_eq_true c18
    clear c18
    (first | rw [c18b0] | (simp only [i64_w, i32_w]; rw [c18b0]) | skip)
    by_cases c19 : 0 ≤ ((rd_T45 l0 x17_1).f0)
    case neg =>
     rw [if_neg c19] at H
     exact absurd H (by simp)
    rw [if_pos c19] at H
    have c19b0 : decide (0 ≤ ((rd_T45 l0 x17_1).f0)) = true := decide_eq_true c19
    clear c19
    by_cases c20 : ((rd_T45 l0 x17_1).f0) < (l0.length : Int)
    case neg =>
     rw [if_neg c20] at H
     exact absurd H (by simp)
    rw [if_pos c20] at H
    have c20b0 : decide (((rd_T45 l0 x17_1).f0) < (l0.length : Int)) = true := decide_eq_true c20
    clear c20
    have H' := Aside0.mk H
    clear H
    have hcz21_0 : w12.cell? ⟨gb196, 0, none⟩ = some (.int .i64 0) := (blk_cell BK196.out 0).trans rfl
    have hcz21_1 : w12.cell? ⟨gb196, 1, none⟩ = some (.int .i64 0) := (blk_cell BK196.out 1).trans rfl
    have hcz21_2 : w12.cell? ⟨gb196, 2, none⟩ = some (.int .i64 0) := (blk_cell BK196.out 2).trans rfl
    have hcz21_3 : w12.cell? ⟨gb196, 3, none⟩ = some (.int .i64 0) := (blk_cell BK196.out 3).trans rfl
    have hcz21_4 : w12.cell? ⟨gb196, 4, none⟩ = some (.int .i64 0) := (blk_cell BK196.out 4).trans rfl
    have hcz21_5 : w12.cell? ⟨gb196, 5, none⟩ = some (.int .i64 0) := (blk_cell BK196.out 5).trans rfl
    have hfz21_0 := blk_frozen BK196.out 0
    have hfz21_1 := blk_frozen BK196.out 1
    have hfz21_2 := blk_frozen BK196.out 2
    have hfz21_3 := blk_frozen BK196.out 3
    have hfz21_4 := blk_frozen BK196.out 4
    have hfz21_5 := blk_frozen BK196.out 5
    go_wp2_with (first | ((with_reducible refine gate_callee (f := 76) rfl ?_); refine goesL_ (some 23) rfl rfl Try.func76 (by kernel_rfl) rfl #[.agg #[.int .i64 ((rd_T45 l0 x17_1).f0), .int .i64 ((rd_T45 l0 x17_1).f1.f0), .int .i64 ((rd_T45 l0 x17_1).f1.f1), .int .i64 ((rd_T45 l0 x17_1).f2), .int .i64 ((rd_T45 l0 x17_1).f3), .int .i64 ((rd_T45 l0 x17_1).f4)]] rfl (by (try simp only [List.map_toArray, List.map_cons, List.map_nil]); first | done | rfl | (simp only [List.length_drop, List.length_take]; rfl)) ?_; (with_reducible refine (impl_isLinePart.calls k1 ((rd_T45 l0 x17_1).f0) ((rd_T45 l0 x17_1).f1.f0) ((rd_T45 l0 x17_1).f1.f1) ((rd_T45 l0 x17_1).f2) ((rd_T45 l0 x17_1).f3) ((rd_T45 l0 x17_1).f4) true _ A14.out).mono ?_); rintro e w22 ⟨rfl, hb⟩; refine ⟨_, rfl, ?_⟩; have n0_ := Aside0.mk (Kd.R_below (by (with_reducible repeat (first | apply Kd.R_alloc | apply Kd.R_drewN | apply Kd.R_drew)); exact (Kd.R_mono (Kd.R_far (p := ⟨gb196, 5, none⟩) (Kd.R_far (p := ⟨gb196, 4, none⟩) (Kd.R_far (p := ⟨gb196, 3, none⟩) (Kd.R_far (p := ⟨gb196, 2, none⟩) (Kd.R_far (p := ⟨gb196, 1, none⟩) (Kd.R_far (p := ⟨gb196, 0, none⟩) (Kd.R_types HO_3.out BK196.out (by decide)) (fun _ hk => hk.2) (.int .i64 ((rd_T45 l0 x17_1).f0))) (fun _ hk => hk.2) (.int .i64 ((rd_T45 l0 x17_1).f1.f0))) (fun _ hk => hk.2) (.int .i64 ((rd_T45 l0 x17_1).f1.f1))) (fun _ hk => hk.2) (.int .i64 ((rd_T45 l0 x17_1).f2))) (fun _ hk => hk.2) (.int .i64 ((rd_T45 l0 x17_1).f3))) (fun _ hk => hk.2) (.int .i64 ((rd_T45 l0 x17_1).f4))) (fun _ h_ => h_.1))) hb); have n1_ := Aside0.mk (blk_below (g := gb196) (o := .cells #[.int .i64 ((rd_T45 l0 x17_1).f0), .int .i64 ((rd_T45 l0 x17_1).f1.f0), .int .i64 ((rd_T45 l0 x17_1).f1.f1), .int .i64 ((rd_T45 l0 x17_1).f2), .int .i64 ((rd_T45 l0 x17_1).f3), .int .i64 ((rd_T45 l0 x17_1).f4)] 45 (0, 0)) (by (with_reducible repeat (first | refine blk_drewN ?_ _ | refine blk_drew ?_ | refine blk_alloc ?_ _)); refine blk_put (cs := #[.int .i64 ((rd_T45 l0 x17_1).f0), .int .i64 ((rd_T45 l0 x17_1).f1.f0), .int .i64 ((rd_T45 l0 x17_1).f1.f1), .int .i64 ((rd_T45 l0 x17_1).f2), .int .i64 ((rd_T45 l0 x17_1).f3), .int .i64 0]) ?_ 5 _ rfl; (with_reducible repeat (first | refine blk_drewN ?_ _ | refine blk_drew ?_ | refine blk_alloc ?_ _)); refine blk_put (cs := #[.int .i64 ((rd_T45 l0 x17_1).f0), .int .i64 ((rd_T45 l0 x17_1).f1.f0), .int .i64 ((rd_T45 l0 x17_1).f1.f1), .int .i64 ((rd_T45 l0 x17_1).f2), .int .i64 0, .int .i64 0]) ?_ 4 _ rfl; (with_reducible repeat (first | refine blk_drewN ?_ _ | refine blk_drew ?_ | refine blk_alloc ?_ _)); refine blk_put (cs := #[.int .i64 ((rd_T45 l0 x17_1).f0), .int .i64 ((rd_T45 l0 x17_1).f1.f0), .int .i64 ((rd_T45 l0 x17_1).f1.f1), .int .i64 0, .int .i64 0, .int .i64 0]) ?_ 3 _ rfl; (with_reducible repeat (first | refine blk_drewN ?_ _ | refine blk_drew ?_ | refine blk_alloc ?_ _)); refine blk_put (cs := #[.int .i64 ((rd_T45 l0 x17_1).f0), .int .i64 ((rd_T45 l0 x17_1).f1.f0), .int .i64 0, .int .i64 0, .int .i64 0, .int .i64 0]) ?_ 2 _ rfl; (with_reducible repeat (first | refine blk_drewN ?_ _ | refine blk_drew ?_ | refine blk_alloc ?_ _)); refine blk_put (cs := #[.int .i64 ((rd_T45 l0 x17_1).f0), .int .i64 0, .int .i64 0, .int .i64 0, .int .i64 0, .int .i64 0]) ?_ 1 _ rfl; (with_reducible repeat (first | refine blk_drewN ?_ _ | refine blk_drew ?_ | refine blk_alloc ?_ _)); refine blk_put (cs := #[.int .i64 0, .int .i64 0, .int .i64 0, .int .i64 0, .int .i64 0, .int .i64 0]) ?_ 0 _ rfl; (with_reducible repeat (first | refine blk_drewN ?_ _ | refine blk_drew ?_ | refine blk_alloc ?_ _)); exact BK196.out) hb); have n2_ := Aside0.mk (below_step (by repeat (first | (with_reducible first | exact HB.out | apply below_alloc | apply pw_below_drewN | apply below_drew1 | refine below_set ?_ GE196.out) | exact HB.out)) hb); clear HO_3; clear BK196; clear HB; have HO_3 := n0_; have BK196 := n1_; have HB := n2_; clear n0_ n1_ n2_; (try clear hb); (try clear hb2); (try clear hk); (try clear hi); have hcz23_0 : w22.cell? ⟨gb196, 0, none⟩ = some (.int .i64 ((rd_T45 l0 x17_1).f0)) := (blk_cell BK196.out 0).trans rfl; have hcz23_1 : w22.cell? ⟨gb196, 1, none⟩ = some (.int .i64 ((rd_T45 l0 x17_1).f1.f0)) := (blk_cell BK196.out 1).trans rfl; have hcz23_2 : w22.cell? ⟨gb196, 2, none⟩ = some (.int .i64 ((rd_T45 l0 x17_1).f1.f1)) := (blk_cell BK196.out 2).trans rfl; have hcz23_3 : w22.cell? ⟨gb196, 3, none⟩ = some (.int .i64 ((rd_T45 l0 x17_1).f2)) := (blk_cell BK196.out 3).trans rfl; have hcz23_4 : w22.cell? ⟨gb196, 4, none⟩ = some (.int .i64 ((rd_T45 l0 x17_1).f3)) := (blk_cell BK196.out 4).trans rfl; have hcz23_5 : w22.cell? ⟨gb196, 5, none⟩ = some (.int .i64 ((rd_T45 l0 x17_1).f4)) := (blk_cell BK196.out 5).trans rfl; have hfz23_0 := blk_frozen BK196.out 0; have hfz23_1 := blk_frozen BK196.out 1; have hfz23_2 := blk_frozen BK196.out 2; have hfz23_3 := blk_frozen BK196.out 3; have hfz23_4 := blk_frozen BK196.out 4; have hfz23_5 := blk_frozen BK196.out 5) | (go_at_call 68; (with_reducible refine (impl_inside.calls ((rd_T45 l0 x17_1).f0) (-1) (wrap64 (x17_1 - 1)) true _ A16.out).mono ?_); rintro e w' ⟨rfl, ⟨nd, rfl⟩⟩; have p199 : 0 ≤ (((rd_T45 l0 x17_1).f0) : Int) := of_decide_eq_true (by first | (with_reducible assumption) | assumption); have q199 : ((rd_T45 l0 x17_1).f0) < (l0.length : Int) := of_decide_eq_true (by first | (with_reducible assumption) | assumption); obtain ⟨ad199, e199, hx199_0, hx199_1, hx199_2, hx199_3, hx199_4, hx199_5⟩ := at_T45 HR0.out ((rd_T45 l0 x17_1).f0) p199 q199; obtain rfl : ad195 = ad199 := (by injection e199); replace hx199_0 := (HB.out.cell (World.block_lt_of_cell? w _ hx199_0)).trans hx199_0; replace hx199_1 := (HB.out.cell (World.block_lt_of_cell? w _ hx199_1)).trans hx199_1; replace hx199_2 := (HB.out.cell (World.block_lt_of_cell? w _ hx199_2)).trans hx199_2; replace hx199_3 := (HB.out.cell (World.block_lt_of_cell? w _ hx199_3)).trans hx199_3; replace hx199_4 := (HB.out.cell (World.block_lt_of_cell? w _ hx199_4)).trans hx199_4; replace hx199_5 := (HB.out.cell (World.block_lt_of_cell? w _ hx199_5)).trans hx199_5; replace p199 := eq_true p199; replace q199 := eq_true q199))
    go_meet
    case rel => exact ⟨_, (decide (((rd_T45 l0 ((rd_T45 l0 x17_1).f0)).f3) > 0)), (by first | rfl | (simp; done) | (simp [*]; done)), H', ⟨by have := HK1.out; first | omega | exact Nat.le_refl _⟩, ⟨by (with_reducible repeat (first | apply Kd.R_alloc | apply Kd.R_drewN | apply Kd.R_drew)); exact HO_3.out⟩, ⟨by (with_reducible repeat (first | refine blk_drewN ?_ _ | refine blk_drew ?_ | refine blk_alloc ?_ _)); exact BK196.out⟩, ⟨by repeat (first | (with_reducible first | exact HB.out | apply below_alloc | apply pw_below_drewN | apply below_drew1 | refine below_set ?_ GE196.out) | exact HB.out)⟩⟩
   case rest =>
    clear HC11
    try clear c1
    try clear p1
    try clear q1
    try clear hx1
    try clear c2
    try clear p2
    try clear c3
    try clear c4
    try clear c4b0
    try clear c4b1
    try clear c5
    try clear c5b0
    try clear c5b1
    try clear c6
    try clear p6
    try clear c7
    try clear c8
    try clear c8b0
    try clear c9
    try clear c9b0
    try clear c10
    try clear c10b0
    try clear c15
    try clear c17
    try clear c18
    try clear c18b0
    try clear c19
    try clear c19b0
    try clear p19
    try clear q19
    try clear hx19
    try clear c20
    try clear c20b0
    try clear hcz13_0
    try clear hcz13_1
    try clear hcz13_2
    try clear hcz13_3
    try clear hcz13_4
    try clear hcz13_5
    try clear hcz21_0
    try clear hcz21_1
    try clear hcz21_2
    try clear hcz21_3
    try clear hcz21_4
    try clear hcz21_5
    try clear hcz23_0
    try clear hcz23_1
    try clear hcz23_2
    try clear hcz23_3
    try clear hcz23_4
    try clear hcz23_5
    try clear hcz24_0
    try clear hcz24_1
    try clear hcz24_2
    try clear hcz24_3
    try clear hcz24_4
    try clear hcz24_5
    try clear hcz26_0
    try clear hcz26_1
    try clear hcz26_2
    try clear hcz26_3
    try clear hcz26_4
    try clear hcz26_5
    try clear hcz27_0
    try clear hcz27_1
    try clear hcz27_2
    try clear hcz27_3
    try clear hcz27_4
    try clear hcz27_5
    try clear hcz29_0
    try clear hcz29_1
    try clear hcz29_2
    try clear hcz29_3
    try clear hcz29_4
    try clear hcz29_5
    try clear hcz30_0
    try clear hcz30_1
    try clear hcz30_2
    try clear hcz30_3
    try clear hcz30_4
    try clear hcz30_5
    try clear hfz13_0
    try clear hfz13_1
    try clear hfz13_2
    try clear hfz13_3
    try clear hfz13_4
    try clear hfz13_5
    try clear hfz21_0
    try clear hfz21_1
    try clear hfz21_2
    try clear hfz21_3
    try clear hfz21_4
    try clear hfz21_5
    try clear hfz23_0
    try clear hfz23_1
    try clear hfz23_2
    try clear hfz23_3
    try clear hfz23_4
    try clear hfz23_5
    try clear hfz24_0
    try clear hfz24_1
    try clear hfz24_2
    try clear hfz24_3
    try clear hfz24_4
    try clear hfz24_5
    try clear hfz26_0
    try clear hfz26_1
    try clear hfz26_2
    try clear hfz26_3
    try clear hfz26_4
    try clear hfz26_5
    try clear hfz27_0
    try clear hfz27_1
    try clear hfz27_2
    try clear hfz27_3
    try clear hfz27_4
    try clear hfz27_5
    try clear hfz29_0
    try clear hfz29_1
    try clear hfz29_2
    try clear hfz29_3
    try clear hfz29_4
    try clear hfz29_5
    try clear hfz30_0
    try clear hfz30_1
    try clear hfz30_2
    try clear hfz30_3
    try clear hfz30_4
    try clear hfz30_5
    try clear hx195_0
    try clear hx195_1
    try clear hx195_2
    try clear hx195_3
    try clear hx195_4
    try clear hx195_5
    try clear hx199_0
    try clear hx199_1
    try clear hx199_2
    try clear hx199_3
    try clear hx199_4
    try clear hx199_5
    try clear p195
    try clear p199
    try clear p2
    try clear q195
    try clear q199
    obtain ⟨kq, x46_10, rfl, HA, HJ10, HO_3, BK196, HB⟩ := hcut
    cases kq with
    | zero => exact absurd HA.out (by simp [impl_isHoseLine.j1])
    | succ kj10 =>
     have H := HA.out
     clear HA
     simp only [impl_isHoseLine.j1] at H
     by_cases c32 : x46_10 = true
     case neg =>
      replace c32 := Bool.eq_false_iff.mpr c32
      subst c32
      have H1 : (if ((rd_T45 l0 x17_1).f0) ≥ 0 then (if 0 ≤ ((rd_T45 l0 x17_1).f0) then (if ((rd_T45 l0 x17_1).f0) < (x3_1.length : Int) then (impl_isHoseLine.l0 kj10 l0 (x3_1.set (((rd_T45 l0 x17_1).f0) : Int).toNat true) l0 (l0.length : Int) (wrap64 (x17_1 + 1))) else (none)) else (none)) else (impl_isHoseLine.l0 kj10 l0 x3_1 l0 (l0.length : Int) (wrap64 (x17_1 + 1)))) = some r := by rw [if_neg (show ¬ (false = true) by decide)] at H; exact H
      clear H
      have H := H1
      clear H1
      by_cases c33 : ((rd_T45 l0 x17_1).f0) ≥ 0
      case neg =>
       rw [if_neg c33] at H
       have c33b0 : decide (0 ≤ ((rd_T45 l0 x17_1).f0)) = false := decide_eq_false c33
       clear c33
       have H' := Aside0.mk H
       clear H
       have hcz40_0 : wc.cell? ⟨gb196, 0, none⟩ = some (.int .i64 ((rd_T45 l0 x17_1).f0)) := (blk_cell BK196.out 0).trans rfl
       have hcz40_1 : wc.cell? ⟨gb196, 1, none⟩ = some (.int .i64 ((rd_T45 l0 x17_1).f1.f0)) := (blk_cell BK196.out 1).trans rfl
       have hcz40_2 : wc.cell? ⟨gb196, 2, none⟩ = some (.int .i64 ((rd_T45 l0 x17_1).f1.f1)) := (blk_cell BK196.out 2).trans rfl
       have hcz40_3 : wc.cell? ⟨gb196, 3, none⟩ = some (.int .i64 ((rd_T45 l0 x17_1).f2)) := (blk_cell BK196.out 3).trans rfl
       have hcz40_4 : wc.cell? ⟨gb196, 4, none⟩ = some (.int .i64 ((rd_T45 l0 x17_1).f3)) := (blk_cell BK196.out 4).trans rfl
       have hcz40_5 : wc.cell? ⟨gb196, 5, none⟩ = some (.int .i64 ((rd_T45 l0 x17_1).f4)) := (blk_cell BK196.out 5).trans rfl
       have hfz40_0 := blk_frozen BK196.out 0
       have hfz40_1 := blk_frozen BK196.out 1
       have hfz40_2 := blk_frozen BK196.out 2
       have hfz40_3 := blk_frozen BK196.out 3
       have hfz40_4 := blk_frozen BK196.out 4
       have hfz40_5 := blk_frozen BK196.out 5
       go_wp2
       go_roundg kj10
       case measure => have := HK1.out; have := HJ10.out; omega
       case rel => exact ⟨(x3_1), (wrap64 (x17_1 + 1)), (by first | rfl | (simp; done) | (simp [*]; done)), H', ⟨by have := HK1.out; have := HJ10.out; omega⟩, ⟨by (with_reducible repeat (first | apply Kd.R_alloc | apply Kd.R_drewN | apply Kd.R_drew)); exact HO_3.out⟩, ⟨by repeat (first | (with_reducible first | exact HB.out | apply below_alloc | apply pw_below_drewN | apply below_drew1 | refine below_set ?_ GE196.out) | exact HB.out)⟩⟩
      rw [if_pos c33] at H
      have c33b0 : decide (0 ≤ ((rd_T45 l0 x17_1).f0)) = true := decide_eq_true c33
      clear c33
      by_cases c34 : 0 ≤ ((rd_T45 l0 x17_1).f0)
      case neg =>
       rw [if_neg c34] at H
       exact absurd H (by simp)
      rw [if_pos c34] at H
      have c34b0 : decide (0 ≤ ((rd_T45 l0 x17_1).f0)) = true := decide_eq_true c34
      clear c34
      by_cases c35 : ((rd_T45 l0 x17_1).f0) < (x3_1.length : Int)
      case neg =>
       rw [if_neg c35] at H
       exact absurd H (by simp)
      rw [if_pos c35] at H
      have c35b0 : decide (((rd_T45 l0 x17_1).f0) < (x3_1.length : Int)) = true := decide_eq_true c35
      clear c35
      obtain ⟨y200, hy200⟩ : ∃ y_ : List Bool, y_ = (x3_1.set (((rd_T45 l0 x17_1).f0) : Int).toNat true) := ⟨_, rfl⟩
      replace H : (impl_isHoseLine.l0 kj10 l0 y200 l0 (l0.length : Int) (wrap64 (x17_1 + 1))) = some r := by first | (rw [hy200]; with_reducible exact H) | (have H2_ := (Option.bind_some _ _).symm.trans H; rw [hy200]; with_reducible exact H2_) | (have H2_ := (Option.bind_some _ _).symm.trans H; with_reducible exact H2_) | with_reducible exact H | (rw [hy200]; exact H) | exact H
      have Ny200 := Aside0.mk hy200
      clear hy200
      have H' := Aside0.mk H
      clear H
      have hcz37_0 : wc.cell? ⟨gb196, 0, none⟩ = some (.int .i64 ((rd_T45 l0 x17_1).f0)) := (blk_cell BK196.out 0).trans rfl
      have hcz37_1 : wc.cell? ⟨gb196, 1, none⟩ = some (.int .i64 ((rd_T45 l0 x17_1).f1.f0)) := (blk_cell BK196.out 1).trans rfl
      have hcz37_2 : wc.cell? ⟨gb196, 2, none⟩ = some (.int .i64 ((rd_T45 l0 x17_1).f1.f1)) := (blk_cell BK196.out 2).trans rfl
      have hcz37_3 : wc.cell? ⟨gb196, 3, none⟩ = some (.int .i64 ((rd_T45 l0 x17_1).f2)) := (blk_cell BK196.out 3).trans rfl
      have hcz37_4 : wc.cell? ⟨gb196, 4, none⟩ = some (.int .i64 ((rd_T45 l0 x17_1).f3)) := (blk_cell BK196.out 4).trans rfl
      have hcz37_5 : wc.cell? ⟨gb196, 5, none⟩ = some (.int .i64 ((rd_T45 l0 x17_1).f4)) := (blk_cell BK196.out 5).trans rfl
      have hfz37_0 := blk_frozen BK196.out 0
      have hfz37_1 := blk_frozen BK196.out 1
      have hfz37_2 := blk_frozen BK196.out 2
      have hfz37_3 := blk_frozen BK196.out 3
      have hfz37_4 := blk_frozen BK196.out 4
      have hfz37_5 := blk_frozen BK196.out 5
      have p36 : 0 ≤ (((rd_T45 l0 x17_1).f0) : Int) := of_decide_eq_true (by first | (with_reducible assumption) | assumption)
      have q36 : (((rd_T45 l0 x17_1).f0) : Int) < ((x3_1.length : Int) : Int) := of_decide_eq_true (by first | (with_reducible assumption) | assumption)
      obtain ⟨go36, co36, eo36, gb36, gl36, cl36, HG36⟩ := Kd.R_form HO_3.out (by omega)
      (first | cases eo36 | (injection eo36 with ea_ en_ ec_; (first | subst ea_ | (injection ea_ with ea_; subst ea_)); subst ec_; clear en_))
      have GB36 := Aside0.mk gb36
      have GG36 := Aside0.mk HG36
      clear gb36 gl36 HG36
      obtain ⟨hx36_0, hf36_0⟩ := Kd.R_celln false HO_3.out (((rd_T45 l0 x17_1).f0) : Int) p36 q36
      replace p36 := eq_true p36
      replace q36 := eq_true q36
      have HP38 := Kd.R_putg HO_3.out (((rd_T45 l0 x17_1).f0) : Int) true
      go_wp2_with (first | ((with_reducible refine gate_store (t := 4) (p := 53) rfl ?_); refine store_event (t := 4) (p := 53) (v := ?vo_w39) (w1 := (wc.setCell ⟨go36, (((rd_T45 l0 x17_1).f0) : Int).toNat, none⟩ (.bool true))) ?hg ?ho ?hn ?hr ?_; (case ho => rfl); (case hg => rfl); (case hn => rfl); (case hr => first | (go_simp; done) | (go_simp; rfl)); intro w39 hw; have hg : wc.grownBy w39 (some go36) := (by rw [hw]; exact HP38.2); have hp_ : Kd.R Kd.bool 4 w39 w.heap.size (fun _ => True) (.slice (some ⟨go36, 0, none⟩) x3_1.length co36) y200 := (by rw [hw, Ny200.out]; exact HP38.1); clear HP38; have n0_ := Aside0.mk (hp_); have n1_ := Aside0.mk (blk_grown (g := gb196) (o := .cells #[.int .i64 ((rd_T45 l0 x17_1).f0), .int .i64 ((rd_T45 l0 x17_1).f1.f0), .int .i64 ((rd_T45 l0 x17_1).f1.f1), .int .i64 ((rd_T45 l0 x17_1).f2), .int .i64 ((rd_T45 l0 x17_1).f3), .int .i64 ((rd_T45 l0 x17_1).f4)] 45 (0, 0)) (by (with_reducible repeat (first | refine blk_drewN ?_ _ | refine blk_drew ?_ | refine blk_alloc ?_ _)); exact BK196.out) hg (Kd.R_ne HO_3.out BK196.out (by decide))); have n2_ := Aside0.mk ((by rw [hw]; exact below_set (HB.out) GB36.out : Below w.heap.size w w39)); clear HO_3; clear BK196; clear HB; have HO_3 := n0_; have BK196 := n1_; have HB := n2_; clear n0_ n1_ n2_; clear hg hw hp_))
      go_roundg kj10
      case measure => have := HK1.out; have := HJ10.out; omega
      case rel => exact ⟨(y200), (wrap64 (x17_1 + 1)), (by first | rfl | (simp; done) | (simp [*]; done)), H', ⟨by have := HK1.out; have := HJ10.out; omega⟩, ⟨by (with_reducible repeat (first | apply Kd.R_alloc | apply Kd.R_drewN | apply Kd.R_drew)); exact HO_3.out⟩, ⟨by repeat (first | (with_reducible first | exact HB.out | apply below_alloc | apply pw_below_drewN | apply below_drew1 | refine below_set ?_ GE196.out) | exact HB.out)⟩⟩
     subst c32
     have H1 : (some false) = some r := by rw [if_pos rfl] at H; exact H
     clear H
     have H := H1
     clear H1
     obtain rfl := Option.some.inj H
     go_wp2
     go_ret
     exact ⟨by first | rfl | (simp [errW_none, errW_some] <;> rfl) | (simp [*, errW_none, errW_some] <;> rfl), by repeat (first | (with_reducible first | exact HB.out | apply below_alloc | apply pw_below_drewN | apply below_drew1 | refine below_set ?_ GE196.out) | exact HB.out)⟩

end Go.Proofs.Ytenfngleiohbhaa.P
