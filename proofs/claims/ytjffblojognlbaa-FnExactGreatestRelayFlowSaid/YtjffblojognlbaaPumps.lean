/- The plan with the fewest pumps: both sides find the same one. Conditions: none. -/
import Derived.Test.YtjffblojognlbaaStage
import Derived.Test.YtjffblojognlbaaPump
import Derived.Test.YtjffblojognlbaaPx37
import Derived.Test.YtjffblojognlbaaPx35
namespace Go.Proofs.Ytjffblojognlbaa
open Go.RowKit Go.Proofs.YtjffblojognlbaaW.PrintWords
set_option linter.unusedSimpArgs false
set_option linter.unusedVariables false
theorem rd_g (l : List Int) (j : Nat) : rd l (j : Int) = Pump.g l j := by simp [rd, Pump.g]
theorem rd_g0 (l : List Int) : rd l 0 = Pump.g l 0 := rd_g l 0
section
variable {l : List Pt} {kd fl p q : Int} (hp : profB l = true) (hk : 0 ≤ kd ∧ kd ≤ 3) (hf : 0 ≤ fl ∧ fl ≤ 3000) (hq : 0 ≤ q ∧ q ≤ 2000)
include hp hk hf hq
theorem impl_l1 {last i : Nat} (hlast : last + 1 = l.length) (hi : i < last) {r : List Int × Bool} : ∀ (d tt : Nat) (G N : List Int), tt + d = last + 1 → i < tt → G.length = last + 1 → N.length = last + 1 →
    Ev (fun k => P.impl_pumpPlaces.l0 k l (last : Int) (Pump.inI (stageB l kd fl p q) i d G N tt).1 (Pump.inI (stageB l kd fl p q) i d G N tt).2 (wrap64 ((i : Int) - 1)) kd fl p q) r →
    Ev (fun k => P.impl_pumpPlaces.l1 k l (last : Int) G N (i : Int) (tt : Int) kd fl p q) r := by
  have hl40 := (profB_spec l hp).2.1
  intro d
  induction d with
  | zero =>
    intro tt G N h1 h2 hG hN e
    refine ev_step 0 (fun k _ => ?_) e
    simp only [P.impl_pumpPlaces.l1, Pump.inI]
    rw [if_neg (by omega)]
  | succ d ih =>
    intro tt G N h1 h2 hG hN e
    refine ev_step 51 (fun k hk1 => ?_) (ih (tt + 1) (Pump.stepI (stageB l kd fl p q) G N i tt).1 (Pump.stepI (stageB l kd fl p q) G N i tt).2 (by omega) (by omega) ?_ ?_ e)
    · simp only [P.impl_pumpPlaces.l1]
      rw [if_pos (by omega), (stage_eq hp hk hf hq (i := i) (j := tt) (by omega) (by omega) k (by omega)).1]
      simp only [Option.bind_some, rd_g]
      rw [w64_succ (by omega)]
      unfold Pump.stepI
      by_cases hs : stageB l kd fl p q i tt = true
      · rw [if_pos hs, if_pos (by omega), if_pos (by omega), if_pos (by omega), if_pos (by omega)]
        by_cases hc : wrap64 (Pump.g G tt + 1) < Pump.g G i
        · rw [if_pos hc, if_pos (by omega), if_pos ⟨hs, hc⟩]
          rfl
        · rw [if_neg hc, if_neg (fun h => hc h.2)]
      · rw [if_neg hs, if_neg (fun h => hs h.1)]
    · unfold Pump.stepI
      split
      · simpa using hG
      · exact hG
    · unfold Pump.stepI
      split
      · simpa using hN
      · exact hN
theorem impl_l0 {last : Nat} (hlast : last + 1 = l.length) {r : List Int × Bool} : ∀ (i : Nat) (G N : List Int), i ≤ last → G.length = last + 1 → N.length = last + 1 →
    Ev (fun k => P.impl_pumpPlaces.l0 k l (last : Int) (Pump.outI (stageB l kd fl p q) last i G N).1 (Pump.outI (stageB l kd fl p q) last i G N).2 (-1) kd fl p q) r →
    Ev (fun k => P.impl_pumpPlaces.l0 k l (last : Int) G N ((i : Int) - 1) kd fl p q) r := by
  have hl40 := (profB_spec l hp).2.1
  intro i
  induction i with
  | zero => intro G N h hG hN e; exact e
  | succ i ih =>
    intro G N h hG hN e
    have hlen := Pump.inI_length (stageB l kd fl p q) i (last - i) (G.set i 41) N (i + 1)
    have e1 := ih _ _ (by omega) (by rw [hlen.1]; simpa using hG) (by rw [hlen.2]; exact hN) e
    have e2 : Ev (fun k => P.impl_pumpPlaces.l0 k l (last : Int) (Pump.inI (stageB l kd fl p q) i (last - i) (G.set i 41) N (i + 1)).1 (Pump.inI (stageB l kd fl p q) i (last - i) (G.set i 41) N (i + 1)).2 (wrap64 ((i : Int) - 1)) kd fl p q) r := by
      rw [w64 (by omega) (by omega)]; exact e1
    refine ev_step 0 (fun k _ => ?_) (impl_l1 hp hk hf hq hlast (by omega) (last - i) (i + 1) (G.set i 41) N (by omega) (by omega) (by simpa using hG) hN e2)
    rw [show ((i + 1 : Nat) : Int) - 1 = (i : Int) by omega]
    simp only [P.impl_pumpPlaces.l0]
    rw [if_pos (by omega), if_pos (by omega), if_pos (by omega), w64_succ (by omega)]
    rfl
theorem spec_l1 {last i : Nat} (hlast : last + 1 = l.length) (hi : i < last) {r : List Int × Bool} : ∀ (d tt : Nat) (G : List Int), tt + d = last + 1 → i < tt → G.length = last + 1 →
    Ev (fun k => P.spec_ryPumps.l0 k l (last : Int) (Pump.inS (stageB l kd fl p q) i d G tt) (wrap64 ((i : Int) - 1)) kd fl p q) r →
    Ev (fun k => P.spec_ryPumps.l1 k l (last : Int) G (i : Int) (tt : Int) kd fl p q) r := by
  have hl40 := (profB_spec l hp).2.1
  intro d
  induction d with
  | zero =>
    intro tt G h1 h2 hG e
    refine ev_step 0 (fun k _ => ?_) e
    simp only [P.spec_ryPumps.l1, Pump.inS]
    rw [if_neg (by omega)]
  | succ d ih =>
    intro tt G h1 h2 hG e
    refine ev_step 51 (fun k hk1 => ?_) (ih (tt + 1) (Pump.stepS (stageB l kd fl p q) G i tt) (by omega) (by omega) ?_ e)
    · simp only [P.spec_ryPumps.l1]
      rw [if_pos (by omega), if_pos (by omega), if_pos (by omega), (stage_eq hp hk hf hq (i := i) (j := tt) (by omega) (by omega) k (by omega)).2]
      simp only [Option.bind_some, rd_g]
      rw [w64_succ (by omega)]
      unfold Pump.stepS
      by_cases h0 : Pump.g G tt ≥ 0
      · rw [if_pos h0]
        by_cases hs : stageB l kd fl p q i tt = true
        · rw [if_pos hs, if_pos (by omega), if_pos (by omega)]
          by_cases hn : Pump.g G i < 0
          · rw [if_pos hn, if_pos ⟨h0, hs, .inl hn⟩]
            rfl
          · rw [if_neg hn]
            by_cases hc : wrap64 (Pump.g G tt + 1) < Pump.g G i
            · rw [if_pos hc, if_pos ⟨h0, hs, .inr hc⟩]
              rfl
            · rw [if_neg hc, if_neg (fun h => h.2.2.elim hn hc)]
        · rw [if_neg hs, if_neg (fun h => hs h.2.1)]
      · rw [if_neg h0, if_neg (fun h => h0 h.1)]
    · unfold Pump.stepS
      split
      · simpa using hG
      · exact hG
theorem spec_l0 {last : Nat} (hlast : last + 1 = l.length) {r : List Int × Bool} : ∀ (i : Nat) (G : List Int), i ≤ last → G.length = last + 1 →
    Ev (fun k => P.spec_ryPumps.l0 k l (last : Int) (Pump.outS (stageB l kd fl p q) last i G) (-1) kd fl p q) r →
    Ev (fun k => P.spec_ryPumps.l0 k l (last : Int) G ((i : Int) - 1) kd fl p q) r := by
  have hl40 := (profB_spec l hp).2.1
  intro i
  induction i with
  | zero => intro G h hG e; exact e
  | succ i ih =>
    intro G h hG e
    have hlen := Pump.inS_length (stageB l kd fl p q) i (last - i) (G.set i (-1)) (i + 1)
    have e1 := ih _ (by omega) (by rw [hlen]; simpa using hG) e
    have e2 : Ev (fun k => P.spec_ryPumps.l0 k l (last : Int) (Pump.inS (stageB l kd fl p q) i (last - i) (G.set i (-1)) (i + 1)) (wrap64 ((i : Int) - 1)) kd fl p q) r := by
      rw [w64 (by omega) (by omega)]; exact e1
    refine ev_step 0 (fun k _ => ?_) (spec_l1 hp hk hf hq hlast (by omega) (last - i) (i + 1) (G.set i (-1)) (by omega) (by omega) (by simpa using hG) e2)
    rw [show ((i + 1 : Nat) : Int) - 1 = (i : Int) by omega]
    simp only [P.spec_ryPumps.l0]
    rw [if_pos (by omega), if_pos (by omega), if_pos (by omega), w64_succ (by omega)]
    rfl
/-- The walk to the next point of the plan. -/
theorem spec_l3 {last j u : Nat} (hlast : last + 1 = l.length) {F : List Int} (hF : F.length = last + 1) (out : List Int) (hu : u ≤ last) (h1 : stageB l kd fl p q j u = true) (h2 : Pump.g F u = Pump.g F j - 1) (h3 : ∀ w, j < w → w < u → ¬ (stageB l kd fl p q j w = true ∧ Pump.g F w = Pump.g F j - 1))
    (hb : -1 ≤ Pump.g F j ∧ Pump.g F j ≤ 1000) {r : List Int × Bool} (e : Ev (fun k => P.spec_ryPumps.l2 k l (last : Int) F out (u : Int) kd fl p q) r) : ∀ (d w : Nat), w + d = u → j < w →
    Ev (fun k => P.spec_ryPumps.l3 k l (last : Int) F out (j : Int) (w : Int) kd fl p q) r := by
  have hl40 := (profB_spec l hp).2.1
  intro d
  induction d with
  | zero =>
    intro w h hw
    obtain rfl : w = u := by omega
    refine ev_step 51 (fun k hk1 => ?_) e
    simp only [P.spec_ryPumps.l3]
    rw [if_pos (by omega), if_pos (by omega), if_pos (by omega), if_pos (by omega), (stage_eq hp hk hf hq (i := j) (j := w) (by omega) (by omega) k (by omega)).2]
    simp only [rd_g, Option.bind_some]
    rw [w64 (by omega) (by omega), if_pos h2, if_pos h1]
  | succ d ih =>
    intro w h hw
    refine ev_step 51 (fun k hk1 => ?_) (ih (w + 1) (by omega) (by omega))
    simp only [P.spec_ryPumps.l3]
    rw [if_pos (by omega), if_pos (by omega), if_pos (by omega), if_pos (by omega), (stage_eq hp hk hf hq (i := j) (j := w) (by omega) (by omega) k (by omega)).2]
    simp only [rd_g, Option.bind_some]
    rw [w64 (by omega) (by omega), w64_succ (by omega)]
    by_cases hc : Pump.g F w = Pump.g F j - 1
    · rw [if_pos hc, if_neg (fun h => h3 w hw (by omega) ⟨h, hc⟩)]
    · rw [if_neg hc]
theorem walk_same {last : Nat} (hlast : last + 1 = l.length) {F G N : List Int} (hr : Pump.Rel (stageB l kd fl p q) last 0 F G N) : ∀ (d j : Nat), j + d = last → 0 ≤ Pump.g F j →
    ∃ O : List Int, O.length ≤ d ∧ (∀ x ∈ O, (j : Int) ≤ x ∧ x < last) ∧ ∀ out : List Int, out.length + d ≤ 100 → Ev (fun k => P.impl_pumpPlaces.l2 k (last : Int) N out (j : Int)) (out ++ O, true) ∧ Ev (fun k => P.spec_ryPumps.l2 k l (last : Int) F out (j : Int) kd fl p q) (out ++ O, true) := by
  have hl40 := (profB_spec l hp).2.1
  have hF := hr.lenF
  have hN := hr.lenN
  intro d
  induction d using Nat.strongRecOn with
  | ind d ih =>
    intro j h h0
    by_cases hd : d = 0
    · subst hd
      refine ⟨[], by simp, by simp, fun out ho => ⟨?_, ?_⟩⟩
      · refine ev_end 0 (fun k _ => ?_)
        simp only [P.impl_pumpPlaces.l2]
        rw [if_neg (by omega)]
        simp
      · refine ev_end 0 (fun k _ => ?_)
        simp only [P.spec_ryPumps.l2]
        rw [if_pos (by omega)]
        simp
    · obtain ⟨u, u1, u2, u3, u4, u5, u6, u7⟩ := hr.nx j (by omega) (by omega) h0
      obtain ⟨O, o1, o2, o3⟩ := ih (last - u) (by omega) u (by omega) u6
      have hv := hr.v j (by omega) (by omega)
      refine ⟨(j : Int) :: O, by simp; omega, ?_, fun out ho => ?_⟩
      · intro x hx
        rcases List.mem_cons.1 hx with rfl | hx
        · omega
        · have := o2 x hx
          omega
      · obtain ⟨e1, e2⟩ := o3 (out ++ [(j : Int)]) (by simp; omega)
        rw [List.append_assoc, List.singleton_append] at e1 e2
        refine ⟨ev_step 0 (fun k _ => ?_) e1, ev_step 0 (fun k _ => ?_) (spec_l3 hp hk hf hq hlast hF _ u3 u4 u5 u7 (by omega) e2 (u - (j + 1)) (j + 1) (by omega) (by omega))⟩
        · simp only [P.impl_pumpPlaces.l2]
          rw [if_pos (by omega), if_pos (by omega), if_pos (by omega), if_pos (by omega), rd_g, u1]
        · simp only [P.spec_ryPumps.l2]
          rw [if_neg (by omega), if_pos (by omega), w64_succ (by omega)]
/-- Both sides find the same plan. -/
theorem pumps_same : ∃ v : List Int × Bool, v.1.length ≤ 39 ∧ ∃ K, ∀ k, K ≤ k → P.impl_pumpPlaces.f k l kd fl p q = some v ∧ P.spec_ryPumps.f k l kd fl p q = some v := by
  obtain ⟨h1, h2, _, _⟩ := profB_spec l hp
  obtain ⟨last, hlast⟩ : ∃ last, last + 1 = l.length := ⟨l.length - 1, by omega⟩
  have hr := Pump.out_rel (stageB l kd fl p q) (last := last) (by omega) last (Nat.le_refl _) (Pump.zeros_rel (stageB l kd fl p q) last)
  have hi := fun r => impl_l0 (p := p) hp hk hf hq hlast (r := r) last (List.replicate (last + 1) 0) (List.replicate (last + 1) 0) (Nat.le_refl _) (by simp) (by simp)
  have hs := fun r => spec_l0 (p := p) hp hk hf hq hlast (r := r) last (List.replicate (last + 1) 0) (Nat.le_refl _) (by simp)
  have hfin : ∀ v : List Int × Bool, Ev (fun k => P.impl_pumpPlaces.l0 k l (last : Int) (List.replicate (last + 1) 0) (List.replicate (last + 1) 0) ((last : Int) - 1) kd fl p q) v → Ev (fun k => P.spec_ryPumps.l0 k l (last : Int) (List.replicate (last + 1) 0) ((last : Int) - 1) kd fl p q) v →
      ∃ K, ∀ k, K ≤ k → P.impl_pumpPlaces.f k l kd fl p q = some v ∧ P.spec_ryPumps.f k l kd fl p q = some v := by
    intro v e1 e2
    refine ev_both (ev_congr 0 (fun k _ => ?_) e1) (ev_congr 0 (fun k _ => ?_) e2)
    · simp only [P.impl_pumpPlaces.f]
      rw [if_pos (by omega), if_pos (by omega), w64 (x := (l.length : Int) - 1) (by omega) (by omega), show (l.length : Int) - 1 = (last : Int) by omega, w64 (by omega) (by omega), show (l.length : Int).toNat = last + 1 by omega]
    · simp only [P.spec_ryPumps.f]
      rw [if_pos (by omega), if_pos (by omega), w64 (x := (l.length : Int) - 1) (by omega) (by omega), show (l.length : Int) - 1 = (last : Int) by omega, w64 (by omega) (by omega), show (l.length : Int).toNat = last + 1 by omega]
  generalize Pump.outS (stageB l kd fl p q) last last (List.replicate (last + 1) 0) = F at hr hs
  generalize (Pump.outI (stageB l kd fl p q) last last (List.replicate (last + 1) 0) (List.replicate (last + 1) 0)).1 = G at hr hi
  generalize (Pump.outI (stageB l kd fl p q) last last (List.replicate (last + 1) 0) (List.replicate (last + 1) 0)).2 = N at hr hi
  have hv := hr.v 0 (by omega) (by omega)
  have hF := hr.lenF
  have hG := hr.lenG
  have hN := hr.lenN
  by_cases h0 : Pump.g F 0 < 0
  · refine ⟨([], false), by simp, hfin _ (hi _ (ev_end 0 (fun k _ => ?_))) (hs _ (ev_end 0 (fun k _ => ?_)))⟩
    · simp only [P.impl_pumpPlaces.l0]
      rw [if_neg (by omega), if_pos (by omega), rd_g0, hv.2.2, if_pos h0, if_pos (by omega)]
    · simp only [P.spec_ryPumps.l0]
      rw [if_neg (by omega), if_pos (by omega), rd_g0, if_pos h0]
  · obtain ⟨O, o1, o2, o3⟩ := walk_same hp hk hf hq hlast hr last 0 (by omega) (by omega)
    obtain ⟨e1, e2⟩ := o3 [] (by simp; omega)
    refine ⟨(O, true), by simp; omega, hfin _ (hi _ (ev_step 0 (fun k _ => ?_) e1)) (hs _ (ev_step 0 (fun k _ => ?_) e2))⟩
    · simp only [P.impl_pumpPlaces.l0]
      rw [if_neg (by omega), if_pos (by omega), rd_g0, hv.2.2, if_neg h0, if_neg (by omega)]
      rfl
    · simp only [P.spec_ryPumps.l0]
      rw [if_neg (by omega), if_pos (by omega), rd_g0, if_neg h0]
      rfl
end
end Go.Proofs.Ytjffblojognlbaa
