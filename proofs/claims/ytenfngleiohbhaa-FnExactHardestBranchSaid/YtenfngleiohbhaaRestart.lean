/- A region that draws: what is kept may be widened on the way (by what a call in it has made). Conditions: none. -/
import Derived.Test.YtenfngleiohbhaaWLast
namespace Go.Proofs.Ytenfngleiohbhaa.Restart
open Go.RowKit Go.Proofs.YtenfngleiohbhaaW.PrintLast
variable {P : Program} {md : Region.Mode} {ops : Array Oper} {Q : Exit → Act → World → Prop} {S : World → Prop}
theorem restart_ (T : World → Prop) : ∀ (n : Nat) (l : Array Bool) (a : Act) (w : World), S w → T w → wpAnyLast P md ops Q (fun w' => S w' ∧ T w') [] n l a w → wpAnyLast P md ops Q S [] n l a w
  | 0, _, _, _, _, _, h => h
  | n + 1, l, a, w, hS, hT, h => ⟨h.1, fun i hi => wpOp_mono (fun a' w' h' => ⟨fun _ _ => (h'.1 (by simp) ⟨hS, hT⟩).1, restart_ T n _ a' w' (h'.1 (by simp) ⟨hS, hT⟩).1 (h'.1 (by simp) ⟨hS, hT⟩).2 h'.2⟩) (h.2 i hi)⟩
end Go.Proofs.Ytenfngleiohbhaa.Restart
