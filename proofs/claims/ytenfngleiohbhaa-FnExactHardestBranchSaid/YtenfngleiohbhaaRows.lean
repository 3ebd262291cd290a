/-
  No cell of these rows narrows 'for every input' (looked for: loops, veiled, ifaces, maps, wideKeys, modest, calm, conditions, laid).
  DERIVED. THE GIVEN ROWS OF THIS SEAT. 12 by the template 'for every input the law returns true; each argument reads behind the call as it read before'; 0 by the template 'total and deterministic' (their statements: YtenfngleiohbhaaTotals.lean).
  GIVEN WITH THE SEED: the statements are not yours to turn. If you find one false, say at which input.
  Laid BY PROGRAM, IN A SANDBOX (cutbox-rows.mjs): the forced cells as the released guide's own fill.sh prints them over the translation 7fd8ec3bd826f352… (all of the seat's roots in one cut). By AI agents, Wed Nov 11 2026. No macro, syntax, notation, axiom, sorry.
-/
import Derived.Test.YtenfngleiohbhaaChecked
import GoSem.Claim
import GoSem.ClaimJoined
import GoSem.ClaimMapViews
import Derived.JoinedTies
import Derived.KernelRfl
namespace Go.Proofs.Ytenfngleiohbhaa
/- THE CELL 'sum', in the pinned program and in every row, IS THE sha256 OF THE DUMP (.gsa) THAT YtenfngleiohbhaaProg.lean LOADS. Nothing in Lean hashes anything: it is a label: what it is worth is what the hold of that sum in a sandbox is worth. -/
noncomputable def Try.pinned : Pinned := { name := "ytenfngleiohbhaa", sum := "7fd8ec3bd826f3522826e0aec37e786e73039ae0d47e93c84472f3c292087f46", checked := Try.checked }
namespace Rows
def none {H : Type} : Left H := { results := [], args := [] }

/-- 'laws.FnExactIsHoseLine': WHATEVER THE INPUT: true; the input reads as it did. -/
def fnExactIsHoseLineSpec : ChangeSpec := { name := "fnExactIsHoseLine", fn := fun _ => fun
  | [d] => { results := [.lit (.bool true)], args := [d] }
  | _ => none }
def fnExactIsHoseLineRow : OpenClaim := { program := "ytenfngleiohbhaa", sum := "7fd8ec3bd826f3522826e0aec37e786e73039ae0d47e93c84472f3c292087f46", func := "loop.example/g01020/laws.FnExactIsHoseLine", spec := "fnExactIsHoseLine", apart := false }
def FnExactIsHoseLineSaid : Prop := fnExactIsHoseLineRow.holds Try.pinned (OpenSpec.ofChange fnExactIsHoseLineSpec)

/-- ITS FALSE NEIGHBOUR: 'it returns false'. Refute it at one input. -/
def fnExactIsHoseLineWrong : ChangeSpec := { name := "fnExactIsHoseLine", fn := fun _ => fun
  | [d] => { results := [.lit (.bool false)], args := [d] }
  | _ => none }
def FnExactIsHoseLineWrongFalsely : Prop := fnExactIsHoseLineRow.holds Try.pinned (OpenSpec.ofChange fnExactIsHoseLineWrong)

/-- 'laws.FnExactWaterOf': WHATEVER THE INPUT: true; the input reads as it did. -/
def fnExactWaterOfSpec : ChangeSpec := { name := "fnExactWaterOf", fn := fun _ => fun
  | [d] => { results := [.lit (.bool true)], args := [d] }
  | _ => none }
def fnExactWaterOfRow : OpenClaim := { program := "ytenfngleiohbhaa", sum := "7fd8ec3bd826f3522826e0aec37e786e73039ae0d47e93c84472f3c292087f46", func := "loop.example/g01020/laws.FnExactWaterOf", spec := "fnExactWaterOf", apart := false }
def FnExactWaterOfSaid : Prop := fnExactWaterOfRow.holds Try.pinned (OpenSpec.ofChange fnExactWaterOfSpec)

/-- ITS FALSE NEIGHBOUR: 'it returns false'. Refute it at one input. -/
def fnExactWaterOfWrong : ChangeSpec := { name := "fnExactWaterOf", fn := fun _ => fun
  | [d] => { results := [.lit (.bool false)], args := [d] }
  | _ => none }
def FnExactWaterOfWrongFalsely : Prop := fnExactWaterOfRow.holds Try.pinned (OpenSpec.ofChange fnExactWaterOfWrong)

/-- 'laws.FnExactFlowsIn': WHATEVER THE INPUT: true; the input reads as it did. -/
def fnExactFlowsInSpec : ChangeSpec := { name := "fnExactFlowsIn", fn := fun _ => fun
  | [d] => { results := [.lit (.bool true)], args := [d] }
  | _ => none }
def fnExactFlowsInRow : OpenClaim := { program := "ytenfngleiohbhaa", sum := "7fd8ec3bd826f3522826e0aec37e786e73039ae0d47e93c84472f3c292087f46", func := "loop.example/g01020/laws.FnExactFlowsIn", spec := "fnExactFlowsIn", apart := false }
def FnExactFlowsInSaid : Prop := fnExactFlowsInRow.holds Try.pinned (OpenSpec.ofChange fnExactFlowsInSpec)

/-- ITS FALSE NEIGHBOUR: 'it returns false'. Refute it at one input. -/
def fnExactFlowsInWrong : ChangeSpec := { name := "fnExactFlowsIn", fn := fun _ => fun
  | [d] => { results := [.lit (.bool false)], args := [d] }
  | _ => none }
def FnExactFlowsInWrongFalsely : Prop := fnExactFlowsInRow.holds Try.pinned (OpenSpec.ofChange fnExactFlowsInWrong)

/-- 'laws.FnExactHoseMeters': WHATEVER THE INPUT: true; the input reads as it did. -/
def fnExactHoseMetersSpec : ChangeSpec := { name := "fnExactHoseMeters", fn := fun _ => fun
  | [d] => { results := [.lit (.bool true)], args := [d] }
  | _ => none }
def fnExactHoseMetersRow : OpenClaim := { program := "ytenfngleiohbhaa", sum := "7fd8ec3bd826f3522826e0aec37e786e73039ae0d47e93c84472f3c292087f46", func := "loop.example/g01020/laws.FnExactHoseMeters", spec := "fnExactHoseMeters", apart := false }
def FnExactHoseMetersSaid : Prop := fnExactHoseMetersRow.holds Try.pinned (OpenSpec.ofChange fnExactHoseMetersSpec)

/-- ITS FALSE NEIGHBOUR: 'it returns false'. Refute it at one input. -/
def fnExactHoseMetersWrong : ChangeSpec := { name := "fnExactHoseMeters", fn := fun _ => fun
  | [d] => { results := [.lit (.bool false)], args := [d] }
  | _ => none }
def FnExactHoseMetersWrongFalsely : Prop := fnExactHoseMetersRow.holds Try.pinned (OpenSpec.ofChange fnExactHoseMetersWrong)

/-- 'laws.FnExactAddPart': WHATEVER THE INPUT: true; the input reads as it did. -/
def fnExactAddPartSpec : ChangeSpec := { name := "fnExactAddPart", fn := fun _ => fun
  | [d1, d2] => { results := [.lit (.bool true)], args := [d1, d2] }
  | _ => none }
def fnExactAddPartRow : OpenClaim := { program := "ytenfngleiohbhaa", sum := "7fd8ec3bd826f3522826e0aec37e786e73039ae0d47e93c84472f3c292087f46", func := "loop.example/g01020/laws.FnExactAddPart", spec := "fnExactAddPart", apart := false }
def FnExactAddPartSaid : Prop := fnExactAddPartRow.holds Try.pinned (OpenSpec.ofChange fnExactAddPartSpec)

/-- ITS FALSE NEIGHBOUR: 'it returns false'. Refute it at one input. -/
def fnExactAddPartWrong : ChangeSpec := { name := "fnExactAddPart", fn := fun _ => fun
  | [d1, d2] => { results := [.lit (.bool false)], args := [d1, d2] }
  | _ => none }
def FnExactAddPartWrongFalsely : Prop := fnExactAddPartRow.holds Try.pinned (OpenSpec.ofChange fnExactAddPartWrong)

/-- 'laws.FnExactHardestBranch': WHATEVER THE INPUT: true; the input reads as it did. -/
def fnExactHardestBranchSpec : ChangeSpec := { name := "fnExactHardestBranch", fn := fun _ => fun
  | [d] => { results := [.lit (.bool true)], args := [d] }
  | _ => none }
def fnExactHardestBranchRow : OpenClaim := { program := "ytenfngleiohbhaa", sum := "7fd8ec3bd826f3522826e0aec37e786e73039ae0d47e93c84472f3c292087f46", func := "loop.example/g01020/laws.FnExactHardestBranch", spec := "fnExactHardestBranch", apart := false }
def FnExactHardestBranchSaid : Prop := fnExactHardestBranchRow.holds Try.pinned (OpenSpec.ofChange fnExactHardestBranchSpec)

/-- ITS FALSE NEIGHBOUR: 'it returns false'. Refute it at one input. -/
def fnExactHardestBranchWrong : ChangeSpec := { name := "fnExactHardestBranch", fn := fun _ => fun
  | [d] => { results := [.lit (.bool false)], args := [d] }
  | _ => none }
def FnExactHardestBranchWrongFalsely : Prop := fnExactHardestBranchRow.holds Try.pinned (OpenSpec.ofChange fnExactHardestBranchWrong)

/-- 'laws.FnExactNeededAtPump': WHATEVER THE INPUT: true; the input reads as it did. -/
def fnExactNeededAtPumpSpec : ChangeSpec := { name := "fnExactNeededAtPump", fn := fun _ => fun
  | [d] => { results := [.lit (.bool true)], args := [d] }
  | _ => none }
def fnExactNeededAtPumpRow : OpenClaim := { program := "ytenfngleiohbhaa", sum := "7fd8ec3bd826f3522826e0aec37e786e73039ae0d47e93c84472f3c292087f46", func := "loop.example/g01020/laws.FnExactNeededAtPump", spec := "fnExactNeededAtPump", apart := false }
def FnExactNeededAtPumpSaid : Prop := fnExactNeededAtPumpRow.holds Try.pinned (OpenSpec.ofChange fnExactNeededAtPumpSpec)

/-- ITS FALSE NEIGHBOUR: 'it returns false'. Refute it at one input. -/
def fnExactNeededAtPumpWrong : ChangeSpec := { name := "fnExactNeededAtPump", fn := fun _ => fun
  | [d] => { results := [.lit (.bool false)], args := [d] }
  | _ => none }
def FnExactNeededAtPumpWrongFalsely : Prop := fnExactNeededAtPumpRow.holds Try.pinned (OpenSpec.ofChange fnExactNeededAtPumpWrong)

/-- 'laws.FnExactLossesTo': WHATEVER THE INPUT: true; the input reads as it did. -/
def fnExactLossesToSpec : ChangeSpec := { name := "fnExactLossesTo", fn := fun _ => fun
  | [d] => { results := [.lit (.bool true)], args := [d] }
  | _ => none }
def fnExactLossesToRow : OpenClaim := { program := "ytenfngleiohbhaa", sum := "7fd8ec3bd826f3522826e0aec37e786e73039ae0d47e93c84472f3c292087f46", func := "loop.example/g01020/laws.FnExactLossesTo", spec := "fnExactLossesTo", apart := false }
def FnExactLossesToSaid : Prop := fnExactLossesToRow.holds Try.pinned (OpenSpec.ofChange fnExactLossesToSpec)

/-- ITS FALSE NEIGHBOUR: 'it returns false'. Refute it at one input. -/
def fnExactLossesToWrong : ChangeSpec := { name := "fnExactLossesTo", fn := fun _ => fun
  | [d] => { results := [.lit (.bool false)], args := [d] }
  | _ => none }
def FnExactLossesToWrongFalsely : Prop := fnExactLossesToRow.holds Try.pinned (OpenSpec.ofChange fnExactLossesToWrong)

/-- 'laws.FnExactCutPart': WHATEVER THE INPUT: true; the input reads as it did. -/
def fnExactCutPartSpec : ChangeSpec := { name := "fnExactCutPart", fn := fun _ => fun
  | [d1, d2] => { results := [.lit (.bool true)], args := [d1, d2] }
  | _ => none }
def fnExactCutPartRow : OpenClaim := { program := "ytenfngleiohbhaa", sum := "7fd8ec3bd826f3522826e0aec37e786e73039ae0d47e93c84472f3c292087f46", func := "loop.example/g01020/laws.FnExactCutPart", spec := "fnExactCutPart", apart := false }
def FnExactCutPartSaid : Prop := fnExactCutPartRow.holds Try.pinned (OpenSpec.ofChange fnExactCutPartSpec)

/-- ITS FALSE NEIGHBOUR: 'it returns false'. Refute it at one input. -/
def fnExactCutPartWrong : ChangeSpec := { name := "fnExactCutPart", fn := fun _ => fun
  | [d1, d2] => { results := [.lit (.bool false)], args := [d1, d2] }
  | _ => none }
def FnExactCutPartWrongFalsely : Prop := fnExactCutPartRow.holds Try.pinned (OpenSpec.ofChange fnExactCutPartWrong)

/-- 'laws.FnExactPressuresAt': WHATEVER THE INPUT: true; the input reads as it did. -/
def fnExactPressuresAtSpec : ChangeSpec := { name := "fnExactPressuresAt", fn := fun _ => fun
  | [d1, d2] => { results := [.lit (.bool true)], args := [d1, d2] }
  | _ => none }
def fnExactPressuresAtRow : OpenClaim := { program := "ytenfngleiohbhaa", sum := "7fd8ec3bd826f3522826e0aec37e786e73039ae0d47e93c84472f3c292087f46", func := "loop.example/g01020/laws.FnExactPressuresAt", spec := "fnExactPressuresAt", apart := false }
def FnExactPressuresAtSaid : Prop := fnExactPressuresAtRow.holds Try.pinned (OpenSpec.ofChange fnExactPressuresAtSpec)

/-- ITS FALSE NEIGHBOUR: 'it returns false'. Refute it at one input. -/
def fnExactPressuresAtWrong : ChangeSpec := { name := "fnExactPressuresAt", fn := fun _ => fun
  | [d1, d2] => { results := [.lit (.bool false)], args := [d1, d2] }
  | _ => none }
def FnExactPressuresAtWrongFalsely : Prop := fnExactPressuresAtRow.holds Try.pinned (OpenSpec.ofChange fnExactPressuresAtWrong)

/-- 'laws.FnExactWeakBranches': WHATEVER THE INPUT: true; the input reads as it did. -/
def fnExactWeakBranchesSpec : ChangeSpec := { name := "fnExactWeakBranches", fn := fun _ => fun
  | [d1, d2] => { results := [.lit (.bool true)], args := [d1, d2] }
  | _ => none }
def fnExactWeakBranchesRow : OpenClaim := { program := "ytenfngleiohbhaa", sum := "7fd8ec3bd826f3522826e0aec37e786e73039ae0d47e93c84472f3c292087f46", func := "loop.example/g01020/laws.FnExactWeakBranches", spec := "fnExactWeakBranches", apart := false }
def FnExactWeakBranchesSaid : Prop := fnExactWeakBranchesRow.holds Try.pinned (OpenSpec.ofChange fnExactWeakBranchesSpec)

/-- ITS FALSE NEIGHBOUR: 'it returns false'. Refute it at one input. -/
def fnExactWeakBranchesWrong : ChangeSpec := { name := "fnExactWeakBranches", fn := fun _ => fun
  | [d1, d2] => { results := [.lit (.bool false)], args := [d1, d2] }
  | _ => none }
def FnExactWeakBranchesWrongFalsely : Prop := fnExactWeakBranchesRow.holds Try.pinned (OpenSpec.ofChange fnExactWeakBranchesWrong)

/-- 'laws.FnLines': WHATEVER THE INPUT: true; the input reads as it did. -/
def fnLinesSpec : ChangeSpec := { name := "fnLines", fn := fun _ => fun
  | [d1, d2] => { results := [.lit (.bool true)], args := [d1, d2] }
  | _ => none }
def fnLinesRow : OpenClaim := { program := "ytenfngleiohbhaa", sum := "7fd8ec3bd826f3522826e0aec37e786e73039ae0d47e93c84472f3c292087f46", func := "loop.example/g01020/laws.FnLines", spec := "fnLines", apart := false }
def FnLinesSaid : Prop := fnLinesRow.holds Try.pinned (OpenSpec.ofChange fnLinesSpec)

/-- ITS FALSE NEIGHBOUR: 'it returns false'. Refute it at one input. -/
def fnLinesWrong : ChangeSpec := { name := "fnLines", fn := fun _ => fun
  | [d1, d2] => { results := [.lit (.bool false)], args := [d1, d2] }
  | _ => none }
def FnLinesWrongFalsely : Prop := fnLinesRow.holds Try.pinned (OpenSpec.ofChange fnLinesWrong)

/- THE SECOND FORM. 'bulk': how many values and letters a reading holds, each counted each time it is reached (what is shared counts as often as it is met; a slice's spare places count too). A statement '..UptoSaid' is the law's where the arguments, and the package variables that the reading takes, are together of bulk at most 1048576: NARROWER than '..Said'. Prove '..Said' where nothing that the law and all that it calls make is longer than what came in: it says more and counts as full. Else prove '..UptoSaid'. A law counts once. -/
mutual
def uptoBulk {H : Type} : DataW H → Nat
  | .lit (.string bytes) => bytes.length + 1
  | .lit _ => 1
  | .nil => 1
  | .ptr d => uptoBulk d + 1
  | .slice elems spare => uptoBulkAll elems + uptoBulkAll spare + 1
  | .agg parts => uptoBulkAll parts + 1
  | .iface _ d => uptoBulk d + 1
  | .map entries => uptoBulkEntries entries + 1
  | .held _ => 1
def uptoBulkAll {H : Type} : List (DataW H) → Nat
  | [] => 0
  | d :: r => uptoBulk d + uptoBulkAll r
def uptoBulkEntries {H : Type} : List (Lit × DataW H) → Nat
  | [] => 0
  | x :: r => uptoBulkEntry x + uptoBulkEntries r
def uptoBulkEntry {H : Type} : Lit × DataW H → Nat
  | (.string bytes, d) => bytes.length + uptoBulk d + 1
  | (_, d) => uptoBulk d + 1
 end
def uptoSmall : (H : Type) → List (DataW H) → Bool := fun _ ds => decide (uptoBulkAll ds ≤ 1048576)
def OpenSpec.upto (s : _root_.Go.ChangeSpec) : _root_.Go.OpenSpec := { _root_.Go.OpenSpec.ofChange s with cond := some uptoSmall }

/-- 'laws.FnExactIsHoseLine', WHERE WHAT IT READS IS OF BULK AT MOST 1048576: true; the input reads as it did. -/
def fnExactIsHoseLineUptoRow : OpenClaim := { program := "ytenfngleiohbhaa", sum := "7fd8ec3bd826f3522826e0aec37e786e73039ae0d47e93c84472f3c292087f46", func := "loop.example/g01020/laws.FnExactIsHoseLine", spec := "fnExactIsHoseLine", apart := false, narrowed := true }
def FnExactIsHoseLineUptoSaid : Prop := fnExactIsHoseLineUptoRow.holds Try.pinned (OpenSpec.upto fnExactIsHoseLineSpec)

/-- 'laws.FnExactWaterOf', WHERE WHAT IT READS IS OF BULK AT MOST 1048576: true; the input reads as it did. -/
def fnExactWaterOfUptoRow : OpenClaim := { program := "ytenfngleiohbhaa", sum := "7fd8ec3bd826f3522826e0aec37e786e73039ae0d47e93c84472f3c292087f46", func := "loop.example/g01020/laws.FnExactWaterOf", spec := "fnExactWaterOf", apart := false, narrowed := true }
def FnExactWaterOfUptoSaid : Prop := fnExactWaterOfUptoRow.holds Try.pinned (OpenSpec.upto fnExactWaterOfSpec)

/-- 'laws.FnExactFlowsIn', WHERE WHAT IT READS IS OF BULK AT MOST 1048576: true; the input reads as it did. -/
def fnExactFlowsInUptoRow : OpenClaim := { program := "ytenfngleiohbhaa", sum := "7fd8ec3bd826f3522826e0aec37e786e73039ae0d47e93c84472f3c292087f46", func := "loop.example/g01020/laws.FnExactFlowsIn", spec := "fnExactFlowsIn", apart := false, narrowed := true }
def FnExactFlowsInUptoSaid : Prop := fnExactFlowsInUptoRow.holds Try.pinned (OpenSpec.upto fnExactFlowsInSpec)

/-- 'laws.FnExactHoseMeters', WHERE WHAT IT READS IS OF BULK AT MOST 1048576: true; the input reads as it did. -/
def fnExactHoseMetersUptoRow : OpenClaim := { program := "ytenfngleiohbhaa", sum := "7fd8ec3bd826f3522826e0aec37e786e73039ae0d47e93c84472f3c292087f46", func := "loop.example/g01020/laws.FnExactHoseMeters", spec := "fnExactHoseMeters", apart := false, narrowed := true }
def FnExactHoseMetersUptoSaid : Prop := fnExactHoseMetersUptoRow.holds Try.pinned (OpenSpec.upto fnExactHoseMetersSpec)

/-- 'laws.FnExactAddPart', WHERE WHAT IT READS IS OF BULK AT MOST 1048576: true; the input reads as it did. -/
def fnExactAddPartUptoRow : OpenClaim := { program := "ytenfngleiohbhaa", sum := "7fd8ec3bd826f3522826e0aec37e786e73039ae0d47e93c84472f3c292087f46", func := "loop.example/g01020/laws.FnExactAddPart", spec := "fnExactAddPart", apart := false, narrowed := true }
def FnExactAddPartUptoSaid : Prop := fnExactAddPartUptoRow.holds Try.pinned (OpenSpec.upto fnExactAddPartSpec)

/-- 'laws.FnExactHardestBranch', WHERE WHAT IT READS IS OF BULK AT MOST 1048576: true; the input reads as it did. -/
def fnExactHardestBranchUptoRow : OpenClaim := { program := "ytenfngleiohbhaa", sum := "7fd8ec3bd826f3522826e0aec37e786e73039ae0d47e93c84472f3c292087f46", func := "loop.example/g01020/laws.FnExactHardestBranch", spec := "fnExactHardestBranch", apart := false, narrowed := true }
def FnExactHardestBranchUptoSaid : Prop := fnExactHardestBranchUptoRow.holds Try.pinned (OpenSpec.upto fnExactHardestBranchSpec)

/-- 'laws.FnExactNeededAtPump', WHERE WHAT IT READS IS OF BULK AT MOST 1048576: true; the input reads as it did. -/
def fnExactNeededAtPumpUptoRow : OpenClaim := { program := "ytenfngleiohbhaa", sum := "7fd8ec3bd826f3522826e0aec37e786e73039ae0d47e93c84472f3c292087f46", func := "loop.example/g01020/laws.FnExactNeededAtPump", spec := "fnExactNeededAtPump", apart := false, narrowed := true }
def FnExactNeededAtPumpUptoSaid : Prop := fnExactNeededAtPumpUptoRow.holds Try.pinned (OpenSpec.upto fnExactNeededAtPumpSpec)

/-- 'laws.FnExactLossesTo', WHERE WHAT IT READS IS OF BULK AT MOST 1048576: true; the input reads as it did. -/
def fnExactLossesToUptoRow : OpenClaim := { program := "ytenfngleiohbhaa", sum := "7fd8ec3bd826f3522826e0aec37e786e73039ae0d47e93c84472f3c292087f46", func := "loop.example/g01020/laws.FnExactLossesTo", spec := "fnExactLossesTo", apart := false, narrowed := true }
def FnExactLossesToUptoSaid : Prop := fnExactLossesToUptoRow.holds Try.pinned (OpenSpec.upto fnExactLossesToSpec)

/-- 'laws.FnExactCutPart', WHERE WHAT IT READS IS OF BULK AT MOST 1048576: true; the input reads as it did. -/
def fnExactCutPartUptoRow : OpenClaim := { program := "ytenfngleiohbhaa", sum := "7fd8ec3bd826f3522826e0aec37e786e73039ae0d47e93c84472f3c292087f46", func := "loop.example/g01020/laws.FnExactCutPart", spec := "fnExactCutPart", apart := false, narrowed := true }
def FnExactCutPartUptoSaid : Prop := fnExactCutPartUptoRow.holds Try.pinned (OpenSpec.upto fnExactCutPartSpec)

/-- 'laws.FnExactPressuresAt', WHERE WHAT IT READS IS OF BULK AT MOST 1048576: true; the input reads as it did. -/
def fnExactPressuresAtUptoRow : OpenClaim := { program := "ytenfngleiohbhaa", sum := "7fd8ec3bd826f3522826e0aec37e786e73039ae0d47e93c84472f3c292087f46", func := "loop.example/g01020/laws.FnExactPressuresAt", spec := "fnExactPressuresAt", apart := false, narrowed := true }
def FnExactPressuresAtUptoSaid : Prop := fnExactPressuresAtUptoRow.holds Try.pinned (OpenSpec.upto fnExactPressuresAtSpec)

/-- 'laws.FnExactWeakBranches', WHERE WHAT IT READS IS OF BULK AT MOST 1048576: true; the input reads as it did. -/
def fnExactWeakBranchesUptoRow : OpenClaim := { program := "ytenfngleiohbhaa", sum := "7fd8ec3bd826f3522826e0aec37e786e73039ae0d47e93c84472f3c292087f46", func := "loop.example/g01020/laws.FnExactWeakBranches", spec := "fnExactWeakBranches", apart := false, narrowed := true }
def FnExactWeakBranchesUptoSaid : Prop := fnExactWeakBranchesUptoRow.holds Try.pinned (OpenSpec.upto fnExactWeakBranchesSpec)

/-- 'laws.FnLines', WHERE WHAT IT READS IS OF BULK AT MOST 1048576: true; the input reads as it did. -/
def fnLinesUptoRow : OpenClaim := { program := "ytenfngleiohbhaa", sum := "7fd8ec3bd826f3522826e0aec37e786e73039ae0d47e93c84472f3c292087f46", func := "loop.example/g01020/laws.FnLines", spec := "fnLines", apart := false, narrowed := true }
def FnLinesUptoSaid : Prop := fnLinesUptoRow.holds Try.pinned (OpenSpec.upto fnLinesSpec)

end Rows
end Go.Proofs.Ytenfngleiohbhaa
