/-
  No cell of these rows narrows 'for every input' (looked for: loops, veiled, ifaces, maps, wideKeys, modest, calm, conditions, laid).
  DERIVED. THE GIVEN ROWS OF THIS SEAT. 12 by the template 'for every input the law returns true; each argument reads behind the call as it read before'; 0 by the template 'total and deterministic' (their statements: YteinfbfaijjknaaTotals.lean).
  GIVEN WITH THE SEED: the statements are not yours to turn. If you find one false, say at which input.
  Laid BY PROGRAM, IN A SANDBOX (cutbox-rows.mjs): the forced cells as the released guide's own fill.sh prints them over the translation 39a2d6ae9b5ce4fa… (all of the seat's roots in one cut). By AI agents, Wed Nov 11 2026. No macro, syntax, notation, axiom, sorry.
-/
import Derived.Test.YteinfbfaijjknaaChecked
import GoSem.Claim
import GoSem.ClaimJoined
import GoSem.ClaimMapViews
import Derived.JoinedTies
import Derived.KernelRfl
namespace Go.Proofs.Yteinfbfaijjknaa
/- THE CELL 'sum', in the pinned program and in every row, IS THE sha256 OF THE DUMP (.gsa) THAT YteinfbfaijjknaaProg.lean LOADS. Nothing in Lean hashes anything: it is a label: what it is worth is what the hold of that sum in a sandbox is worth. -/
noncomputable def Try.pinned : Pinned := { name := "yteinfbfaijjknaa", sum := "39a2d6ae9b5ce4fae5eaf4668d5b3fa0ba9eefc4ff40bd13a5ffa44c07614756", checked := Try.checked }
namespace Rows
def none {H : Type} : Left H := { results := [], args := [] }

/-- 'laws.FnExactIsAppliance': WHATEVER THE INPUT: true; the input reads as it did. -/
def fnExactIsApplianceSpec : ChangeSpec := { name := "fnExactIsAppliance", fn := fun _ => fun
  | [d] => { results := [.lit (.bool true)], args := [d] }
  | _ => none }
def fnExactIsApplianceRow : OpenClaim := { program := "yteinfbfaijjknaa", sum := "39a2d6ae9b5ce4fae5eaf4668d5b3fa0ba9eefc4ff40bd13a5ffa44c07614756", func := "loop.example/g01020/laws.FnExactIsAppliance", spec := "fnExactIsAppliance", apart := false }
def FnExactIsApplianceSaid : Prop := fnExactIsApplianceRow.holds Try.pinned (OpenSpec.ofChange fnExactIsApplianceSpec)

/-- ITS FALSE NEIGHBOUR: 'it returns false'. Refute it at one input. -/
def fnExactIsApplianceWrong : ChangeSpec := { name := "fnExactIsAppliance", fn := fun _ => fun
  | [d] => { results := [.lit (.bool false)], args := [d] }
  | _ => none }
def FnExactIsApplianceWrongFalsely : Prop := fnExactIsApplianceRow.holds Try.pinned (OpenSpec.ofChange fnExactIsApplianceWrong)

/-- 'laws.FnExactIsAvailable': WHATEVER THE INPUT: true; the input reads as it did. -/
def fnExactIsAvailableSpec : ChangeSpec := { name := "fnExactIsAvailable", fn := fun _ => fun
  | [d] => { results := [.lit (.bool true)], args := [d] }
  | _ => none }
def fnExactIsAvailableRow : OpenClaim := { program := "yteinfbfaijjknaa", sum := "39a2d6ae9b5ce4fae5eaf4668d5b3fa0ba9eefc4ff40bd13a5ffa44c07614756", func := "loop.example/g01020/laws.FnExactIsAvailable", spec := "fnExactIsAvailable", apart := false }
def FnExactIsAvailableSaid : Prop := fnExactIsAvailableRow.holds Try.pinned (OpenSpec.ofChange fnExactIsAvailableSpec)

/-- ITS FALSE NEIGHBOUR: 'it returns false'. Refute it at one input. -/
def fnExactIsAvailableWrong : ChangeSpec := { name := "fnExactIsAvailable", fn := fun _ => fun
  | [d] => { results := [.lit (.bool false)], args := [d] }
  | _ => none }
def FnExactIsAvailableWrongFalsely : Prop := fnExactIsAvailableRow.holds Try.pinned (OpenSpec.ofChange fnExactIsAvailableWrong)

/-- 'laws.FnExactMayChange': WHATEVER THE INPUT: true; the input reads as it did. -/
def fnExactMayChangeSpec : ChangeSpec := { name := "fnExactMayChange", fn := fun _ => fun
  | [d1, d2] => { results := [.lit (.bool true)], args := [d1, d2] }
  | _ => none }
def fnExactMayChangeRow : OpenClaim := { program := "yteinfbfaijjknaa", sum := "39a2d6ae9b5ce4fae5eaf4668d5b3fa0ba9eefc4ff40bd13a5ffa44c07614756", func := "loop.example/g01020/laws.FnExactMayChange", spec := "fnExactMayChange", apart := false }
def FnExactMayChangeSaid : Prop := fnExactMayChangeRow.holds Try.pinned (OpenSpec.ofChange fnExactMayChangeSpec)

/-- ITS FALSE NEIGHBOUR: 'it returns false'. Refute it at one input. -/
def fnExactMayChangeWrong : ChangeSpec := { name := "fnExactMayChange", fn := fun _ => fun
  | [d1, d2] => { results := [.lit (.bool false)], args := [d1, d2] }
  | _ => none }
def FnExactMayChangeWrongFalsely : Prop := fnExactMayChangeRow.holds Try.pinned (OpenSpec.ofChange fnExactMayChangeWrong)

/-- 'laws.FnExactIsFleet': WHATEVER THE INPUT: true; the input reads as it did. -/
def fnExactIsFleetSpec : ChangeSpec := { name := "fnExactIsFleet", fn := fun _ => fun
  | [d] => { results := [.lit (.bool true)], args := [d] }
  | _ => none }
def fnExactIsFleetRow : OpenClaim := { program := "yteinfbfaijjknaa", sum := "39a2d6ae9b5ce4fae5eaf4668d5b3fa0ba9eefc4ff40bd13a5ffa44c07614756", func := "loop.example/g01020/laws.FnExactIsFleet", spec := "fnExactIsFleet", apart := false }
def FnExactIsFleetSaid : Prop := fnExactIsFleetRow.holds Try.pinned (OpenSpec.ofChange fnExactIsFleetSpec)

/-- ITS FALSE NEIGHBOUR: 'it returns false'. Refute it at one input. -/
def fnExactIsFleetWrong : ChangeSpec := { name := "fnExactIsFleet", fn := fun _ => fun
  | [d] => { results := [.lit (.bool false)], args := [d] }
  | _ => none }
def FnExactIsFleetWrongFalsely : Prop := fnExactIsFleetRow.holds Try.pinned (OpenSpec.ofChange fnExactIsFleetWrong)

/-- 'laws.FnExactCrewTotal': WHATEVER THE INPUT: true; the input reads as it did. -/
def fnExactCrewTotalSpec : ChangeSpec := { name := "fnExactCrewTotal", fn := fun _ => fun
  | [d] => { results := [.lit (.bool true)], args := [d] }
  | _ => none }
def fnExactCrewTotalRow : OpenClaim := { program := "yteinfbfaijjknaa", sum := "39a2d6ae9b5ce4fae5eaf4668d5b3fa0ba9eefc4ff40bd13a5ffa44c07614756", func := "loop.example/g01020/laws.FnExactCrewTotal", spec := "fnExactCrewTotal", apart := false }
def FnExactCrewTotalSaid : Prop := fnExactCrewTotalRow.holds Try.pinned (OpenSpec.ofChange fnExactCrewTotalSpec)

/-- ITS FALSE NEIGHBOUR: 'it returns false'. Refute it at one input. -/
def fnExactCrewTotalWrong : ChangeSpec := { name := "fnExactCrewTotal", fn := fun _ => fun
  | [d] => { results := [.lit (.bool false)], args := [d] }
  | _ => none }
def FnExactCrewTotalWrongFalsely : Prop := fnExactCrewTotalRow.holds Try.pinned (OpenSpec.ofChange fnExactCrewTotalWrong)

/-- 'laws.FnExactFindAppliance': WHATEVER THE INPUT: true; the input reads as it did. -/
def fnExactFindApplianceSpec : ChangeSpec := { name := "fnExactFindAppliance", fn := fun _ => fun
  | [d1, d2] => { results := [.lit (.bool true)], args := [d1, d2] }
  | _ => none }
def fnExactFindApplianceRow : OpenClaim := { program := "yteinfbfaijjknaa", sum := "39a2d6ae9b5ce4fae5eaf4668d5b3fa0ba9eefc4ff40bd13a5ffa44c07614756", func := "loop.example/g01020/laws.FnExactFindAppliance", spec := "fnExactFindAppliance", unfollowed := true, recurses := true, apart := false }
def FnExactFindApplianceSaid : Prop := fnExactFindApplianceRow.holds Try.pinned (OpenSpec.ofChange fnExactFindApplianceSpec)

/-- ITS FALSE NEIGHBOUR: 'it returns false'. Refute it at one input. -/
def fnExactFindApplianceWrong : ChangeSpec := { name := "fnExactFindAppliance", fn := fun _ => fun
  | [d1, d2] => { results := [.lit (.bool false)], args := [d1, d2] }
  | _ => none }
def FnExactFindApplianceWrongFalsely : Prop := fnExactFindApplianceRow.holds Try.pinned (OpenSpec.ofChange fnExactFindApplianceWrong)

/-- 'laws.FnExactAvailableKinds': WHATEVER THE INPUT: true; the input reads as it did. -/
def fnExactAvailableKindsSpec : ChangeSpec := { name := "fnExactAvailableKinds", fn := fun _ => fun
  | [d] => { results := [.lit (.bool true)], args := [d] }
  | _ => none }
def fnExactAvailableKindsRow : OpenClaim := { program := "yteinfbfaijjknaa", sum := "39a2d6ae9b5ce4fae5eaf4668d5b3fa0ba9eefc4ff40bd13a5ffa44c07614756", func := "loop.example/g01020/laws.FnExactAvailableKinds", spec := "fnExactAvailableKinds", apart := false }
def FnExactAvailableKindsSaid : Prop := fnExactAvailableKindsRow.holds Try.pinned (OpenSpec.ofChange fnExactAvailableKindsSpec)

/-- ITS FALSE NEIGHBOUR: 'it returns false'. Refute it at one input. -/
def fnExactAvailableKindsWrong : ChangeSpec := { name := "fnExactAvailableKinds", fn := fun _ => fun
  | [d] => { results := [.lit (.bool false)], args := [d] }
  | _ => none }
def FnExactAvailableKindsWrongFalsely : Prop := fnExactAvailableKindsRow.holds Try.pinned (OpenSpec.ofChange fnExactAvailableKindsWrong)

/-- 'laws.FnExactMoveAppliance': WHATEVER THE INPUT: true; the input reads as it did. -/
def fnExactMoveApplianceSpec : ChangeSpec := { name := "fnExactMoveAppliance", fn := fun _ => fun
  | [d1, d2, d3] => { results := [.lit (.bool true)], args := [d1, d2, d3] }
  | _ => none }
def fnExactMoveApplianceRow : OpenClaim := { program := "yteinfbfaijjknaa", sum := "39a2d6ae9b5ce4fae5eaf4668d5b3fa0ba9eefc4ff40bd13a5ffa44c07614756", func := "loop.example/g01020/laws.FnExactMoveAppliance", spec := "fnExactMoveAppliance", unfollowed := true, recurses := true, apart := false }
def FnExactMoveApplianceSaid : Prop := fnExactMoveApplianceRow.holds Try.pinned (OpenSpec.ofChange fnExactMoveApplianceSpec)

/-- ITS FALSE NEIGHBOUR: 'it returns false'. Refute it at one input. -/
def fnExactMoveApplianceWrong : ChangeSpec := { name := "fnExactMoveAppliance", fn := fun _ => fun
  | [d1, d2, d3] => { results := [.lit (.bool false)], args := [d1, d2, d3] }
  | _ => none }
def FnExactMoveApplianceWrongFalsely : Prop := fnExactMoveApplianceRow.holds Try.pinned (OpenSpec.ofChange fnExactMoveApplianceWrong)

/-- 'laws.FnExactShareCrew': WHATEVER THE INPUT: true; the input reads as it did. -/
def fnExactShareCrewSpec : ChangeSpec := { name := "fnExactShareCrew", fn := fun _ => fun
  | [d1, d2, d3, d4] => { results := [.lit (.bool true)], args := [d1, d2, d3, d4] }
  | _ => none }
def fnExactShareCrewRow : OpenClaim := { program := "yteinfbfaijjknaa", sum := "39a2d6ae9b5ce4fae5eaf4668d5b3fa0ba9eefc4ff40bd13a5ffa44c07614756", func := "loop.example/g01020/laws.FnExactShareCrew", spec := "fnExactShareCrew", unfollowed := true, recurses := true, apart := false }
def FnExactShareCrewSaid : Prop := fnExactShareCrewRow.holds Try.pinned (OpenSpec.ofChange fnExactShareCrewSpec)

/-- ITS FALSE NEIGHBOUR: 'it returns false'. Refute it at one input. -/
def fnExactShareCrewWrong : ChangeSpec := { name := "fnExactShareCrew", fn := fun _ => fun
  | [d1, d2, d3, d4] => { results := [.lit (.bool false)], args := [d1, d2, d3, d4] }
  | _ => none }
def FnExactShareCrewWrongFalsely : Prop := fnExactShareCrewRow.holds Try.pinned (OpenSpec.ofChange fnExactShareCrewWrong)

/-- 'laws.FnExactChangeState': WHATEVER THE INPUT: true; the input reads as it did. -/
def fnExactChangeStateSpec : ChangeSpec := { name := "fnExactChangeState", fn := fun _ => fun
  | [d1, d2, d3] => { results := [.lit (.bool true)], args := [d1, d2, d3] }
  | _ => none }
def fnExactChangeStateRow : OpenClaim := { program := "yteinfbfaijjknaa", sum := "39a2d6ae9b5ce4fae5eaf4668d5b3fa0ba9eefc4ff40bd13a5ffa44c07614756", func := "loop.example/g01020/laws.FnExactChangeState", spec := "fnExactChangeState", unfollowed := true, recurses := true, apart := false }
def FnExactChangeStateSaid : Prop := fnExactChangeStateRow.holds Try.pinned (OpenSpec.ofChange fnExactChangeStateSpec)

/-- ITS FALSE NEIGHBOUR: 'it returns false'. Refute it at one input. -/
def fnExactChangeStateWrong : ChangeSpec := { name := "fnExactChangeState", fn := fun _ => fun
  | [d1, d2, d3] => { results := [.lit (.bool false)], args := [d1, d2, d3] }
  | _ => none }
def FnExactChangeStateWrongFalsely : Prop := fnExactChangeStateRow.holds Try.pinned (OpenSpec.ofChange fnExactChangeStateWrong)

/-- 'laws.FnExactWayOfStates': WHATEVER THE INPUT: true; the input reads as it did. -/
def fnExactWayOfStatesSpec : ChangeSpec := { name := "fnExactWayOfStates", fn := fun _ => fun
  | [d1, d2] => { results := [.lit (.bool true)], args := [d1, d2] }
  | _ => none }
def fnExactWayOfStatesRow : OpenClaim := { program := "yteinfbfaijjknaa", sum := "39a2d6ae9b5ce4fae5eaf4668d5b3fa0ba9eefc4ff40bd13a5ffa44c07614756", func := "loop.example/g01020/laws.FnExactWayOfStates", spec := "fnExactWayOfStates", recurses := true, apart := false }
def FnExactWayOfStatesSaid : Prop := fnExactWayOfStatesRow.holds Try.pinned (OpenSpec.ofChange fnExactWayOfStatesSpec)

/-- ITS FALSE NEIGHBOUR: 'it returns false'. Refute it at one input. -/
def fnExactWayOfStatesWrong : ChangeSpec := { name := "fnExactWayOfStates", fn := fun _ => fun
  | [d1, d2] => { results := [.lit (.bool false)], args := [d1, d2] }
  | _ => none }
def FnExactWayOfStatesWrongFalsely : Prop := fnExactWayOfStatesRow.holds Try.pinned (OpenSpec.ofChange fnExactWayOfStatesWrong)

/-- 'laws.FnStateWays': WHATEVER THE INPUT: true; the input reads as it did. -/
def fnStateWaysSpec : ChangeSpec := { name := "fnStateWays", fn := fun _ => fun
  | [d1, d2] => { results := [.lit (.bool true)], args := [d1, d2] }
  | _ => none }
def fnStateWaysRow : OpenClaim := { program := "yteinfbfaijjknaa", sum := "39a2d6ae9b5ce4fae5eaf4668d5b3fa0ba9eefc4ff40bd13a5ffa44c07614756", func := "loop.example/g01020/laws.FnStateWays", spec := "fnStateWays", recurses := true, apart := false }
def FnStateWaysSaid : Prop := fnStateWaysRow.holds Try.pinned (OpenSpec.ofChange fnStateWaysSpec)

/-- ITS FALSE NEIGHBOUR: 'it returns false'. Refute it at one input. -/
def fnStateWaysWrong : ChangeSpec := { name := "fnStateWays", fn := fun _ => fun
  | [d1, d2] => { results := [.lit (.bool false)], args := [d1, d2] }
  | _ => none }
def FnStateWaysWrongFalsely : Prop := fnStateWaysRow.holds Try.pinned (OpenSpec.ofChange fnStateWaysWrong)

/- THE SECOND FORM. 'bulk': how many values and letters a reading holds, each counted each time it is reached (what is shared counts as often as it is met; a slice's spare places count too). A statement '..UptoSaid' is the law's where the arguments, and the package variables that the reading takes, are together of bulk at most 1048576: NARROWER than '..Said'. Prove '..Said' where nothing that the law and all that it calls make is longer than what came in: it says more and counts as full. Else prove '..UptoSaid'. A law counts once. -/
mutual
def uptoBulk {H : Type} : DataW H → Nat
  | .lit (.string bytes) => bytes.length + 1
  | .lit _ => 1
  | .nil => 1
  | .ptr d => uptoBulk d + 1
  | .slice elems spare => uptoBulkAll elems + uptoBulkAll spare + 1
  | .agg parts => uptoBulkAll parts + 1
  | .iface _ d => uptoBulk d + 1
  | .map entries => uptoBulkEntries entries + 1
  | .held _ => 1
def uptoBulkAll {H : Type} : List (DataW H) → Nat
  | [] => 0
  | d :: r => uptoBulk d + uptoBulkAll r
def uptoBulkEntries {H : Type} : List (Lit × DataW H) → Nat
  | [] => 0
  | x :: r => uptoBulkEntry x + uptoBulkEntries r
def uptoBulkEntry {H : Type} : Lit × DataW H → Nat
  | (.string bytes, d) => bytes.length + uptoBulk d + 1
  | (_, d) => uptoBulk d + 1
 end
def uptoSmall : (H : Type) → List (DataW H) → Bool := fun _ ds => decide (uptoBulkAll ds ≤ 1048576)
def OpenSpec.upto (s : _root_.Go.ChangeSpec) : _root_.Go.OpenSpec := { _root_.Go.OpenSpec.ofChange s with cond := some uptoSmall }

/-- 'laws.FnExactIsAppliance', WHERE WHAT IT READS IS OF BULK AT MOST 1048576: true; the input reads as it did. -/
def fnExactIsApplianceUptoRow : OpenClaim := { program := "yteinfbfaijjknaa", sum := "39a2d6ae9b5ce4fae5eaf4668d5b3fa0ba9eefc4ff40bd13a5ffa44c07614756", func := "loop.example/g01020/laws.FnExactIsAppliance", spec := "fnExactIsAppliance", apart := false, narrowed := true }
def FnExactIsApplianceUptoSaid : Prop := fnExactIsApplianceUptoRow.holds Try.pinned (OpenSpec.upto fnExactIsApplianceSpec)

/-- 'laws.FnExactIsAvailable', WHERE WHAT IT READS IS OF BULK AT MOST 1048576: true; the input reads as it did. -/
def fnExactIsAvailableUptoRow : OpenClaim := { program := "yteinfbfaijjknaa", sum := "39a2d6ae9b5ce4fae5eaf4668d5b3fa0ba9eefc4ff40bd13a5ffa44c07614756", func := "loop.example/g01020/laws.FnExactIsAvailable", spec := "fnExactIsAvailable", apart := false, narrowed := true }
def FnExactIsAvailableUptoSaid : Prop := fnExactIsAvailableUptoRow.holds Try.pinned (OpenSpec.upto fnExactIsAvailableSpec)

/-- 'laws.FnExactMayChange', WHERE WHAT IT READS IS OF BULK AT MOST 1048576: true; the input reads as it did. -/
def fnExactMayChangeUptoRow : OpenClaim := { program := "yteinfbfaijjknaa", sum := "39a2d6ae9b5ce4fae5eaf4668d5b3fa0ba9eefc4ff40bd13a5ffa44c07614756", func := "loop.example/g01020/laws.FnExactMayChange", spec := "fnExactMayChange", apart := false, narrowed := true }
def FnExactMayChangeUptoSaid : Prop := fnExactMayChangeUptoRow.holds Try.pinned (OpenSpec.upto fnExactMayChangeSpec)

/-- 'laws.FnExactIsFleet', WHERE WHAT IT READS IS OF BULK AT MOST 1048576: true; the input reads as it did. -/
def fnExactIsFleetUptoRow : OpenClaim := { program := "yteinfbfaijjknaa", sum := "39a2d6ae9b5ce4fae5eaf4668d5b3fa0ba9eefc4ff40bd13a5ffa44c07614756", func := "loop.example/g01020/laws.FnExactIsFleet", spec := "fnExactIsFleet", apart := false, narrowed := true }
def FnExactIsFleetUptoSaid : Prop := fnExactIsFleetUptoRow.holds Try.pinned (OpenSpec.upto fnExactIsFleetSpec)

/-- 'laws.FnExactCrewTotal', WHERE WHAT IT READS IS OF BULK AT MOST 1048576: true; the input reads as it did. -/
def fnExactCrewTotalUptoRow : OpenClaim := { program := "yteinfbfaijjknaa", sum := "39a2d6ae9b5ce4fae5eaf4668d5b3fa0ba9eefc4ff40bd13a5ffa44c07614756", func := "loop.example/g01020/laws.FnExactCrewTotal", spec := "fnExactCrewTotal", apart := false, narrowed := true }
def FnExactCrewTotalUptoSaid : Prop := fnExactCrewTotalUptoRow.holds Try.pinned (OpenSpec.upto fnExactCrewTotalSpec)

/-- 'laws.FnExactFindAppliance', WHERE WHAT IT READS IS OF BULK AT MOST 1048576: true; the input reads as it did. -/
def fnExactFindApplianceUptoRow : OpenClaim := { program := "yteinfbfaijjknaa", sum := "39a2d6ae9b5ce4fae5eaf4668d5b3fa0ba9eefc4ff40bd13a5ffa44c07614756", func := "loop.example/g01020/laws.FnExactFindAppliance", spec := "fnExactFindAppliance", unfollowed := true, recurses := true, apart := false, narrowed := true }
def FnExactFindApplianceUptoSaid : Prop := fnExactFindApplianceUptoRow.holds Try.pinned (OpenSpec.upto fnExactFindApplianceSpec)

/-- 'laws.FnExactAvailableKinds', WHERE WHAT IT READS IS OF BULK AT MOST 1048576: true; the input reads as it did. -/
def fnExactAvailableKindsUptoRow : OpenClaim := { program := "yteinfbfaijjknaa", sum := "39a2d6ae9b5ce4fae5eaf4668d5b3fa0ba9eefc4ff40bd13a5ffa44c07614756", func := "loop.example/g01020/laws.FnExactAvailableKinds", spec := "fnExactAvailableKinds", apart := false, narrowed := true }
def FnExactAvailableKindsUptoSaid : Prop := fnExactAvailableKindsUptoRow.holds Try.pinned (OpenSpec.upto fnExactAvailableKindsSpec)

/-- 'laws.FnExactMoveAppliance', WHERE WHAT IT READS IS OF BULK AT MOST 1048576: true; the input reads as it did. -/
def fnExactMoveApplianceUptoRow : OpenClaim := { program := "yteinfbfaijjknaa", sum := "39a2d6ae9b5ce4fae5eaf4668d5b3fa0ba9eefc4ff40bd13a5ffa44c07614756", func := "loop.example/g01020/laws.FnExactMoveAppliance", spec := "fnExactMoveAppliance", unfollowed := true, recurses := true, apart := false, narrowed := true }
def FnExactMoveApplianceUptoSaid : Prop := fnExactMoveApplianceUptoRow.holds Try.pinned (OpenSpec.upto fnExactMoveApplianceSpec)

/-- 'laws.FnExactShareCrew', WHERE WHAT IT READS IS OF BULK AT MOST 1048576: true; the input reads as it did. -/
def fnExactShareCrewUptoRow : OpenClaim := { program := "yteinfbfaijjknaa", sum := "39a2d6ae9b5ce4fae5eaf4668d5b3fa0ba9eefc4ff40bd13a5ffa44c07614756", func := "loop.example/g01020/laws.FnExactShareCrew", spec := "fnExactShareCrew", unfollowed := true, recurses := true, apart := false, narrowed := true }
def FnExactShareCrewUptoSaid : Prop := fnExactShareCrewUptoRow.holds Try.pinned (OpenSpec.upto fnExactShareCrewSpec)

/-- 'laws.FnExactChangeState', WHERE WHAT IT READS IS OF BULK AT MOST 1048576: true; the input reads as it did. -/
def fnExactChangeStateUptoRow : OpenClaim := { program := "yteinfbfaijjknaa", sum := "39a2d6ae9b5ce4fae5eaf4668d5b3fa0ba9eefc4ff40bd13a5ffa44c07614756", func := "loop.example/g01020/laws.FnExactChangeState", spec := "fnExactChangeState", unfollowed := true, recurses := true, apart := false, narrowed := true }
def FnExactChangeStateUptoSaid : Prop := fnExactChangeStateUptoRow.holds Try.pinned (OpenSpec.upto fnExactChangeStateSpec)

/-- 'laws.FnExactWayOfStates', WHERE WHAT IT READS IS OF BULK AT MOST 1048576: true; the input reads as it did. -/
def fnExactWayOfStatesUptoRow : OpenClaim := { program := "yteinfbfaijjknaa", sum := "39a2d6ae9b5ce4fae5eaf4668d5b3fa0ba9eefc4ff40bd13a5ffa44c07614756", func := "loop.example/g01020/laws.FnExactWayOfStates", spec := "fnExactWayOfStates", recurses := true, apart := false, narrowed := true }
def FnExactWayOfStatesUptoSaid : Prop := fnExactWayOfStatesUptoRow.holds Try.pinned (OpenSpec.upto fnExactWayOfStatesSpec)

/-- 'laws.FnStateWays', WHERE WHAT IT READS IS OF BULK AT MOST 1048576: true; the input reads as it did. -/
def fnStateWaysUptoRow : OpenClaim := { program := "yteinfbfaijjknaa", sum := "39a2d6ae9b5ce4fae5eaf4668d5b3fa0ba9eefc4ff40bd13a5ffa44c07614756", func := "loop.example/g01020/laws.FnStateWays", spec := "fnStateWays", recurses := true, apart := false, narrowed := true }
def FnStateWaysUptoSaid : Prop := fnStateWaysUptoRow.holds Try.pinned (OpenSpec.upto fnStateWaysSpec)

end Rows
end Go.Proofs.Yteinfbfaijjknaa
