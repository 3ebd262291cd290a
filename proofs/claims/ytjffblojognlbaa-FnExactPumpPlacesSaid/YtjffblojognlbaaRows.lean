/-
  No cell of these rows narrows 'for every input' (looked for: loops, veiled, ifaces, maps, wideKeys, modest, calm, conditions, laid).
  DERIVED. THE GIVEN ROWS OF THIS SEAT. 10 by the template 'for every input the law returns true; each argument reads behind the call as it read before'; 0 by the template 'total and deterministic' (their statements: YtjffblojognlbaaTotals.lean).
  GIVEN WITH THE SEED: the statements are not yours to turn. If you find one false, say at which input.
  Laid BY PROGRAM, IN A SANDBOX (cutbox-rows.mjs): the forced cells as the released guide's own fill.sh prints them over the translation c724208f5c51ed42… (all of the seat's roots in one cut). By AI agents, Wed Nov 11 2026. No macro, syntax, notation, axiom, sorry.
-/
import Derived.Test.YtjffblojognlbaaChecked
import GoSem.Claim
import GoSem.ClaimJoined
import GoSem.ClaimMapViews
import Derived.JoinedTies
import Derived.KernelRfl
namespace Go.Proofs.Ytjffblojognlbaa
/- THE CELL 'sum', in the pinned program and in every row, IS THE sha256 OF THE DUMP (.gsa) THAT YtjffblojognlbaaProg.lean LOADS. Nothing in Lean hashes anything: it is a label: what it is worth is what the hold of that sum in a sandbox is worth. -/
noncomputable def Try.pinned : Pinned := { name := "ytjffblojognlbaa", sum := "c724208f5c51ed4257c83e7954c3f04b02782f881f3ed831779f6bd2cb8cc373", checked := Try.checked }
namespace Rows
def none {H : Type} : Left H := { results := [], args := [] }

/-- 'laws.FnExactIsRelay': WHATEVER THE INPUT: true; the input reads as it did. -/
def fnExactIsRelaySpec : ChangeSpec := { name := "fnExactIsRelay", fn := fun _ => fun
  | [d] => { results := [.lit (.bool true)], args := [d] }
  | _ => none }
def fnExactIsRelayRow : OpenClaim := { program := "ytjffblojognlbaa", sum := "c724208f5c51ed4257c83e7954c3f04b02782f881f3ed831779f6bd2cb8cc373", func := "loop.example/g01020/laws.FnExactIsRelay", spec := "fnExactIsRelay", apart := false }
def FnExactIsRelaySaid : Prop := fnExactIsRelayRow.holds Try.pinned (OpenSpec.ofChange fnExactIsRelaySpec)

/-- ITS FALSE NEIGHBOUR: 'it returns false'. Refute it at one input. -/
def fnExactIsRelayWrong : ChangeSpec := { name := "fnExactIsRelay", fn := fun _ => fun
  | [d] => { results := [.lit (.bool false)], args := [d] }
  | _ => none }
def FnExactIsRelayWrongFalsely : Prop := fnExactIsRelayRow.holds Try.pinned (OpenSpec.ofChange fnExactIsRelayWrong)

/-- 'laws.FnExactFlatProfile': WHATEVER THE INPUT: true; the input reads as it did. -/
def fnExactFlatProfileSpec : ChangeSpec := { name := "fnExactFlatProfile", fn := fun _ => fun
  | [d1, d2] => { results := [.lit (.bool true)], args := [d1, d2] }
  | _ => none }
def fnExactFlatProfileRow : OpenClaim := { program := "ytjffblojognlbaa", sum := "c724208f5c51ed4257c83e7954c3f04b02782f881f3ed831779f6bd2cb8cc373", func := "loop.example/g01020/laws.FnExactFlatProfile", spec := "fnExactFlatProfile", apart := false }
def FnExactFlatProfileSaid : Prop := fnExactFlatProfileRow.holds Try.pinned (OpenSpec.ofChange fnExactFlatProfileSpec)

/-- ITS FALSE NEIGHBOUR: 'it returns false'. Refute it at one input. -/
def fnExactFlatProfileWrong : ChangeSpec := { name := "fnExactFlatProfile", fn := fun _ => fun
  | [d1, d2] => { results := [.lit (.bool false)], args := [d1, d2] }
  | _ => none }
def FnExactFlatProfileWrongFalsely : Prop := fnExactFlatProfileRow.holds Try.pinned (OpenSpec.ofChange fnExactFlatProfileWrong)

/-- 'laws.FnExactIsProfile': WHATEVER THE INPUT: true; the input reads as it did. -/
def fnExactIsProfileSpec : ChangeSpec := { name := "fnExactIsProfile", fn := fun _ => fun
  | [d] => { results := [.lit (.bool true)], args := [d] }
  | _ => none }
def fnExactIsProfileRow : OpenClaim := { program := "ytjffblojognlbaa", sum := "c724208f5c51ed4257c83e7954c3f04b02782f881f3ed831779f6bd2cb8cc373", func := "loop.example/g01020/laws.FnExactIsProfile", spec := "fnExactIsProfile", apart := false }
def FnExactIsProfileSaid : Prop := fnExactIsProfileRow.holds Try.pinned (OpenSpec.ofChange fnExactIsProfileSpec)

/-- ITS FALSE NEIGHBOUR: 'it returns false'. Refute it at one input. -/
def fnExactIsProfileWrong : ChangeSpec := { name := "fnExactIsProfile", fn := fun _ => fun
  | [d] => { results := [.lit (.bool false)], args := [d] }
  | _ => none }
def FnExactIsProfileWrongFalsely : Prop := fnExactIsProfileRow.holds Try.pinned (OpenSpec.ofChange fnExactIsProfileWrong)

/-- 'laws.FnExactRelayHoses': WHATEVER THE INPUT: true; the input reads as it did. -/
def fnExactRelayHosesSpec : ChangeSpec := { name := "fnExactRelayHoses", fn := fun _ => fun
  | [d1, d2] => { results := [.lit (.bool true)], args := [d1, d2] }
  | _ => none }
def fnExactRelayHosesRow : OpenClaim := { program := "ytjffblojognlbaa", sum := "c724208f5c51ed4257c83e7954c3f04b02782f881f3ed831779f6bd2cb8cc373", func := "loop.example/g01020/laws.FnExactRelayHoses", spec := "fnExactRelayHoses", apart := false }
def FnExactRelayHosesSaid : Prop := fnExactRelayHosesRow.holds Try.pinned (OpenSpec.ofChange fnExactRelayHosesSpec)

/-- ITS FALSE NEIGHBOUR: 'it returns false'. Refute it at one input. -/
def fnExactRelayHosesWrong : ChangeSpec := { name := "fnExactRelayHoses", fn := fun _ => fun
  | [d1, d2] => { results := [.lit (.bool false)], args := [d1, d2] }
  | _ => none }
def FnExactRelayHosesWrongFalsely : Prop := fnExactRelayHosesRow.holds Try.pinned (OpenSpec.ofChange fnExactRelayHosesWrong)

/-- 'laws.FnExactSteepestPart': WHATEVER THE INPUT: true; the input reads as it did. -/
def fnExactSteepestPartSpec : ChangeSpec := { name := "fnExactSteepestPart", fn := fun _ => fun
  | [d] => { results := [.lit (.bool true)], args := [d] }
  | _ => none }
def fnExactSteepestPartRow : OpenClaim := { program := "ytjffblojognlbaa", sum := "c724208f5c51ed4257c83e7954c3f04b02782f881f3ed831779f6bd2cb8cc373", func := "loop.example/g01020/laws.FnExactSteepestPart", spec := "fnExactSteepestPart", apart := false }
def FnExactSteepestPartSaid : Prop := fnExactSteepestPartRow.holds Try.pinned (OpenSpec.ofChange fnExactSteepestPartSpec)

/-- ITS FALSE NEIGHBOUR: 'it returns false'. Refute it at one input. -/
def fnExactSteepestPartWrong : ChangeSpec := { name := "fnExactSteepestPart", fn := fun _ => fun
  | [d] => { results := [.lit (.bool false)], args := [d] }
  | _ => none }
def FnExactSteepestPartWrongFalsely : Prop := fnExactSteepestPartRow.holds Try.pinned (OpenSpec.ofChange fnExactSteepestPartWrong)

/-- 'laws.FnExactFarthestStage': WHATEVER THE INPUT: true; the input reads as it did. -/
def fnExactFarthestStageSpec : ChangeSpec := { name := "fnExactFarthestStage", fn := fun _ => fun
  | [d1, d2, d3] => { results := [.lit (.bool true)], args := [d1, d2, d3] }
  | _ => none }
def fnExactFarthestStageRow : OpenClaim := { program := "ytjffblojognlbaa", sum := "c724208f5c51ed4257c83e7954c3f04b02782f881f3ed831779f6bd2cb8cc373", func := "loop.example/g01020/laws.FnExactFarthestStage", spec := "fnExactFarthestStage", apart := false }
def FnExactFarthestStageSaid : Prop := fnExactFarthestStageRow.holds Try.pinned (OpenSpec.ofChange fnExactFarthestStageSpec)

/-- ITS FALSE NEIGHBOUR: 'it returns false'. Refute it at one input. -/
def fnExactFarthestStageWrong : ChangeSpec := { name := "fnExactFarthestStage", fn := fun _ => fun
  | [d1, d2, d3] => { results := [.lit (.bool false)], args := [d1, d2, d3] }
  | _ => none }
def FnExactFarthestStageWrongFalsely : Prop := fnExactFarthestStageRow.holds Try.pinned (OpenSpec.ofChange fnExactFarthestStageWrong)

/-- 'laws.FnExactGreatestRelayFlow': WHATEVER THE INPUT: true; the input reads as it did. -/
def fnExactGreatestRelayFlowSpec : ChangeSpec := { name := "fnExactGreatestRelayFlow", fn := fun _ => fun
  | [d1, d2, d3] => { results := [.lit (.bool true)], args := [d1, d2, d3] }
  | _ => none }
def fnExactGreatestRelayFlowRow : OpenClaim := { program := "ytjffblojognlbaa", sum := "c724208f5c51ed4257c83e7954c3f04b02782f881f3ed831779f6bd2cb8cc373", func := "loop.example/g01020/laws.FnExactGreatestRelayFlow", spec := "fnExactGreatestRelayFlow", apart := false }
def FnExactGreatestRelayFlowSaid : Prop := fnExactGreatestRelayFlowRow.holds Try.pinned (OpenSpec.ofChange fnExactGreatestRelayFlowSpec)

/-- ITS FALSE NEIGHBOUR: 'it returns false'. Refute it at one input. -/
def fnExactGreatestRelayFlowWrong : ChangeSpec := { name := "fnExactGreatestRelayFlow", fn := fun _ => fun
  | [d1, d2, d3] => { results := [.lit (.bool false)], args := [d1, d2, d3] }
  | _ => none }
def FnExactGreatestRelayFlowWrongFalsely : Prop := fnExactGreatestRelayFlowRow.holds Try.pinned (OpenSpec.ofChange fnExactGreatestRelayFlowWrong)

/-- 'laws.FnExactPumpPlaces': WHATEVER THE INPUT: true; the input reads as it did. -/
def fnExactPumpPlacesSpec : ChangeSpec := { name := "fnExactPumpPlaces", fn := fun _ => fun
  | [d1, d2] => { results := [.lit (.bool true)], args := [d1, d2] }
  | _ => none }
def fnExactPumpPlacesRow : OpenClaim := { program := "ytjffblojognlbaa", sum := "c724208f5c51ed4257c83e7954c3f04b02782f881f3ed831779f6bd2cb8cc373", func := "loop.example/g01020/laws.FnExactPumpPlaces", spec := "fnExactPumpPlaces", apart := false }
def FnExactPumpPlacesSaid : Prop := fnExactPumpPlacesRow.holds Try.pinned (OpenSpec.ofChange fnExactPumpPlacesSpec)

/-- ITS FALSE NEIGHBOUR: 'it returns false'. Refute it at one input. -/
def fnExactPumpPlacesWrong : ChangeSpec := { name := "fnExactPumpPlaces", fn := fun _ => fun
  | [d1, d2] => { results := [.lit (.bool false)], args := [d1, d2] }
  | _ => none }
def FnExactPumpPlacesWrongFalsely : Prop := fnExactPumpPlacesRow.holds Try.pinned (OpenSpec.ofChange fnExactPumpPlacesWrong)

/-- 'laws.FnRelays': WHATEVER THE INPUT: true; the input reads as it did. -/
def fnRelaysSpec : ChangeSpec := { name := "fnRelays", fn := fun _ => fun
  | [d1, d2] => { results := [.lit (.bool true)], args := [d1, d2] }
  | _ => none }
def fnRelaysRow : OpenClaim := { program := "ytjffblojognlbaa", sum := "c724208f5c51ed4257c83e7954c3f04b02782f881f3ed831779f6bd2cb8cc373", func := "loop.example/g01020/laws.FnRelays", spec := "fnRelays", apart := false }
def FnRelaysSaid : Prop := fnRelaysRow.holds Try.pinned (OpenSpec.ofChange fnRelaysSpec)

/-- ITS FALSE NEIGHBOUR: 'it returns false'. Refute it at one input. -/
def fnRelaysWrong : ChangeSpec := { name := "fnRelays", fn := fun _ => fun
  | [d1, d2] => { results := [.lit (.bool false)], args := [d1, d2] }
  | _ => none }
def FnRelaysWrongFalsely : Prop := fnRelaysRow.holds Try.pinned (OpenSpec.ofChange fnRelaysWrong)

/-- 'laws.FnStages': WHATEVER THE INPUT: true; the input reads as it did. -/
def fnStagesSpec : ChangeSpec := { name := "fnStages", fn := fun _ => fun
  | [d1, d2] => { results := [.lit (.bool true)], args := [d1, d2] }
  | _ => none }
def fnStagesRow : OpenClaim := { program := "ytjffblojognlbaa", sum := "c724208f5c51ed4257c83e7954c3f04b02782f881f3ed831779f6bd2cb8cc373", func := "loop.example/g01020/laws.FnStages", spec := "fnStages", apart := false }
def FnStagesSaid : Prop := fnStagesRow.holds Try.pinned (OpenSpec.ofChange fnStagesSpec)

/-- ITS FALSE NEIGHBOUR: 'it returns false'. Refute it at one input. -/
def fnStagesWrong : ChangeSpec := { name := "fnStages", fn := fun _ => fun
  | [d1, d2] => { results := [.lit (.bool false)], args := [d1, d2] }
  | _ => none }
def FnStagesWrongFalsely : Prop := fnStagesRow.holds Try.pinned (OpenSpec.ofChange fnStagesWrong)

/- THE SECOND FORM. 'bulk': how many values and letters a reading holds, each counted each time it is reached (what is shared counts as often as it is met; a slice's spare places count too). A statement '..UptoSaid' is the law's where the arguments, and the package variables that the reading takes, are together of bulk at most 1048576: NARROWER than '..Said'. Prove '..Said' where nothing that the law and all that it calls make is longer than what came in: it says more and counts as full. Else prove '..UptoSaid'. A law counts once. -/
mutual
def uptoBulk {H : Type} : DataW H → Nat
  | .lit (.string bytes) => bytes.length + 1
  | .lit _ => 1
  | .nil => 1
  | .ptr d => uptoBulk d + 1
  | .slice elems spare => uptoBulkAll elems + uptoBulkAll spare + 1
  | .agg parts => uptoBulkAll parts + 1
  | .iface _ d => uptoBulk d + 1
  | .map entries => uptoBulkEntries entries + 1
  | .held _ => 1
def uptoBulkAll {H : Type} : List (DataW H) → Nat
  | [] => 0
  | d :: r => uptoBulk d + uptoBulkAll r
def uptoBulkEntries {H : Type} : List (Lit × DataW H) → Nat
  | [] => 0
  | x :: r => uptoBulkEntry x + uptoBulkEntries r
def uptoBulkEntry {H : Type} : Lit × DataW H → Nat
  | (.string bytes, d) => bytes.length + uptoBulk d + 1
  | (_, d) => uptoBulk d + 1
 end
def uptoSmall : (H : Type) → List (DataW H) → Bool := fun _ ds => decide (uptoBulkAll ds ≤ 1048576)
def OpenSpec.upto (s : _root_.Go.ChangeSpec) : _root_.Go.OpenSpec := { _root_.Go.OpenSpec.ofChange s with cond := some uptoSmall }

/-- 'laws.FnExactIsRelay', WHERE WHAT IT READS IS OF BULK AT MOST 1048576: true; the input reads as it did. -/
def fnExactIsRelayUptoRow : OpenClaim := { program := "ytjffblojognlbaa", sum := "c724208f5c51ed4257c83e7954c3f04b02782f881f3ed831779f6bd2cb8cc373", func := "loop.example/g01020/laws.FnExactIsRelay", spec := "fnExactIsRelay", apart := false, narrowed := true }
def FnExactIsRelayUptoSaid : Prop := fnExactIsRelayUptoRow.holds Try.pinned (OpenSpec.upto fnExactIsRelaySpec)

/-- 'laws.FnExactFlatProfile', WHERE WHAT IT READS IS OF BULK AT MOST 1048576: true; the input reads as it did. -/
def fnExactFlatProfileUptoRow : OpenClaim := { program := "ytjffblojognlbaa", sum := "c724208f5c51ed4257c83e7954c3f04b02782f881f3ed831779f6bd2cb8cc373", func := "loop.example/g01020/laws.FnExactFlatProfile", spec := "fnExactFlatProfile", apart := false, narrowed := true }
def FnExactFlatProfileUptoSaid : Prop := fnExactFlatProfileUptoRow.holds Try.pinned (OpenSpec.upto fnExactFlatProfileSpec)

/-- 'laws.FnExactIsProfile', WHERE WHAT IT READS IS OF BULK AT MOST 1048576: true; the input reads as it did. -/
def fnExactIsProfileUptoRow : OpenClaim := { program := "ytjffblojognlbaa", sum := "c724208f5c51ed4257c83e7954c3f04b02782f881f3ed831779f6bd2cb8cc373", func := "loop.example/g01020/laws.FnExactIsProfile", spec := "fnExactIsProfile", apart := false, narrowed := true }
def FnExactIsProfileUptoSaid : Prop := fnExactIsProfileUptoRow.holds Try.pinned (OpenSpec.upto fnExactIsProfileSpec)

/-- 'laws.FnExactRelayHoses', WHERE WHAT IT READS IS OF BULK AT MOST 1048576: true; the input reads as it did. -/
def fnExactRelayHosesUptoRow : OpenClaim := { program := "ytjffblojognlbaa", sum := "c724208f5c51ed4257c83e7954c3f04b02782f881f3ed831779f6bd2cb8cc373", func := "loop.example/g01020/laws.FnExactRelayHoses", spec := "fnExactRelayHoses", apart := false, narrowed := true }
def FnExactRelayHosesUptoSaid : Prop := fnExactRelayHosesUptoRow.holds Try.pinned (OpenSpec.upto fnExactRelayHosesSpec)

/-- 'laws.FnExactSteepestPart', WHERE WHAT IT READS IS OF BULK AT MOST 1048576: true; the input reads as it did. -/
def fnExactSteepestPartUptoRow : OpenClaim := { program := "ytjffblojognlbaa", sum := "c724208f5c51ed4257c83e7954c3f04b02782f881f3ed831779f6bd2cb8cc373", func := "loop.example/g01020/laws.FnExactSteepestPart", spec := "fnExactSteepestPart", apart := false, narrowed := true }
def FnExactSteepestPartUptoSaid : Prop := fnExactSteepestPartUptoRow.holds Try.pinned (OpenSpec.upto fnExactSteepestPartSpec)

/-- 'laws.FnExactFarthestStage', WHERE WHAT IT READS IS OF BULK AT MOST 1048576: true; the input reads as it did. -/
def fnExactFarthestStageUptoRow : OpenClaim := { program := "ytjffblojognlbaa", sum := "c724208f5c51ed4257c83e7954c3f04b02782f881f3ed831779f6bd2cb8cc373", func := "loop.example/g01020/laws.FnExactFarthestStage", spec := "fnExactFarthestStage", apart := false, narrowed := true }
def FnExactFarthestStageUptoSaid : Prop := fnExactFarthestStageUptoRow.holds Try.pinned (OpenSpec.upto fnExactFarthestStageSpec)

/-- 'laws.FnExactGreatestRelayFlow', WHERE WHAT IT READS IS OF BULK AT MOST 1048576: true; the input reads as it did. -/
def fnExactGreatestRelayFlowUptoRow : OpenClaim := { program := "ytjffblojognlbaa", sum := "c724208f5c51ed4257c83e7954c3f04b02782f881f3ed831779f6bd2cb8cc373", func := "loop.example/g01020/laws.FnExactGreatestRelayFlow", spec := "fnExactGreatestRelayFlow", apart := false, narrowed := true }
def FnExactGreatestRelayFlowUptoSaid : Prop := fnExactGreatestRelayFlowUptoRow.holds Try.pinned (OpenSpec.upto fnExactGreatestRelayFlowSpec)

/-- 'laws.FnExactPumpPlaces', WHERE WHAT IT READS IS OF BULK AT MOST 1048576: true; the input reads as it did. -/
def fnExactPumpPlacesUptoRow : OpenClaim := { program := "ytjffblojognlbaa", sum := "c724208f5c51ed4257c83e7954c3f04b02782f881f3ed831779f6bd2cb8cc373", func := "loop.example/g01020/laws.FnExactPumpPlaces", spec := "fnExactPumpPlaces", apart := false, narrowed := true }
def FnExactPumpPlacesUptoSaid : Prop := fnExactPumpPlacesUptoRow.holds Try.pinned (OpenSpec.upto fnExactPumpPlacesSpec)

/-- 'laws.FnRelays', WHERE WHAT IT READS IS OF BULK AT MOST 1048576: true; the input reads as it did. -/
def fnRelaysUptoRow : OpenClaim := { program := "ytjffblojognlbaa", sum := "c724208f5c51ed4257c83e7954c3f04b02782f881f3ed831779f6bd2cb8cc373", func := "loop.example/g01020/laws.FnRelays", spec := "fnRelays", apart := false, narrowed := true }
def FnRelaysUptoSaid : Prop := fnRelaysUptoRow.holds Try.pinned (OpenSpec.upto fnRelaysSpec)

/-- 'laws.FnStages', WHERE WHAT IT READS IS OF BULK AT MOST 1048576: true; the input reads as it did. -/
def fnStagesUptoRow : OpenClaim := { program := "ytjffblojognlbaa", sum := "c724208f5c51ed4257c83e7954c3f04b02782f881f3ed831779f6bd2cb8cc373", func := "loop.example/g01020/laws.FnStages", spec := "fnStages", apart := false, narrowed := true }
def FnStagesUptoSaid : Prop := fnStagesUptoRow.holds Try.pinned (OpenSpec.upto fnStagesSpec)

end Rows
end Go.Proofs.Ytjffblojognlbaa
