/-
  No cell of these rows narrows 'for every input' (looked for: loops, veiled, ifaces, maps, wideKeys, modest, calm, conditions, laid).
  DERIVED. THE GIVEN ROWS OF THIS SEAT. 12 by the template 'for every input the law returns true; each argument reads behind the call as it read before'; 0 by the template 'total and deterministic' (their statements: YtlfhedmmlfpekaaTotals.lean).
  GIVEN WITH THE SEED: the statements are not yours to turn. If you find one false, say at which input.
  Laid BY PROGRAM, IN A SANDBOX (cutbox-rows.mjs): the forced cells as the released guide's own fill.sh prints them over the translation 975aaa3a5c793e34… (all of the seat's roots in one cut). By AI agents, Wed Nov 11 2026. No macro, syntax, notation, axiom, sorry.
-/
import Derived.Test.YtlfhedmmlfpekaaChecked
import GoSem.Claim
import GoSem.ClaimJoined
import GoSem.ClaimMapViews
import Derived.JoinedTies
import Derived.KernelRfl
namespace Go.Proofs.Ytlfhedmmlfpekaa
/- THE CELL 'sum', in the pinned program and in every row, IS THE sha256 OF THE DUMP (.gsa) THAT YtlfhedmmlfpekaaProg.lean LOADS. Nothing in Lean hashes anything: it is a label: what it is worth is what the hold of that sum in a sandbox is worth. -/
noncomputable def Try.pinned : Pinned := { name := "ytlfhedmmlfpekaa", sum := "975aaa3a5c793e34a452abd326d967b3cad08bf4026efe5dd563c1cc70786079", checked := Try.checked }
namespace Rows
def none {H : Type} : Left H := { results := [], args := [] }

/-- 'laws.FnExactIsCase': WHATEVER THE INPUT: true; the input reads as it did. -/
def fnExactIsCaseSpec : ChangeSpec := { name := "fnExactIsCase", fn := fun _ => fun
  | [d] => { results := [.lit (.bool true)], args := [d] }
  | _ => none }
def fnExactIsCaseRow : OpenClaim := { program := "ytlfhedmmlfpekaa", sum := "975aaa3a5c793e34a452abd326d967b3cad08bf4026efe5dd563c1cc70786079", func := "loop.example/g01020/laws.FnExactIsCase", spec := "fnExactIsCase", apart := false }
def FnExactIsCaseSaid : Prop := fnExactIsCaseRow.holds Try.pinned (OpenSpec.ofChange fnExactIsCaseSpec)

/-- ITS FALSE NEIGHBOUR: 'it returns false'. Refute it at one input. -/
def fnExactIsCaseWrong : ChangeSpec := { name := "fnExactIsCase", fn := fun _ => fun
  | [d] => { results := [.lit (.bool false)], args := [d] }
  | _ => none }
def FnExactIsCaseWrongFalsely : Prop := fnExactIsCaseRow.holds Try.pinned (OpenSpec.ofChange fnExactIsCaseWrong)

/-- 'laws.FnExactIsTable': WHATEVER THE INPUT: true; the input reads as it did. -/
def fnExactIsTableSpec : ChangeSpec := { name := "fnExactIsTable", fn := fun _ => fun
  | [d] => { results := [.lit (.bool true)], args := [d] }
  | _ => none }
def fnExactIsTableRow : OpenClaim := { program := "ytlfhedmmlfpekaa", sum := "975aaa3a5c793e34a452abd326d967b3cad08bf4026efe5dd563c1cc70786079", func := "loop.example/g01020/laws.FnExactIsTable", spec := "fnExactIsTable", apart := false }
def FnExactIsTableSaid : Prop := fnExactIsTableRow.holds Try.pinned (OpenSpec.ofChange fnExactIsTableSpec)

/-- ITS FALSE NEIGHBOUR: 'it returns false'. Refute it at one input. -/
def fnExactIsTableWrong : ChangeSpec := { name := "fnExactIsTable", fn := fun _ => fun
  | [d] => { results := [.lit (.bool false)], args := [d] }
  | _ => none }
def FnExactIsTableWrongFalsely : Prop := fnExactIsTableRow.holds Try.pinned (OpenSpec.ofChange fnExactIsTableWrong)

/-- 'laws.FnExactRowFor': WHATEVER THE INPUT: true; the input reads as it did. -/
def fnExactRowForSpec : ChangeSpec := { name := "fnExactRowFor", fn := fun _ => fun
  | [d1, d2] => { results := [.lit (.bool true)], args := [d1, d2] }
  | _ => none }
def fnExactRowForRow : OpenClaim := { program := "ytlfhedmmlfpekaa", sum := "975aaa3a5c793e34a452abd326d967b3cad08bf4026efe5dd563c1cc70786079", func := "loop.example/g01020/laws.FnExactRowFor", spec := "fnExactRowFor", unfollowed := true, recurses := true, apart := false }
def FnExactRowForSaid : Prop := fnExactRowForRow.holds Try.pinned (OpenSpec.ofChange fnExactRowForSpec)

/-- ITS FALSE NEIGHBOUR: 'it returns false'. Refute it at one input. -/
def fnExactRowForWrong : ChangeSpec := { name := "fnExactRowFor", fn := fun _ => fun
  | [d1, d2] => { results := [.lit (.bool false)], args := [d1, d2] }
  | _ => none }
def FnExactRowForWrongFalsely : Prop := fnExactRowForRow.holds Try.pinned (OpenSpec.ofChange fnExactRowForWrong)

/-- 'laws.FnExactShareOfRow': WHATEVER THE INPUT: true; the input reads as it did. -/
def fnExactShareOfRowSpec : ChangeSpec := { name := "fnExactShareOfRow", fn := fun _ => fun
  | [d1, d2] => { results := [.lit (.bool true)], args := [d1, d2] }
  | _ => none }
def fnExactShareOfRowRow : OpenClaim := { program := "ytlfhedmmlfpekaa", sum := "975aaa3a5c793e34a452abd326d967b3cad08bf4026efe5dd563c1cc70786079", func := "loop.example/g01020/laws.FnExactShareOfRow", spec := "fnExactShareOfRow", unfollowed := true, recurses := true, apart := false }
def FnExactShareOfRowSaid : Prop := fnExactShareOfRowRow.holds Try.pinned (OpenSpec.ofChange fnExactShareOfRowSpec)

/-- ITS FALSE NEIGHBOUR: 'it returns false'. Refute it at one input. -/
def fnExactShareOfRowWrong : ChangeSpec := { name := "fnExactShareOfRow", fn := fun _ => fun
  | [d1, d2] => { results := [.lit (.bool false)], args := [d1, d2] }
  | _ => none }
def FnExactShareOfRowWrongFalsely : Prop := fnExactShareOfRowRow.holds Try.pinned (OpenSpec.ofChange fnExactShareOfRowWrong)

/-- 'laws.FnExactGapsOfTable': WHATEVER THE INPUT: true; the input reads as it did. -/
def fnExactGapsOfTableSpec : ChangeSpec := { name := "fnExactGapsOfTable", fn := fun _ => fun
  | [d] => { results := [.lit (.bool true)], args := [d] }
  | _ => none }
def fnExactGapsOfTableRow : OpenClaim := { program := "ytlfhedmmlfpekaa", sum := "975aaa3a5c793e34a452abd326d967b3cad08bf4026efe5dd563c1cc70786079", func := "loop.example/g01020/laws.FnExactGapsOfTable", spec := "fnExactGapsOfTable", unfollowed := true, recurses := true, apart := false }
def FnExactGapsOfTableSaid : Prop := fnExactGapsOfTableRow.holds Try.pinned (OpenSpec.ofChange fnExactGapsOfTableSpec)

/-- ITS FALSE NEIGHBOUR: 'it returns false'. Refute it at one input. -/
def fnExactGapsOfTableWrong : ChangeSpec := { name := "fnExactGapsOfTable", fn := fun _ => fun
  | [d] => { results := [.lit (.bool false)], args := [d] }
  | _ => none }
def FnExactGapsOfTableWrongFalsely : Prop := fnExactGapsOfTableRow.holds Try.pinned (OpenSpec.ofChange fnExactGapsOfTableWrong)

/-- 'laws.FnExactNeedFor': WHATEVER THE INPUT: true; the input reads as it did. -/
def fnExactNeedForSpec : ChangeSpec := { name := "fnExactNeedFor", fn := fun _ => fun
  | [d1, d2] => { results := [.lit (.bool true)], args := [d1, d2] }
  | _ => none }
def fnExactNeedForRow : OpenClaim := { program := "ytlfhedmmlfpekaa", sum := "975aaa3a5c793e34a452abd326d967b3cad08bf4026efe5dd563c1cc70786079", func := "loop.example/g01020/laws.FnExactNeedFor", spec := "fnExactNeedFor", unfollowed := true, recurses := true, apart := false }
def FnExactNeedForSaid : Prop := fnExactNeedForRow.holds Try.pinned (OpenSpec.ofChange fnExactNeedForSpec)

/-- ITS FALSE NEIGHBOUR: 'it returns false'. Refute it at one input. -/
def fnExactNeedForWrong : ChangeSpec := { name := "fnExactNeedFor", fn := fun _ => fun
  | [d1, d2] => { results := [.lit (.bool false)], args := [d1, d2] }
  | _ => none }
def FnExactNeedForWrongFalsely : Prop := fnExactNeedForRow.holds Try.pinned (OpenSpec.ofChange fnExactNeedForWrong)

/-- 'laws.FnExactIsStronger': WHATEVER THE INPUT: true; the input reads as it did. -/
def fnExactIsStrongerSpec : ChangeSpec := { name := "fnExactIsStronger", fn := fun _ => fun
  | [d1, d2] => { results := [.lit (.bool true)], args := [d1, d2] }
  | _ => none }
def fnExactIsStrongerRow : OpenClaim := { program := "ytlfhedmmlfpekaa", sum := "975aaa3a5c793e34a452abd326d967b3cad08bf4026efe5dd563c1cc70786079", func := "loop.example/g01020/laws.FnExactIsStronger", spec := "fnExactIsStronger", unfollowed := true, recurses := true, apart := false }
def FnExactIsStrongerSaid : Prop := fnExactIsStrongerRow.holds Try.pinned (OpenSpec.ofChange fnExactIsStrongerSpec)

/-- ITS FALSE NEIGHBOUR: 'it returns false'. Refute it at one input. -/
def fnExactIsStrongerWrong : ChangeSpec := { name := "fnExactIsStronger", fn := fun _ => fun
  | [d1, d2] => { results := [.lit (.bool false)], args := [d1, d2] }
  | _ => none }
def FnExactIsStrongerWrongFalsely : Prop := fnExactIsStrongerRow.holds Try.pinned (OpenSpec.ofChange fnExactIsStrongerWrong)

/-- 'laws.FnExactConflictsOf': WHATEVER THE INPUT: true; the input reads as it did. -/
def fnExactConflictsOfSpec : ChangeSpec := { name := "fnExactConflictsOf", fn := fun _ => fun
  | [d] => { results := [.lit (.bool true)], args := [d] }
  | _ => none }
def fnExactConflictsOfRow : OpenClaim := { program := "ytlfhedmmlfpekaa", sum := "975aaa3a5c793e34a452abd326d967b3cad08bf4026efe5dd563c1cc70786079", func := "loop.example/g01020/laws.FnExactConflictsOf", spec := "fnExactConflictsOf", apart := false }
def FnExactConflictsOfSaid : Prop := fnExactConflictsOfRow.holds Try.pinned (OpenSpec.ofChange fnExactConflictsOfSpec)

/-- ITS FALSE NEIGHBOUR: 'it returns false'. Refute it at one input. -/
def fnExactConflictsOfWrong : ChangeSpec := { name := "fnExactConflictsOf", fn := fun _ => fun
  | [d] => { results := [.lit (.bool false)], args := [d] }
  | _ => none }
def FnExactConflictsOfWrongFalsely : Prop := fnExactConflictsOfRow.holds Try.pinned (OpenSpec.ofChange fnExactConflictsOfWrong)

/-- 'laws.FnExactHiddenRows': WHATEVER THE INPUT: true; the input reads as it did. -/
def fnExactHiddenRowsSpec : ChangeSpec := { name := "fnExactHiddenRows", fn := fun _ => fun
  | [d] => { results := [.lit (.bool true)], args := [d] }
  | _ => none }
def fnExactHiddenRowsRow : OpenClaim := { program := "ytlfhedmmlfpekaa", sum := "975aaa3a5c793e34a452abd326d967b3cad08bf4026efe5dd563c1cc70786079", func := "loop.example/g01020/laws.FnExactHiddenRows", spec := "fnExactHiddenRows", unfollowed := true, recurses := true, apart := false }
def FnExactHiddenRowsSaid : Prop := fnExactHiddenRowsRow.holds Try.pinned (OpenSpec.ofChange fnExactHiddenRowsSpec)

/-- ITS FALSE NEIGHBOUR: 'it returns false'. Refute it at one input. -/
def fnExactHiddenRowsWrong : ChangeSpec := { name := "fnExactHiddenRows", fn := fun _ => fun
  | [d] => { results := [.lit (.bool false)], args := [d] }
  | _ => none }
def FnExactHiddenRowsWrongFalsely : Prop := fnExactHiddenRowsRow.holds Try.pinned (OpenSpec.ofChange fnExactHiddenRowsWrong)

/-- 'laws.FnExactWithoutHidden': WHATEVER THE INPUT: true; the input reads as it did. -/
def fnExactWithoutHiddenSpec : ChangeSpec := { name := "fnExactWithoutHidden", fn := fun _ => fun
  | [d] => { results := [.lit (.bool true)], args := [d] }
  | _ => none }
def fnExactWithoutHiddenRow : OpenClaim := { program := "ytlfhedmmlfpekaa", sum := "975aaa3a5c793e34a452abd326d967b3cad08bf4026efe5dd563c1cc70786079", func := "loop.example/g01020/laws.FnExactWithoutHidden", spec := "fnExactWithoutHidden", unfollowed := true, recurses := true, apart := false }
def FnExactWithoutHiddenSaid : Prop := fnExactWithoutHiddenRow.holds Try.pinned (OpenSpec.ofChange fnExactWithoutHiddenSpec)

/-- ITS FALSE NEIGHBOUR: 'it returns false'. Refute it at one input. -/
def fnExactWithoutHiddenWrong : ChangeSpec := { name := "fnExactWithoutHidden", fn := fun _ => fun
  | [d] => { results := [.lit (.bool false)], args := [d] }
  | _ => none }
def FnExactWithoutHiddenWrongFalsely : Prop := fnExactWithoutHiddenRow.holds Try.pinned (OpenSpec.ofChange fnExactWithoutHiddenWrong)

/-- 'laws.FnExactInsertRow': WHATEVER THE INPUT: true; the input reads as it did. -/
def fnExactInsertRowSpec : ChangeSpec := { name := "fnExactInsertRow", fn := fun _ => fun
  | [d1, d2, d3] => { results := [.lit (.bool true)], args := [d1, d2, d3] }
  | _ => none }
def fnExactInsertRowRow : OpenClaim := { program := "ytlfhedmmlfpekaa", sum := "975aaa3a5c793e34a452abd326d967b3cad08bf4026efe5dd563c1cc70786079", func := "loop.example/g01020/laws.FnExactInsertRow", spec := "fnExactInsertRow", inPlace := ["slices.overlaps[loop.example/g01020/impl.Row]"], apart := false }
def FnExactInsertRowSaid : Prop := fnExactInsertRowRow.holds Try.pinned (OpenSpec.ofChange fnExactInsertRowSpec)

/-- ITS FALSE NEIGHBOUR: 'it returns false'. Refute it at one input. -/
def fnExactInsertRowWrong : ChangeSpec := { name := "fnExactInsertRow", fn := fun _ => fun
  | [d1, d2, d3] => { results := [.lit (.bool false)], args := [d1, d2, d3] }
  | _ => none }
def FnExactInsertRowWrongFalsely : Prop := fnExactInsertRowRow.holds Try.pinned (OpenSpec.ofChange fnExactInsertRowWrong)

/-- 'laws.FnAttendance': WHATEVER THE INPUT: true; the input reads as it did. -/
def fnAttendanceSpec : ChangeSpec := { name := "fnAttendance", fn := fun _ => fun
  | [d1, d2] => { results := [.lit (.bool true)], args := [d1, d2] }
  | _ => none }
def fnAttendanceRow : OpenClaim := { program := "ytlfhedmmlfpekaa", sum := "975aaa3a5c793e34a452abd326d967b3cad08bf4026efe5dd563c1cc70786079", func := "loop.example/g01020/laws.FnAttendance", spec := "fnAttendance", unfollowed := true, recurses := true, apart := false }
def FnAttendanceSaid : Prop := fnAttendanceRow.holds Try.pinned (OpenSpec.ofChange fnAttendanceSpec)

/-- ITS FALSE NEIGHBOUR: 'it returns false'. Refute it at one input. -/
def fnAttendanceWrong : ChangeSpec := { name := "fnAttendance", fn := fun _ => fun
  | [d1, d2] => { results := [.lit (.bool false)], args := [d1, d2] }
  | _ => none }
def FnAttendanceWrongFalsely : Prop := fnAttendanceRow.holds Try.pinned (OpenSpec.ofChange fnAttendanceWrong)

/- THE SECOND FORM. 'bulk': how many values and letters a reading holds, each counted each time it is reached (what is shared counts as often as it is met; a slice's spare places count too). A statement '..UptoSaid' is the law's where the arguments, and the package variables that the reading takes, are together of bulk at most 1048576: NARROWER than '..Said'. Prove '..Said' where nothing that the law and all that it calls make is longer than what came in: it says more and counts as full. Else prove '..UptoSaid'. A law counts once. -/
mutual
def uptoBulk {H : Type} : DataW H → Nat
  | .lit (.string bytes) => bytes.length + 1
  | .lit _ => 1
  | .nil => 1
  | .ptr d => uptoBulk d + 1
  | .slice elems spare => uptoBulkAll elems + uptoBulkAll spare + 1
  | .agg parts => uptoBulkAll parts + 1
  | .iface _ d => uptoBulk d + 1
  | .map entries => uptoBulkEntries entries + 1
  | .held _ => 1
def uptoBulkAll {H : Type} : List (DataW H) → Nat
  | [] => 0
  | d :: r => uptoBulk d + uptoBulkAll r
def uptoBulkEntries {H : Type} : List (Lit × DataW H) → Nat
  | [] => 0
  | x :: r => uptoBulkEntry x + uptoBulkEntries r
def uptoBulkEntry {H : Type} : Lit × DataW H → Nat
  | (.string bytes, d) => bytes.length + uptoBulk d + 1
  | (_, d) => uptoBulk d + 1
 end
def uptoSmall : (H : Type) → List (DataW H) → Bool := fun _ ds => decide (uptoBulkAll ds ≤ 1048576)
def OpenSpec.upto (s : _root_.Go.ChangeSpec) : _root_.Go.OpenSpec := { _root_.Go.OpenSpec.ofChange s with cond := some uptoSmall }

/-- 'laws.FnExactIsCase', WHERE WHAT IT READS IS OF BULK AT MOST 1048576: true; the input reads as it did. -/
def fnExactIsCaseUptoRow : OpenClaim := { program := "ytlfhedmmlfpekaa", sum := "975aaa3a5c793e34a452abd326d967b3cad08bf4026efe5dd563c1cc70786079", func := "loop.example/g01020/laws.FnExactIsCase", spec := "fnExactIsCase", apart := false, narrowed := true }
def FnExactIsCaseUptoSaid : Prop := fnExactIsCaseUptoRow.holds Try.pinned (OpenSpec.upto fnExactIsCaseSpec)

/-- 'laws.FnExactIsTable', WHERE WHAT IT READS IS OF BULK AT MOST 1048576: true; the input reads as it did. -/
def fnExactIsTableUptoRow : OpenClaim := { program := "ytlfhedmmlfpekaa", sum := "975aaa3a5c793e34a452abd326d967b3cad08bf4026efe5dd563c1cc70786079", func := "loop.example/g01020/laws.FnExactIsTable", spec := "fnExactIsTable", apart := false, narrowed := true }
def FnExactIsTableUptoSaid : Prop := fnExactIsTableUptoRow.holds Try.pinned (OpenSpec.upto fnExactIsTableSpec)

/-- 'laws.FnExactRowFor', WHERE WHAT IT READS IS OF BULK AT MOST 1048576: true; the input reads as it did. -/
def fnExactRowForUptoRow : OpenClaim := { program := "ytlfhedmmlfpekaa", sum := "975aaa3a5c793e34a452abd326d967b3cad08bf4026efe5dd563c1cc70786079", func := "loop.example/g01020/laws.FnExactRowFor", spec := "fnExactRowFor", unfollowed := true, recurses := true, apart := false, narrowed := true }
def FnExactRowForUptoSaid : Prop := fnExactRowForUptoRow.holds Try.pinned (OpenSpec.upto fnExactRowForSpec)

/-- 'laws.FnExactShareOfRow', WHERE WHAT IT READS IS OF BULK AT MOST 1048576: true; the input reads as it did. -/
def fnExactShareOfRowUptoRow : OpenClaim := { program := "ytlfhedmmlfpekaa", sum := "975aaa3a5c793e34a452abd326d967b3cad08bf4026efe5dd563c1cc70786079", func := "loop.example/g01020/laws.FnExactShareOfRow", spec := "fnExactShareOfRow", unfollowed := true, recurses := true, apart := false, narrowed := true }
def FnExactShareOfRowUptoSaid : Prop := fnExactShareOfRowUptoRow.holds Try.pinned (OpenSpec.upto fnExactShareOfRowSpec)

/-- 'laws.FnExactGapsOfTable', WHERE WHAT IT READS IS OF BULK AT MOST 1048576: true; the input reads as it did. -/
def fnExactGapsOfTableUptoRow : OpenClaim := { program := "ytlfhedmmlfpekaa", sum := "975aaa3a5c793e34a452abd326d967b3cad08bf4026efe5dd563c1cc70786079", func := "loop.example/g01020/laws.FnExactGapsOfTable", spec := "fnExactGapsOfTable", unfollowed := true, recurses := true, apart := false, narrowed := true }
def FnExactGapsOfTableUptoSaid : Prop := fnExactGapsOfTableUptoRow.holds Try.pinned (OpenSpec.upto fnExactGapsOfTableSpec)

/-- 'laws.FnExactNeedFor', WHERE WHAT IT READS IS OF BULK AT MOST 1048576: true; the input reads as it did. -/
def fnExactNeedForUptoRow : OpenClaim := { program := "ytlfhedmmlfpekaa", sum := "975aaa3a5c793e34a452abd326d967b3cad08bf4026efe5dd563c1cc70786079", func := "loop.example/g01020/laws.FnExactNeedFor", spec := "fnExactNeedFor", unfollowed := true, recurses := true, apart := false, narrowed := true }
def FnExactNeedForUptoSaid : Prop := fnExactNeedForUptoRow.holds Try.pinned (OpenSpec.upto fnExactNeedForSpec)

/-- 'laws.FnExactIsStronger', WHERE WHAT IT READS IS OF BULK AT MOST 1048576: true; the input reads as it did. -/
def fnExactIsStrongerUptoRow : OpenClaim := { program := "ytlfhedmmlfpekaa", sum := "975aaa3a5c793e34a452abd326d967b3cad08bf4026efe5dd563c1cc70786079", func := "loop.example/g01020/laws.FnExactIsStronger", spec := "fnExactIsStronger", unfollowed := true, recurses := true, apart := false, narrowed := true }
def FnExactIsStrongerUptoSaid : Prop := fnExactIsStrongerUptoRow.holds Try.pinned (OpenSpec.upto fnExactIsStrongerSpec)

/-- 'laws.FnExactConflictsOf', WHERE WHAT IT READS IS OF BULK AT MOST 1048576: true; the input reads as it did. -/
def fnExactConflictsOfUptoRow : OpenClaim := { program := "ytlfhedmmlfpekaa", sum := "975aaa3a5c793e34a452abd326d967b3cad08bf4026efe5dd563c1cc70786079", func := "loop.example/g01020/laws.FnExactConflictsOf", spec := "fnExactConflictsOf", apart := false, narrowed := true }
def FnExactConflictsOfUptoSaid : Prop := fnExactConflictsOfUptoRow.holds Try.pinned (OpenSpec.upto fnExactConflictsOfSpec)

/-- 'laws.FnExactHiddenRows', WHERE WHAT IT READS IS OF BULK AT MOST 1048576: true; the input reads as it did. -/
def fnExactHiddenRowsUptoRow : OpenClaim := { program := "ytlfhedmmlfpekaa", sum := "975aaa3a5c793e34a452abd326d967b3cad08bf4026efe5dd563c1cc70786079", func := "loop.example/g01020/laws.FnExactHiddenRows", spec := "fnExactHiddenRows", unfollowed := true, recurses := true, apart := false, narrowed := true }
def FnExactHiddenRowsUptoSaid : Prop := fnExactHiddenRowsUptoRow.holds Try.pinned (OpenSpec.upto fnExactHiddenRowsSpec)

/-- 'laws.FnExactWithoutHidden', WHERE WHAT IT READS IS OF BULK AT MOST 1048576: true; the input reads as it did. -/
def fnExactWithoutHiddenUptoRow : OpenClaim := { program := "ytlfhedmmlfpekaa", sum := "975aaa3a5c793e34a452abd326d967b3cad08bf4026efe5dd563c1cc70786079", func := "loop.example/g01020/laws.FnExactWithoutHidden", spec := "fnExactWithoutHidden", unfollowed := true, recurses := true, apart := false, narrowed := true }
def FnExactWithoutHiddenUptoSaid : Prop := fnExactWithoutHiddenUptoRow.holds Try.pinned (OpenSpec.upto fnExactWithoutHiddenSpec)

/-- 'laws.FnExactInsertRow', WHERE WHAT IT READS IS OF BULK AT MOST 1048576: true; the input reads as it did. -/
def fnExactInsertRowUptoRow : OpenClaim := { program := "ytlfhedmmlfpekaa", sum := "975aaa3a5c793e34a452abd326d967b3cad08bf4026efe5dd563c1cc70786079", func := "loop.example/g01020/laws.FnExactInsertRow", spec := "fnExactInsertRow", inPlace := ["slices.overlaps[loop.example/g01020/impl.Row]"], apart := false, narrowed := true }
def FnExactInsertRowUptoSaid : Prop := fnExactInsertRowUptoRow.holds Try.pinned (OpenSpec.upto fnExactInsertRowSpec)

/-- 'laws.FnAttendance', WHERE WHAT IT READS IS OF BULK AT MOST 1048576: true; the input reads as it did. -/
def fnAttendanceUptoRow : OpenClaim := { program := "ytlfhedmmlfpekaa", sum := "975aaa3a5c793e34a452abd326d967b3cad08bf4026efe5dd563c1cc70786079", func := "loop.example/g01020/laws.FnAttendance", spec := "fnAttendance", unfollowed := true, recurses := true, apart := false, narrowed := true }
def FnAttendanceUptoSaid : Prop := fnAttendanceUptoRow.holds Try.pinned (OpenSpec.upto fnAttendanceSpec)

end Rows
end Go.Proofs.Ytlfhedmmlfpekaa
