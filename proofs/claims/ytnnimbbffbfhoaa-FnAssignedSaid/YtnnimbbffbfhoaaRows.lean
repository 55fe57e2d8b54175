/-
  No cell of these rows narrows 'for every input' (looked for: loops, veiled, ifaces, maps, wideKeys, modest, calm, conditions, laid).
  DERIVED. THE GIVEN ROWS OF THIS SEAT. 10 by the template 'for every input the law returns true; each argument reads behind the call as it read before'; 0 by the template 'total and deterministic' (their statements: YtnnimbbffbfhoaaTotals.lean).
  GIVEN WITH THE SEED: the statements are not yours to turn. If you find one false, say at which input.
  Laid BY PROGRAM, IN A SANDBOX (cutbox-rows.mjs): the forced cells as the released guide's own fill.sh prints them over the translation ec425d460d4a35d1… (all of the seat's roots in one cut). By AI agents, Wed Nov 11 2026. No macro, syntax, notation, axiom, sorry.
-/
import Derived.Test.YtnnimbbffbfhoaaChecked
import GoSem.Claim
import GoSem.ClaimJoined
import GoSem.ClaimMapViews
import Derived.JoinedTies
import Derived.KernelRfl
namespace Go.Proofs.Ytnnimbbffbfhoaa
/- THE CELL 'sum', in the pinned program and in every row, IS THE sha256 OF THE DUMP (.gsa) THAT YtnnimbbffbfhoaaProg.lean LOADS. Nothing in Lean hashes anything: it is a label: what it is worth is what the hold of that sum in a sandbox is worth. -/
noncomputable def Try.pinned : Pinned := { name := "ytnnimbbffbfhoaa", sum := "ec425d460d4a35d1cea3d15fc4f1b23bcb09112541053f1b2bade6a0ee7dd74d", checked := Try.checked }
namespace Rows
def none {H : Type} : Left H := { results := [], args := [] }

/-- 'laws.FnExactExpectOk': WHATEVER THE INPUT: true; the input reads as it did. -/
def fnExactExpectOkSpec : ChangeSpec := { name := "fnExactExpectOk", fn := fun _ => fun
  | [d] => { results := [.lit (.bool true)], args := [d] }
  | _ => none }
def fnExactExpectOkRow : OpenClaim := { program := "ytnnimbbffbfhoaa", sum := "ec425d460d4a35d1cea3d15fc4f1b23bcb09112541053f1b2bade6a0ee7dd74d", func := "loop.example/g03319/laws.FnExactExpectOk", spec := "fnExactExpectOk", unfollowed := true, recurses := true, apart := false }
def FnExactExpectOkSaid : Prop := fnExactExpectOkRow.holds Try.pinned (OpenSpec.ofChange fnExactExpectOkSpec)

/-- ITS FALSE NEIGHBOUR: 'it returns false'. Refute it at one input. -/
def fnExactExpectOkWrong : ChangeSpec := { name := "fnExactExpectOk", fn := fun _ => fun
  | [d] => { results := [.lit (.bool false)], args := [d] }
  | _ => none }
def FnExactExpectOkWrongFalsely : Prop := fnExactExpectOkRow.holds Try.pinned (OpenSpec.ofChange fnExactExpectOkWrong)

/-- 'laws.FnExactSightsOk': WHATEVER THE INPUT: true; the input reads as it did. -/
def fnExactSightsOkSpec : ChangeSpec := { name := "fnExactSightsOk", fn := fun _ => fun
  | [d] => { results := [.lit (.bool true)], args := [d] }
  | _ => none }
def fnExactSightsOkRow : OpenClaim := { program := "ytnnimbbffbfhoaa", sum := "ec425d460d4a35d1cea3d15fc4f1b23bcb09112541053f1b2bade6a0ee7dd74d", func := "loop.example/g03319/laws.FnExactSightsOk", spec := "fnExactSightsOk", unfollowed := true, recurses := true, apart := false }
def FnExactSightsOkSaid : Prop := fnExactSightsOkRow.holds Try.pinned (OpenSpec.ofChange fnExactSightsOkSpec)

/-- ITS FALSE NEIGHBOUR: 'it returns false'. Refute it at one input. -/
def fnExactSightsOkWrong : ChangeSpec := { name := "fnExactSightsOk", fn := fun _ => fun
  | [d] => { results := [.lit (.bool false)], args := [d] }
  | _ => none }
def FnExactSightsOkWrongFalsely : Prop := fnExactSightsOkRow.holds Try.pinned (OpenSpec.ofChange fnExactSightsOkWrong)

/-- 'laws.FnExactAssign': WHATEVER THE INPUT: true; the input reads as it did. -/
def fnExactAssignSpec : ChangeSpec := { name := "fnExactAssign", fn := fun _ => fun
  | [d1, d2] => { results := [.lit (.bool true)], args := [d1, d2] }
  | _ => none }
def fnExactAssignRow : OpenClaim := { program := "ytnnimbbffbfhoaa", sum := "ec425d460d4a35d1cea3d15fc4f1b23bcb09112541053f1b2bade6a0ee7dd74d", func := "loop.example/g03319/laws.FnExactAssign", spec := "fnExactAssign", unfollowed := true, recurses := true, apart := false }
def FnExactAssignSaid : Prop := fnExactAssignRow.holds Try.pinned (OpenSpec.ofChange fnExactAssignSpec)

/-- ITS FALSE NEIGHBOUR: 'it returns false'. Refute it at one input. -/
def fnExactAssignWrong : ChangeSpec := { name := "fnExactAssign", fn := fun _ => fun
  | [d1, d2] => { results := [.lit (.bool false)], args := [d1, d2] }
  | _ => none }
def FnExactAssignWrongFalsely : Prop := fnExactAssignRow.holds Try.pinned (OpenSpec.ofChange fnExactAssignWrong)

/-- 'laws.FnExactMissing': WHATEVER THE INPUT: true; the input reads as it did. -/
def fnExactMissingSpec : ChangeSpec := { name := "fnExactMissing", fn := fun _ => fun
  | [d1, d2, d3] => { results := [.lit (.bool true)], args := [d1, d2, d3] }
  | _ => none }
def fnExactMissingRow : OpenClaim := { program := "ytnnimbbffbfhoaa", sum := "ec425d460d4a35d1cea3d15fc4f1b23bcb09112541053f1b2bade6a0ee7dd74d", func := "loop.example/g03319/laws.FnExactMissing", spec := "fnExactMissing", unfollowed := true, recurses := true, apart := false }
def FnExactMissingSaid : Prop := fnExactMissingRow.holds Try.pinned (OpenSpec.ofChange fnExactMissingSpec)

/-- ITS FALSE NEIGHBOUR: 'it returns false'. Refute it at one input. -/
def fnExactMissingWrong : ChangeSpec := { name := "fnExactMissing", fn := fun _ => fun
  | [d1, d2, d3] => { results := [.lit (.bool false)], args := [d1, d2, d3] }
  | _ => none }
def FnExactMissingWrongFalsely : Prop := fnExactMissingRow.holds Try.pinned (OpenSpec.ofChange fnExactMissingWrong)

/-- 'laws.FnExactMostAssigned': WHATEVER THE INPUT: true; the input reads as it did. -/
def fnExactMostAssignedSpec : ChangeSpec := { name := "fnExactMostAssigned", fn := fun _ => fun
  | [d1, d2] => { results := [.lit (.bool true)], args := [d1, d2] }
  | _ => none }
def fnExactMostAssignedRow : OpenClaim := { program := "ytnnimbbffbfhoaa", sum := "ec425d460d4a35d1cea3d15fc4f1b23bcb09112541053f1b2bade6a0ee7dd74d", func := "loop.example/g03319/laws.FnExactMostAssigned", spec := "fnExactMostAssigned", unfollowed := true, recurses := true, apart := false }
def FnExactMostAssignedSaid : Prop := fnExactMostAssignedRow.holds Try.pinned (OpenSpec.ofChange fnExactMostAssignedSpec)

/-- ITS FALSE NEIGHBOUR: 'it returns false'. Refute it at one input. -/
def fnExactMostAssignedWrong : ChangeSpec := { name := "fnExactMostAssigned", fn := fun _ => fun
  | [d1, d2] => { results := [.lit (.bool false)], args := [d1, d2] }
  | _ => none }
def FnExactMostAssignedWrongFalsely : Prop := fnExactMostAssignedRow.holds Try.pinned (OpenSpec.ofChange fnExactMostAssignedWrong)

/-- 'laws.FnEveryTaking': WHATEVER THE INPUT: true; the input reads as it did. -/
def fnEveryTakingSpec : ChangeSpec := { name := "fnEveryTaking", fn := fun _ => fun
  | [d1, d2, d3] => { results := [.lit (.bool true)], args := [d1, d2, d3] }
  | _ => none }
def fnEveryTakingRow : OpenClaim := { program := "ytnnimbbffbfhoaa", sum := "ec425d460d4a35d1cea3d15fc4f1b23bcb09112541053f1b2bade6a0ee7dd74d", func := "loop.example/g03319/laws.FnEveryTaking", spec := "fnEveryTaking", unfollowed := true, recurses := true, apart := false }
def FnEveryTakingSaid : Prop := fnEveryTakingRow.holds Try.pinned (OpenSpec.ofChange fnEveryTakingSpec)

/-- ITS FALSE NEIGHBOUR: 'it returns false'. Refute it at one input. -/
def fnEveryTakingWrong : ChangeSpec := { name := "fnEveryTaking", fn := fun _ => fun
  | [d1, d2, d3] => { results := [.lit (.bool false)], args := [d1, d2, d3] }
  | _ => none }
def FnEveryTakingWrongFalsely : Prop := fnEveryTakingRow.holds Try.pinned (OpenSpec.ofChange fnEveryTakingWrong)

/-- 'laws.FnAssigned': WHATEVER THE INPUT: true; the input reads as it did. -/
def fnAssignedSpec : ChangeSpec := { name := "fnAssigned", fn := fun _ => fun
  | [d] => { results := [.lit (.bool true)], args := [d] }
  | _ => none }
def fnAssignedRow : OpenClaim := { program := "ytnnimbbffbfhoaa", sum := "ec425d460d4a35d1cea3d15fc4f1b23bcb09112541053f1b2bade6a0ee7dd74d", func := "loop.example/g03319/laws.FnAssigned", spec := "fnAssigned", unfollowed := true, recurses := true, apart := false }
def FnAssignedSaid : Prop := fnAssignedRow.holds Try.pinned (OpenSpec.ofChange fnAssignedSpec)

/-- ITS FALSE NEIGHBOUR: 'it returns false'. Refute it at one input. -/
def fnAssignedWrong : ChangeSpec := { name := "fnAssigned", fn := fun _ => fun
  | [d] => { results := [.lit (.bool false)], args := [d] }
  | _ => none }
def FnAssignedWrongFalsely : Prop := fnAssignedRow.holds Try.pinned (OpenSpec.ofChange fnAssignedWrong)

/-- 'laws.FnExactWindows': WHATEVER THE INPUT: true; the input reads as it did. -/
def fnExactWindowsSpec : ChangeSpec := { name := "fnExactWindows", fn := fun _ => fun
  | [d1, d2, d3, d4] => { results := [.lit (.bool true)], args := [d1, d2, d3, d4] }
  | _ => none }
def fnExactWindowsRow : OpenClaim := { program := "ytnnimbbffbfhoaa", sum := "ec425d460d4a35d1cea3d15fc4f1b23bcb09112541053f1b2bade6a0ee7dd74d", func := "loop.example/g03319/laws.FnExactWindows", spec := "fnExactWindows", unfollowed := true, recurses := true, apart := false }
def FnExactWindowsSaid : Prop := fnExactWindowsRow.holds Try.pinned (OpenSpec.ofChange fnExactWindowsSpec)

/-- ITS FALSE NEIGHBOUR: 'it returns false'. Refute it at one input. -/
def fnExactWindowsWrong : ChangeSpec := { name := "fnExactWindows", fn := fun _ => fun
  | [d1, d2, d3, d4] => { results := [.lit (.bool false)], args := [d1, d2, d3, d4] }
  | _ => none }
def FnExactWindowsWrongFalsely : Prop := fnExactWindowsRow.holds Try.pinned (OpenSpec.ofChange fnExactWindowsWrong)

/-- 'laws.FnWindows': WHATEVER THE INPUT: true; the input reads as it did. -/
def fnWindowsSpec : ChangeSpec := { name := "fnWindows", fn := fun _ => fun
  | [d] => { results := [.lit (.bool true)], args := [d] }
  | _ => none }
def fnWindowsRow : OpenClaim := { program := "ytnnimbbffbfhoaa", sum := "ec425d460d4a35d1cea3d15fc4f1b23bcb09112541053f1b2bade6a0ee7dd74d", func := "loop.example/g03319/laws.FnWindows", spec := "fnWindows", unfollowed := true, recurses := true, apart := false }
def FnWindowsSaid : Prop := fnWindowsRow.holds Try.pinned (OpenSpec.ofChange fnWindowsSpec)

/-- ITS FALSE NEIGHBOUR: 'it returns false'. Refute it at one input. -/
def fnWindowsWrong : ChangeSpec := { name := "fnWindows", fn := fun _ => fun
  | [d] => { results := [.lit (.bool false)], args := [d] }
  | _ => none }
def FnWindowsWrongFalsely : Prop := fnWindowsRow.holds Try.pinned (OpenSpec.ofChange fnWindowsWrong)

/-- 'laws.FnBeltRoom': WHATEVER THE INPUT: true; the input reads as it did. -/
def fnBeltRoomSpec : ChangeSpec := { name := "fnBeltRoom", fn := fun _ => fun
  | [d] => { results := [.lit (.bool true)], args := [d] }
  | _ => none }
def fnBeltRoomRow : OpenClaim := { program := "ytnnimbbffbfhoaa", sum := "ec425d460d4a35d1cea3d15fc4f1b23bcb09112541053f1b2bade6a0ee7dd74d", func := "loop.example/g03319/laws.FnBeltRoom", spec := "fnBeltRoom", unfollowed := true, recurses := true, apart := false }
def FnBeltRoomSaid : Prop := fnBeltRoomRow.holds Try.pinned (OpenSpec.ofChange fnBeltRoomSpec)

/-- ITS FALSE NEIGHBOUR: 'it returns false'. Refute it at one input. -/
def fnBeltRoomWrong : ChangeSpec := { name := "fnBeltRoom", fn := fun _ => fun
  | [d] => { results := [.lit (.bool false)], args := [d] }
  | _ => none }
def FnBeltRoomWrongFalsely : Prop := fnBeltRoomRow.holds Try.pinned (OpenSpec.ofChange fnBeltRoomWrong)

/- THE SECOND FORM. 'bulk': how many values and letters a reading holds, each counted each time it is reached (what is shared counts as often as it is met; a slice's spare places count too). A statement '..UptoSaid' is the law's where the arguments, and the package variables that the reading takes, are together of bulk at most 1048576: NARROWER than '..Said'. Prove '..Said' where nothing that the law and all that it calls make is longer than what came in: it says more and counts as full. Else prove '..UptoSaid'. A law counts once. -/
mutual
def uptoBulk {H : Type} : DataW H → Nat
  | .lit (.string bytes) => bytes.length + 1
  | .lit _ => 1
  | .nil => 1
  | .ptr d => uptoBulk d + 1
  | .slice elems spare => uptoBulkAll elems + uptoBulkAll spare + 1
  | .agg parts => uptoBulkAll parts + 1
  | .iface _ d => uptoBulk d + 1
  | .map entries => uptoBulkEntries entries + 1
  | .held _ => 1
def uptoBulkAll {H : Type} : List (DataW H) → Nat
  | [] => 0
  | d :: r => uptoBulk d + uptoBulkAll r
def uptoBulkEntries {H : Type} : List (Lit × DataW H) → Nat
  | [] => 0
  | x :: r => uptoBulkEntry x + uptoBulkEntries r
def uptoBulkEntry {H : Type} : Lit × DataW H → Nat
  | (.string bytes, d) => bytes.length + uptoBulk d + 1
  | (_, d) => uptoBulk d + 1
 end
def uptoSmall : (H : Type) → List (DataW H) → Bool := fun _ ds => decide (uptoBulkAll ds ≤ 1048576)
def OpenSpec.upto (s : _root_.Go.ChangeSpec) : _root_.Go.OpenSpec := { _root_.Go.OpenSpec.ofChange s with cond := some uptoSmall }

/-- 'laws.FnExactExpectOk', WHERE WHAT IT READS IS OF BULK AT MOST 1048576: true; the input reads as it did. -/
def fnExactExpectOkUptoRow : OpenClaim := { program := "ytnnimbbffbfhoaa", sum := "ec425d460d4a35d1cea3d15fc4f1b23bcb09112541053f1b2bade6a0ee7dd74d", func := "loop.example/g03319/laws.FnExactExpectOk", spec := "fnExactExpectOk", unfollowed := true, recurses := true, apart := false, narrowed := true }
def FnExactExpectOkUptoSaid : Prop := fnExactExpectOkUptoRow.holds Try.pinned (OpenSpec.upto fnExactExpectOkSpec)

/-- 'laws.FnExactSightsOk', WHERE WHAT IT READS IS OF BULK AT MOST 1048576: true; the input reads as it did. -/
def fnExactSightsOkUptoRow : OpenClaim := { program := "ytnnimbbffbfhoaa", sum := "ec425d460d4a35d1cea3d15fc4f1b23bcb09112541053f1b2bade6a0ee7dd74d", func := "loop.example/g03319/laws.FnExactSightsOk", spec := "fnExactSightsOk", unfollowed := true, recurses := true, apart := false, narrowed := true }
def FnExactSightsOkUptoSaid : Prop := fnExactSightsOkUptoRow.holds Try.pinned (OpenSpec.upto fnExactSightsOkSpec)

/-- 'laws.FnExactAssign', WHERE WHAT IT READS IS OF BULK AT MOST 1048576: true; the input reads as it did. -/
def fnExactAssignUptoRow : OpenClaim := { program := "ytnnimbbffbfhoaa", sum := "ec425d460d4a35d1cea3d15fc4f1b23bcb09112541053f1b2bade6a0ee7dd74d", func := "loop.example/g03319/laws.FnExactAssign", spec := "fnExactAssign", unfollowed := true, recurses := true, apart := false, narrowed := true }
def FnExactAssignUptoSaid : Prop := fnExactAssignUptoRow.holds Try.pinned (OpenSpec.upto fnExactAssignSpec)

/-- 'laws.FnExactMissing', WHERE WHAT IT READS IS OF BULK AT MOST 1048576: true; the input reads as it did. -/
def fnExactMissingUptoRow : OpenClaim := { program := "ytnnimbbffbfhoaa", sum := "ec425d460d4a35d1cea3d15fc4f1b23bcb09112541053f1b2bade6a0ee7dd74d", func := "loop.example/g03319/laws.FnExactMissing", spec := "fnExactMissing", unfollowed := true, recurses := true, apart := false, narrowed := true }
def FnExactMissingUptoSaid : Prop := fnExactMissingUptoRow.holds Try.pinned (OpenSpec.upto fnExactMissingSpec)

/-- 'laws.FnExactMostAssigned', WHERE WHAT IT READS IS OF BULK AT MOST 1048576: true; the input reads as it did. -/
def fnExactMostAssignedUptoRow : OpenClaim := { program := "ytnnimbbffbfhoaa", sum := "ec425d460d4a35d1cea3d15fc4f1b23bcb09112541053f1b2bade6a0ee7dd74d", func := "loop.example/g03319/laws.FnExactMostAssigned", spec := "fnExactMostAssigned", unfollowed := true, recurses := true, apart := false, narrowed := true }
def FnExactMostAssignedUptoSaid : Prop := fnExactMostAssignedUptoRow.holds Try.pinned (OpenSpec.upto fnExactMostAssignedSpec)

/-- 'laws.FnEveryTaking', WHERE WHAT IT READS IS OF BULK AT MOST 1048576: true; the input reads as it did. -/
def fnEveryTakingUptoRow : OpenClaim := { program := "ytnnimbbffbfhoaa", sum := "ec425d460d4a35d1cea3d15fc4f1b23bcb09112541053f1b2bade6a0ee7dd74d", func := "loop.example/g03319/laws.FnEveryTaking", spec := "fnEveryTaking", unfollowed := true, recurses := true, apart := false, narrowed := true }
def FnEveryTakingUptoSaid : Prop := fnEveryTakingUptoRow.holds Try.pinned (OpenSpec.upto fnEveryTakingSpec)

/-- 'laws.FnAssigned', WHERE WHAT IT READS IS OF BULK AT MOST 1048576: true; the input reads as it did. -/
def fnAssignedUptoRow : OpenClaim := { program := "ytnnimbbffbfhoaa", sum := "ec425d460d4a35d1cea3d15fc4f1b23bcb09112541053f1b2bade6a0ee7dd74d", func := "loop.example/g03319/laws.FnAssigned", spec := "fnAssigned", unfollowed := true, recurses := true, apart := false, narrowed := true }
def FnAssignedUptoSaid : Prop := fnAssignedUptoRow.holds Try.pinned (OpenSpec.upto fnAssignedSpec)

/-- 'laws.FnExactWindows', WHERE WHAT IT READS IS OF BULK AT MOST 1048576: true; the input reads as it did. -/
def fnExactWindowsUptoRow : OpenClaim := { program := "ytnnimbbffbfhoaa", sum := "ec425d460d4a35d1cea3d15fc4f1b23bcb09112541053f1b2bade6a0ee7dd74d", func := "loop.example/g03319/laws.FnExactWindows", spec := "fnExactWindows", unfollowed := true, recurses := true, apart := false, narrowed := true }
def FnExactWindowsUptoSaid : Prop := fnExactWindowsUptoRow.holds Try.pinned (OpenSpec.upto fnExactWindowsSpec)

/-- 'laws.FnWindows', WHERE WHAT IT READS IS OF BULK AT MOST 1048576: true; the input reads as it did. -/
def fnWindowsUptoRow : OpenClaim := { program := "ytnnimbbffbfhoaa", sum := "ec425d460d4a35d1cea3d15fc4f1b23bcb09112541053f1b2bade6a0ee7dd74d", func := "loop.example/g03319/laws.FnWindows", spec := "fnWindows", unfollowed := true, recurses := true, apart := false, narrowed := true }
def FnWindowsUptoSaid : Prop := fnWindowsUptoRow.holds Try.pinned (OpenSpec.upto fnWindowsSpec)

/-- 'laws.FnBeltRoom', WHERE WHAT IT READS IS OF BULK AT MOST 1048576: true; the input reads as it did. -/
def fnBeltRoomUptoRow : OpenClaim := { program := "ytnnimbbffbfhoaa", sum := "ec425d460d4a35d1cea3d15fc4f1b23bcb09112541053f1b2bade6a0ee7dd74d", func := "loop.example/g03319/laws.FnBeltRoom", spec := "fnBeltRoom", unfollowed := true, recurses := true, apart := false, narrowed := true }
def FnBeltRoomUptoSaid : Prop := fnBeltRoomUptoRow.holds Try.pinned (OpenSpec.upto fnBeltRoomSpec)

end Rows
end Go.Proofs.Ytnnimbbffbfhoaa
