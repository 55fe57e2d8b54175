/-
  No cell of these rows narrows 'for every input' (looked for: loops, veiled, ifaces, maps, wideKeys, modest, calm, conditions, laid).
  DERIVED. THE GIVEN ROWS OF THIS SEAT. 12 by the template 'for every input the law returns true; each argument reads behind the call as it read before'; 0 by the template 'total and deterministic' (their statements: YtbdjbdoelbmjcaaTotals.lean).
  GIVEN WITH THE SEED: the statements are not yours to turn. If you find one false, say at which input.
  Laid BY PROGRAM, IN A SANDBOX (cutbox-rows.mjs): the forced cells as the released guide's own fill.sh prints them over the translation 2b8b88686d31b864… (all of the seat's roots in one cut). By AI agents, Wed Nov 11 2026. No macro, syntax, notation, axiom, sorry.
-/
import Derived.Test.YtbdjbdoelbmjcaaChecked
import GoSem.Claim
import GoSem.ClaimJoined
import GoSem.ClaimMapViews
import Derived.JoinedTies
import Derived.KernelRfl
namespace Go.Proofs.Ytbdjbdoelbmjcaa
/- THE CELL 'sum', in the pinned program and in every row, IS THE sha256 OF THE DUMP (.gsa) THAT YtbdjbdoelbmjcaaProg.lean LOADS. Nothing in Lean hashes anything: it is a label: what it is worth is what the hold of that sum in a sandbox is worth. -/
noncomputable def Try.pinned : Pinned := { name := "ytbdjbdoelbmjcaa", sum := "2b8b88686d31b864b86ad172a8dddfa508d76c9b7cbb590fbb93ec3261d80299", checked := Try.checked }
namespace Rows
def none {H : Type} : Left H := { results := [], args := [] }

/-- 'laws.FnExactBeltOk': WHATEVER THE INPUT: true; the input reads as it did. -/
def fnExactBeltOkSpec : ChangeSpec := { name := "fnExactBeltOk", fn := fun _ => fun
  | [d] => { results := [.lit (.bool true)], args := [d] }
  | _ => none }
def fnExactBeltOkRow : OpenClaim := { program := "ytbdjbdoelbmjcaa", sum := "2b8b88686d31b864b86ad172a8dddfa508d76c9b7cbb590fbb93ec3261d80299", func := "loop.example/g03319/laws.FnExactBeltOk", spec := "fnExactBeltOk", unfollowed := true, recurses := true, apart := false }
def FnExactBeltOkSaid : Prop := fnExactBeltOkRow.holds Try.pinned (OpenSpec.ofChange fnExactBeltOkSpec)

/-- ITS FALSE NEIGHBOUR: 'it returns false'. Refute it at one input. -/
def fnExactBeltOkWrong : ChangeSpec := { name := "fnExactBeltOk", fn := fun _ => fun
  | [d] => { results := [.lit (.bool false)], args := [d] }
  | _ => none }
def FnExactBeltOkWrongFalsely : Prop := fnExactBeltOkRow.holds Try.pinned (OpenSpec.ofChange fnExactBeltOkWrong)

/-- 'laws.FnExactFreeBehind': WHATEVER THE INPUT: true; the input reads as it did. -/
def fnExactFreeBehindSpec : ChangeSpec := { name := "fnExactFreeBehind", fn := fun _ => fun
  | [d] => { results := [.lit (.bool true)], args := [d] }
  | _ => none }
def fnExactFreeBehindRow : OpenClaim := { program := "ytbdjbdoelbmjcaa", sum := "2b8b88686d31b864b86ad172a8dddfa508d76c9b7cbb590fbb93ec3261d80299", func := "loop.example/g03319/laws.FnExactFreeBehind", spec := "fnExactFreeBehind", unfollowed := true, recurses := true, apart := false }
def FnExactFreeBehindSaid : Prop := fnExactFreeBehindRow.holds Try.pinned (OpenSpec.ofChange fnExactFreeBehindSpec)

/-- ITS FALSE NEIGHBOUR: 'it returns false'. Refute it at one input. -/
def fnExactFreeBehindWrong : ChangeSpec := { name := "fnExactFreeBehind", fn := fun _ => fun
  | [d] => { results := [.lit (.bool false)], args := [d] }
  | _ => none }
def FnExactFreeBehindWrongFalsely : Prop := fnExactFreeBehindRow.holds Try.pinned (OpenSpec.ofChange fnExactFreeBehindWrong)

/-- 'laws.FnExactCoverAt': WHATEVER THE INPUT: true; the input reads as it did. -/
def fnExactCoverAtSpec : ChangeSpec := { name := "fnExactCoverAt", fn := fun _ => fun
  | [d1, d2] => { results := [.lit (.bool true)], args := [d1, d2] }
  | _ => none }
def fnExactCoverAtRow : OpenClaim := { program := "ytbdjbdoelbmjcaa", sum := "2b8b88686d31b864b86ad172a8dddfa508d76c9b7cbb590fbb93ec3261d80299", func := "loop.example/g03319/laws.FnExactCoverAt", spec := "fnExactCoverAt", unfollowed := true, recurses := true, apart := false }
def FnExactCoverAtSaid : Prop := fnExactCoverAtRow.holds Try.pinned (OpenSpec.ofChange fnExactCoverAtSpec)

/-- ITS FALSE NEIGHBOUR: 'it returns false'. Refute it at one input. -/
def fnExactCoverAtWrong : ChangeSpec := { name := "fnExactCoverAt", fn := fun _ => fun
  | [d1, d2] => { results := [.lit (.bool false)], args := [d1, d2] }
  | _ => none }
def FnExactCoverAtWrongFalsely : Prop := fnExactCoverAtRow.holds Try.pinned (OpenSpec.ofChange fnExactCoverAtWrong)

/-- 'laws.FnExactBacklog': WHATEVER THE INPUT: true; the input reads as it did. -/
def fnExactBacklogSpec : ChangeSpec := { name := "fnExactBacklog", fn := fun _ => fun
  | [d] => { results := [.lit (.bool true)], args := [d] }
  | _ => none }
def fnExactBacklogRow : OpenClaim := { program := "ytbdjbdoelbmjcaa", sum := "2b8b88686d31b864b86ad172a8dddfa508d76c9b7cbb590fbb93ec3261d80299", func := "loop.example/g03319/laws.FnExactBacklog", spec := "fnExactBacklog", unfollowed := true, recurses := true, apart := false }
def FnExactBacklogSaid : Prop := fnExactBacklogRow.holds Try.pinned (OpenSpec.ofChange fnExactBacklogSpec)

/-- ITS FALSE NEIGHBOUR: 'it returns false'. Refute it at one input. -/
def fnExactBacklogWrong : ChangeSpec := { name := "fnExactBacklog", fn := fun _ => fun
  | [d] => { results := [.lit (.bool false)], args := [d] }
  | _ => none }
def FnExactBacklogWrongFalsely : Prop := fnExactBacklogRow.holds Try.pinned (OpenSpec.ofChange fnExactBacklogWrong)

/-- 'laws.FnExactLeave': WHATEVER THE INPUT: true; the input reads as it did. -/
def fnExactLeaveSpec : ChangeSpec := { name := "fnExactLeave", fn := fun _ => fun
  | [d] => { results := [.lit (.bool true)], args := [d] }
  | _ => none }
def fnExactLeaveRow : OpenClaim := { program := "ytbdjbdoelbmjcaa", sum := "2b8b88686d31b864b86ad172a8dddfa508d76c9b7cbb590fbb93ec3261d80299", func := "loop.example/g03319/laws.FnExactLeave", spec := "fnExactLeave", unfollowed := true, recurses := true, apart := false }
def FnExactLeaveSaid : Prop := fnExactLeaveRow.holds Try.pinned (OpenSpec.ofChange fnExactLeaveSpec)

/-- ITS FALSE NEIGHBOUR: 'it returns false'. Refute it at one input. -/
def fnExactLeaveWrong : ChangeSpec := { name := "fnExactLeave", fn := fun _ => fun
  | [d] => { results := [.lit (.bool false)], args := [d] }
  | _ => none }
def FnExactLeaveWrongFalsely : Prop := fnExactLeaveRow.holds Try.pinned (OpenSpec.ofChange fnExactLeaveWrong)

/-- 'laws.FnExactEnter': WHATEVER THE INPUT: true; the input reads as it did. -/
def fnExactEnterSpec : ChangeSpec := { name := "fnExactEnter", fn := fun _ => fun
  | [d1, d2, d3] => { results := [.lit (.bool true)], args := [d1, d2, d3] }
  | _ => none }
def fnExactEnterRow : OpenClaim := { program := "ytbdjbdoelbmjcaa", sum := "2b8b88686d31b864b86ad172a8dddfa508d76c9b7cbb590fbb93ec3261d80299", func := "loop.example/g03319/laws.FnExactEnter", spec := "fnExactEnter", unfollowed := true, recurses := true, apart := false }
def FnExactEnterSaid : Prop := fnExactEnterRow.holds Try.pinned (OpenSpec.ofChange fnExactEnterSpec)

/-- ITS FALSE NEIGHBOUR: 'it returns false'. Refute it at one input. -/
def fnExactEnterWrong : ChangeSpec := { name := "fnExactEnter", fn := fun _ => fun
  | [d1, d2, d3] => { results := [.lit (.bool false)], args := [d1, d2, d3] }
  | _ => none }
def FnExactEnterWrongFalsely : Prop := fnExactEnterRow.holds Try.pinned (OpenSpec.ofChange fnExactEnterWrong)

/-- 'laws.FnExactMove': WHATEVER THE INPUT: true; the input reads as it did. -/
def fnExactMoveSpec : ChangeSpec := { name := "fnExactMove", fn := fun _ => fun
  | [d1, d2] => { results := [.lit (.bool true)], args := [d1, d2] }
  | _ => none }
def fnExactMoveRow : OpenClaim := { program := "ytbdjbdoelbmjcaa", sum := "2b8b88686d31b864b86ad172a8dddfa508d76c9b7cbb590fbb93ec3261d80299", func := "loop.example/g03319/laws.FnExactMove", spec := "fnExactMove", unfollowed := true, recurses := true, apart := false }
def FnExactMoveSaid : Prop := fnExactMoveRow.holds Try.pinned (OpenSpec.ofChange fnExactMoveSpec)

/-- ITS FALSE NEIGHBOUR: 'it returns false'. Refute it at one input. -/
def fnExactMoveWrong : ChangeSpec := { name := "fnExactMove", fn := fun _ => fun
  | [d1, d2] => { results := [.lit (.bool false)], args := [d1, d2] }
  | _ => none }
def FnExactMoveWrongFalsely : Prop := fnExactMoveRow.holds Try.pinned (OpenSpec.ofChange fnExactMoveWrong)

/-- 'laws.FnExactRun': WHATEVER THE INPUT: true; the input reads as it did. -/
def fnExactRunSpec : ChangeSpec := { name := "fnExactRun", fn := fun _ => fun
  | [d1, d2] => { results := [.lit (.bool true)], args := [d1, d2] }
  | _ => none }
def fnExactRunRow : OpenClaim := { program := "ytbdjbdoelbmjcaa", sum := "2b8b88686d31b864b86ad172a8dddfa508d76c9b7cbb590fbb93ec3261d80299", func := "loop.example/g03319/laws.FnExactRun", spec := "fnExactRun", unfollowed := true, recurses := true, apart := false }
def FnExactRunSaid : Prop := fnExactRunRow.holds Try.pinned (OpenSpec.ofChange fnExactRunSpec)

/-- ITS FALSE NEIGHBOUR: 'it returns false'. Refute it at one input. -/
def fnExactRunWrong : ChangeSpec := { name := "fnExactRun", fn := fun _ => fun
  | [d1, d2] => { results := [.lit (.bool false)], args := [d1, d2] }
  | _ => none }
def FnExactRunWrongFalsely : Prop := fnExactRunRow.holds Try.pinned (OpenSpec.ofChange fnExactRunWrong)

/-- 'laws.FnExactRoomFor': WHATEVER THE INPUT: true; the input reads as it did. -/
def fnExactRoomForSpec : ChangeSpec := { name := "fnExactRoomFor", fn := fun _ => fun
  | [d1, d2] => { results := [.lit (.bool true)], args := [d1, d2] }
  | _ => none }
def fnExactRoomForRow : OpenClaim := { program := "ytbdjbdoelbmjcaa", sum := "2b8b88686d31b864b86ad172a8dddfa508d76c9b7cbb590fbb93ec3261d80299", func := "loop.example/g03319/laws.FnExactRoomFor", spec := "fnExactRoomFor", unfollowed := true, recurses := true, apart := false }
def FnExactRoomForSaid : Prop := fnExactRoomForRow.holds Try.pinned (OpenSpec.ofChange fnExactRoomForSpec)

/-- ITS FALSE NEIGHBOUR: 'it returns false'. Refute it at one input. -/
def fnExactRoomForWrong : ChangeSpec := { name := "fnExactRoomFor", fn := fun _ => fun
  | [d1, d2] => { results := [.lit (.bool false)], args := [d1, d2] }
  | _ => none }
def FnExactRoomForWrongFalsely : Prop := fnExactRoomForRow.holds Try.pinned (OpenSpec.ofChange fnExactRoomForWrong)

/-- 'laws.FnBeltMoves': WHATEVER THE INPUT: true; the input reads as it did. -/
def fnBeltMovesSpec : ChangeSpec := { name := "fnBeltMoves", fn := fun _ => fun
  | [d1, d2, d3] => { results := [.lit (.bool true)], args := [d1, d2, d3] }
  | _ => none }
def fnBeltMovesRow : OpenClaim := { program := "ytbdjbdoelbmjcaa", sum := "2b8b88686d31b864b86ad172a8dddfa508d76c9b7cbb590fbb93ec3261d80299", func := "loop.example/g03319/laws.FnBeltMoves", spec := "fnBeltMoves", unfollowed := true, recurses := true, apart := false }
def FnBeltMovesSaid : Prop := fnBeltMovesRow.holds Try.pinned (OpenSpec.ofChange fnBeltMovesSpec)

/-- ITS FALSE NEIGHBOUR: 'it returns false'. Refute it at one input. -/
def fnBeltMovesWrong : ChangeSpec := { name := "fnBeltMoves", fn := fun _ => fun
  | [d1, d2, d3] => { results := [.lit (.bool false)], args := [d1, d2, d3] }
  | _ => none }
def FnBeltMovesWrongFalsely : Prop := fnBeltMovesRow.holds Try.pinned (OpenSpec.ofChange fnBeltMovesWrong)

/-- 'laws.FnBeltRuns': WHATEVER THE INPUT: true; the input reads as it did. -/
def fnBeltRunsSpec : ChangeSpec := { name := "fnBeltRuns", fn := fun _ => fun
  | [d1, d2] => { results := [.lit (.bool true)], args := [d1, d2] }
  | _ => none }
def fnBeltRunsRow : OpenClaim := { program := "ytbdjbdoelbmjcaa", sum := "2b8b88686d31b864b86ad172a8dddfa508d76c9b7cbb590fbb93ec3261d80299", func := "loop.example/g03319/laws.FnBeltRuns", spec := "fnBeltRuns", unfollowed := true, recurses := true, apart := false }
def FnBeltRunsSaid : Prop := fnBeltRunsRow.holds Try.pinned (OpenSpec.ofChange fnBeltRunsSpec)

/-- ITS FALSE NEIGHBOUR: 'it returns false'. Refute it at one input. -/
def fnBeltRunsWrong : ChangeSpec := { name := "fnBeltRuns", fn := fun _ => fun
  | [d1, d2] => { results := [.lit (.bool false)], args := [d1, d2] }
  | _ => none }
def FnBeltRunsWrongFalsely : Prop := fnBeltRunsRow.holds Try.pinned (OpenSpec.ofChange fnBeltRunsWrong)

/-- 'laws.FnBeltEnters': WHATEVER THE INPUT: true; the input reads as it did. -/
def fnBeltEntersSpec : ChangeSpec := { name := "fnBeltEnters", fn := fun _ => fun
  | [d] => { results := [.lit (.bool true)], args := [d] }
  | _ => none }
def fnBeltEntersRow : OpenClaim := { program := "ytbdjbdoelbmjcaa", sum := "2b8b88686d31b864b86ad172a8dddfa508d76c9b7cbb590fbb93ec3261d80299", func := "loop.example/g03319/laws.FnBeltEnters", spec := "fnBeltEnters", unfollowed := true, recurses := true, apart := false }
def FnBeltEntersSaid : Prop := fnBeltEntersRow.holds Try.pinned (OpenSpec.ofChange fnBeltEntersSpec)

/-- ITS FALSE NEIGHBOUR: 'it returns false'. Refute it at one input. -/
def fnBeltEntersWrong : ChangeSpec := { name := "fnBeltEnters", fn := fun _ => fun
  | [d] => { results := [.lit (.bool false)], args := [d] }
  | _ => none }
def FnBeltEntersWrongFalsely : Prop := fnBeltEntersRow.holds Try.pinned (OpenSpec.ofChange fnBeltEntersWrong)

/- THE SECOND FORM. 'bulk': how many values and letters a reading holds, each counted each time it is reached (what is shared counts as often as it is met; a slice's spare places count too). A statement '..UptoSaid' is the law's where the arguments, and the package variables that the reading takes, are together of bulk at most 1048576: NARROWER than '..Said'. Prove '..Said' where nothing that the law and all that it calls make is longer than what came in: it says more and counts as full. Else prove '..UptoSaid'. A law counts once. -/
mutual
def uptoBulk {H : Type} : DataW H → Nat
  | .lit (.string bytes) => bytes.length + 1
  | .lit _ => 1
  | .nil => 1
  | .ptr d => uptoBulk d + 1
  | .slice elems spare => uptoBulkAll elems + uptoBulkAll spare + 1
  | .agg parts => uptoBulkAll parts + 1
  | .iface _ d => uptoBulk d + 1
  | .map entries => uptoBulkEntries entries + 1
  | .held _ => 1
def uptoBulkAll {H : Type} : List (DataW H) → Nat
  | [] => 0
  | d :: r => uptoBulk d + uptoBulkAll r
def uptoBulkEntries {H : Type} : List (Lit × DataW H) → Nat
  | [] => 0
  | x :: r => uptoBulkEntry x + uptoBulkEntries r
def uptoBulkEntry {H : Type} : Lit × DataW H → Nat
  | (.string bytes, d) => bytes.length + uptoBulk d + 1
  | (_, d) => uptoBulk d + 1
 end
def uptoSmall : (H : Type) → List (DataW H) → Bool := fun _ ds => decide (uptoBulkAll ds ≤ 1048576)
def OpenSpec.upto (s : _root_.Go.ChangeSpec) : _root_.Go.OpenSpec := { _root_.Go.OpenSpec.ofChange s with cond := some uptoSmall }

/-- 'laws.FnExactBeltOk', WHERE WHAT IT READS IS OF BULK AT MOST 1048576: true; the input reads as it did. -/
def fnExactBeltOkUptoRow : OpenClaim := { program := "ytbdjbdoelbmjcaa", sum := "2b8b88686d31b864b86ad172a8dddfa508d76c9b7cbb590fbb93ec3261d80299", func := "loop.example/g03319/laws.FnExactBeltOk", spec := "fnExactBeltOk", unfollowed := true, recurses := true, apart := false, narrowed := true }
def FnExactBeltOkUptoSaid : Prop := fnExactBeltOkUptoRow.holds Try.pinned (OpenSpec.upto fnExactBeltOkSpec)

/-- 'laws.FnExactFreeBehind', WHERE WHAT IT READS IS OF BULK AT MOST 1048576: true; the input reads as it did. -/
def fnExactFreeBehindUptoRow : OpenClaim := { program := "ytbdjbdoelbmjcaa", sum := "2b8b88686d31b864b86ad172a8dddfa508d76c9b7cbb590fbb93ec3261d80299", func := "loop.example/g03319/laws.FnExactFreeBehind", spec := "fnExactFreeBehind", unfollowed := true, recurses := true, apart := false, narrowed := true }
def FnExactFreeBehindUptoSaid : Prop := fnExactFreeBehindUptoRow.holds Try.pinned (OpenSpec.upto fnExactFreeBehindSpec)

/-- 'laws.FnExactCoverAt', WHERE WHAT IT READS IS OF BULK AT MOST 1048576: true; the input reads as it did. -/
def fnExactCoverAtUptoRow : OpenClaim := { program := "ytbdjbdoelbmjcaa", sum := "2b8b88686d31b864b86ad172a8dddfa508d76c9b7cbb590fbb93ec3261d80299", func := "loop.example/g03319/laws.FnExactCoverAt", spec := "fnExactCoverAt", unfollowed := true, recurses := true, apart := false, narrowed := true }
def FnExactCoverAtUptoSaid : Prop := fnExactCoverAtUptoRow.holds Try.pinned (OpenSpec.upto fnExactCoverAtSpec)

/-- 'laws.FnExactBacklog', WHERE WHAT IT READS IS OF BULK AT MOST 1048576: true; the input reads as it did. -/
def fnExactBacklogUptoRow : OpenClaim := { program := "ytbdjbdoelbmjcaa", sum := "2b8b88686d31b864b86ad172a8dddfa508d76c9b7cbb590fbb93ec3261d80299", func := "loop.example/g03319/laws.FnExactBacklog", spec := "fnExactBacklog", unfollowed := true, recurses := true, apart := false, narrowed := true }
def FnExactBacklogUptoSaid : Prop := fnExactBacklogUptoRow.holds Try.pinned (OpenSpec.upto fnExactBacklogSpec)

/-- 'laws.FnExactLeave', WHERE WHAT IT READS IS OF BULK AT MOST 1048576: true; the input reads as it did. -/
def fnExactLeaveUptoRow : OpenClaim := { program := "ytbdjbdoelbmjcaa", sum := "2b8b88686d31b864b86ad172a8dddfa508d76c9b7cbb590fbb93ec3261d80299", func := "loop.example/g03319/laws.FnExactLeave", spec := "fnExactLeave", unfollowed := true, recurses := true, apart := false, narrowed := true }
def FnExactLeaveUptoSaid : Prop := fnExactLeaveUptoRow.holds Try.pinned (OpenSpec.upto fnExactLeaveSpec)

/-- 'laws.FnExactEnter', WHERE WHAT IT READS IS OF BULK AT MOST 1048576: true; the input reads as it did. -/
def fnExactEnterUptoRow : OpenClaim := { program := "ytbdjbdoelbmjcaa", sum := "2b8b88686d31b864b86ad172a8dddfa508d76c9b7cbb590fbb93ec3261d80299", func := "loop.example/g03319/laws.FnExactEnter", spec := "fnExactEnter", unfollowed := true, recurses := true, apart := false, narrowed := true }
def FnExactEnterUptoSaid : Prop := fnExactEnterUptoRow.holds Try.pinned (OpenSpec.upto fnExactEnterSpec)

/-- 'laws.FnExactMove', WHERE WHAT IT READS IS OF BULK AT MOST 1048576: true; the input reads as it did. -/
def fnExactMoveUptoRow : OpenClaim := { program := "ytbdjbdoelbmjcaa", sum := "2b8b88686d31b864b86ad172a8dddfa508d76c9b7cbb590fbb93ec3261d80299", func := "loop.example/g03319/laws.FnExactMove", spec := "fnExactMove", unfollowed := true, recurses := true, apart := false, narrowed := true }
def FnExactMoveUptoSaid : Prop := fnExactMoveUptoRow.holds Try.pinned (OpenSpec.upto fnExactMoveSpec)

/-- 'laws.FnExactRun', WHERE WHAT IT READS IS OF BULK AT MOST 1048576: true; the input reads as it did. -/
def fnExactRunUptoRow : OpenClaim := { program := "ytbdjbdoelbmjcaa", sum := "2b8b88686d31b864b86ad172a8dddfa508d76c9b7cbb590fbb93ec3261d80299", func := "loop.example/g03319/laws.FnExactRun", spec := "fnExactRun", unfollowed := true, recurses := true, apart := false, narrowed := true }
def FnExactRunUptoSaid : Prop := fnExactRunUptoRow.holds Try.pinned (OpenSpec.upto fnExactRunSpec)

/-- 'laws.FnExactRoomFor', WHERE WHAT IT READS IS OF BULK AT MOST 1048576: true; the input reads as it did. -/
def fnExactRoomForUptoRow : OpenClaim := { program := "ytbdjbdoelbmjcaa", sum := "2b8b88686d31b864b86ad172a8dddfa508d76c9b7cbb590fbb93ec3261d80299", func := "loop.example/g03319/laws.FnExactRoomFor", spec := "fnExactRoomFor", unfollowed := true, recurses := true, apart := false, narrowed := true }
def FnExactRoomForUptoSaid : Prop := fnExactRoomForUptoRow.holds Try.pinned (OpenSpec.upto fnExactRoomForSpec)

/-- 'laws.FnBeltMoves', WHERE WHAT IT READS IS OF BULK AT MOST 1048576: true; the input reads as it did. -/
def fnBeltMovesUptoRow : OpenClaim := { program := "ytbdjbdoelbmjcaa", sum := "2b8b88686d31b864b86ad172a8dddfa508d76c9b7cbb590fbb93ec3261d80299", func := "loop.example/g03319/laws.FnBeltMoves", spec := "fnBeltMoves", unfollowed := true, recurses := true, apart := false, narrowed := true }
def FnBeltMovesUptoSaid : Prop := fnBeltMovesUptoRow.holds Try.pinned (OpenSpec.upto fnBeltMovesSpec)

/-- 'laws.FnBeltRuns', WHERE WHAT IT READS IS OF BULK AT MOST 1048576: true; the input reads as it did. -/
def fnBeltRunsUptoRow : OpenClaim := { program := "ytbdjbdoelbmjcaa", sum := "2b8b88686d31b864b86ad172a8dddfa508d76c9b7cbb590fbb93ec3261d80299", func := "loop.example/g03319/laws.FnBeltRuns", spec := "fnBeltRuns", unfollowed := true, recurses := true, apart := false, narrowed := true }
def FnBeltRunsUptoSaid : Prop := fnBeltRunsUptoRow.holds Try.pinned (OpenSpec.upto fnBeltRunsSpec)

/-- 'laws.FnBeltEnters', WHERE WHAT IT READS IS OF BULK AT MOST 1048576: true; the input reads as it did. -/
def fnBeltEntersUptoRow : OpenClaim := { program := "ytbdjbdoelbmjcaa", sum := "2b8b88686d31b864b86ad172a8dddfa508d76c9b7cbb590fbb93ec3261d80299", func := "loop.example/g03319/laws.FnBeltEnters", spec := "fnBeltEnters", unfollowed := true, recurses := true, apart := false, narrowed := true }
def FnBeltEntersUptoSaid : Prop := fnBeltEntersUptoRow.holds Try.pinned (OpenSpec.upto fnBeltEntersSpec)

end Rows
end Go.Proofs.Ytbdjbdoelbmjcaa
