-- Written by a program of this session (wip/myprint.py: the kit's print with changes): not by print.sh itself.
import Derived.Test.YtkfolpcmehmmlaaProg
import Derived.Below
import Derived.Deep.Draws
import Derived.Deep.AppendLies
import Derived.Maps.AppendAt
import Derived.OwnWalk
import Derived.Laws.BytesArg
import Derived.Laws.MakeOwn
import Derived.Laws.OwnMore
import Derived.Deep.OwnRows
import Derived.Tactics
import Derived.Lib.ConvBytes
import Derived.Laws.Slices
import Derived.WalkKit
import Derived.KernelRfl
import Derived.RowKit3
import Derived.Deep.LoopGhost
import Derived.Deep.QuietTactic
import Derived.BigQuiet
import Derived.WideLaws
import Derived.Deep.DeepCutAuto
import Derived.Deep.CutBlock
import Derived.Deep.RegionHeld3
import Derived.Laws.Rows
import Derived.Lib.AppendStr
import Derived.ArgAppend
import Derived.Laws.IdiomCopy
import Derived.OrdersHeld
import Derived.Laws.BitsLemmas
import Derived.RowKit
import Derived.Test.YtkfolpcmehmmlaaWWords
import Derived.Test.YtkfolpcmehmmlaaWLast
import Derived.Test.YtkfolpcmehmmlaaWTab
import Derived.Test.YtkfolpcmehmmlaaWFour
import Derived.Test.YtkfolpcmehmmlaaWQPut
import Derived.Test.YtkfolpcmehmmlaaWApart
import Derived.Test.YtkfolpcmehmmlaaWArr
import Derived.Test.YtkfolpcmehmmlaaWZeros
import Derived.Test.YtkfolpcmehmmlaaWFoot
import Derived.Test.YtkfolpcmehmmlaaWKept
import Derived.Test.YtkfolpcmehmmlaaWShare
import Derived.Test.YtkfolpcmehmmlaaWN
import Derived.Test.YtkfolpcmehmmlaaWFootNe
import Derived.Test.YtkfolpcmehmmlaaWAt
import Derived.Test.YtkfolpcmehmmlaaWEqStruct
import Derived.Test.YtkfolpcmehmmlaaWRepsOne
import Derived.Test.YtkfolpcmehmmlaaWInv
import Derived.Test.YtkfolpcmehmmlaaWInvWords
import Derived.Test.YtkfolpcmehmmlaaWGuard
import Derived.Test.YtkfolpcmehmmlaaWNEv
import Derived.Test.YtkfolpcmehmmlaaWMore
namespace Go.Proofs.Ytkfolpcmehmmlaa.PFnClamped
open Go.RowKit Go.Proofs.YtkfolpcmehmmlaaW.PrintWords Go.Proofs.YtkfolpcmehmmlaaW.PrintLast Go.Proofs.YtkfolpcmehmmlaaW.PrintMore
attribute [local go_sem] max2_int min2_int max_two min_two max_three min_three max_four min_four   -- for this text's walks alone
set_option linter.unusedVariables false
set_option linter.unusedSimpArgs false



def errW : Option Int → Value
  | none => .nilIface
  | some c => .iface 0 (.int .i64 c)
theorem errW_none : errW none = .nilIface := rfl
theorem errW_some (c : Int) : errW (some c) = .iface 0 (.int .i64 c) := rfl

theorem info3 : (Try.prog.info? 3).map (fun i => (i.zero, i.size, i.bytes)) = some (some (.int .i64 0), 1, 8) := by kernel_rfl
-- the values' own types

end Go.Proofs.Ytkfolpcmehmmlaa.PFnClamped
