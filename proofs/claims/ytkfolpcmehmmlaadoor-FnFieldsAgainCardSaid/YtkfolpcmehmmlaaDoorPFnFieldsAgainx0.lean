-- Written by a program of this session (wip/myprint.py: the kit's print with changes): not by print.sh itself.
import Derived.Test.YtkfolpcmehmmlaaDoorProg
import Derived.Below
import Derived.Deep.Draws
import Derived.Deep.AppendLies
import Derived.Maps.AppendAt
import Derived.OwnWalk
import Derived.Laws.BytesArg
import Derived.Laws.MakeOwn
import Derived.Laws.OwnMore
import Derived.Deep.OwnRows
import Derived.Tactics
import Derived.Lib.ConvBytes
import Derived.Laws.Slices
import Derived.WalkKit
import Derived.KernelRfl
import Derived.RowKit3
import Derived.Deep.LoopGhost
import Derived.Deep.QuietTactic
import Derived.BigQuiet
import Derived.WideLaws
import Derived.Deep.DeepCutAuto
import Derived.Deep.CutBlock
import Derived.Deep.RegionHeld3
import Derived.Laws.Rows
import Derived.Lib.AppendStr
import Derived.ArgAppend
import Derived.Laws.IdiomCopy
import Derived.OrdersHeld
import Derived.Laws.BitsLemmas
import Derived.RowKit
import Derived.Shelf.Abstract
import Derived.Lib.SliceRun
import Derived.Test.YtkfolpcmehmmlaaDoorShelf
import Derived.Test.YtkfolpcmehmmlaaDoorWWords
import Derived.Test.YtkfolpcmehmmlaaDoorWLast
import Derived.Test.YtkfolpcmehmmlaaDoorWTab
import Derived.Test.YtkfolpcmehmmlaaDoorWFour
import Derived.Test.YtkfolpcmehmmlaaDoorWQPut
import Derived.Test.YtkfolpcmehmmlaaDoorWApart
import Derived.Test.YtkfolpcmehmmlaaDoorWArr
import Derived.Test.YtkfolpcmehmmlaaDoorWZeros
import Derived.Test.YtkfolpcmehmmlaaDoorWFoot
import Derived.Test.YtkfolpcmehmmlaaDoorWKept
import Derived.Test.YtkfolpcmehmmlaaDoorWShare
import Derived.Test.YtkfolpcmehmmlaaDoorWN
import Derived.Test.YtkfolpcmehmmlaaDoorWFootNe
import Derived.Test.YtkfolpcmehmmlaaDoorWAt
import Derived.Test.YtkfolpcmehmmlaaDoorWEqStruct
import Derived.Test.YtkfolpcmehmmlaaDoorWRepsOne
import Derived.Test.YtkfolpcmehmmlaaDoorWInv
import Derived.Test.YtkfolpcmehmmlaaDoorWInvWords
import Derived.Test.YtkfolpcmehmmlaaDoorWGuard
import Derived.Test.YtkfolpcmehmmlaaDoorWNEv
import Derived.Test.YtkfolpcmehmmlaaDoorWMore
namespace Go.Proofs.YtkfolpcmehmmlaaDoor.PFnFieldsAgain
open Go.RowKit Go.Proofs.YtkfolpcmehmmlaaDoorW.PrintWords Go.Proofs.YtkfolpcmehmmlaaDoorW.PrintLast Go.Proofs.YtkfolpcmehmmlaaDoorW.PrintMore
attribute [local go_sem] max2_int min2_int max_two min_two max_three min_three max_four min_four   -- for this text's walks alone
set_option linter.unusedVariables false
set_option linter.unusedSimpArgs false



def errW : Option Int → Value
  | none => .nilIface
  | some c => .iface 0 (.int .i64 c)
theorem errW_none : errW none = .nilIface := rfl
theorem errW_some (c : Int) : errW (some c) = .iface 0 (.int .i64 c) := rfl

theorem info5 : (Tryd.prog.info? 5).map (fun i => (i.zero, i.size, i.bytes)) = some (some (.int .u8 0), 1, 1) := by kernel_rfl
theorem info9 : (Tryd.prog.info? 9).map (fun i => (i.zero, i.size, i.bytes)) = some (some (.string ⟨#[]⟩), 1, 16) := by kernel_rfl
-- the values' own types

end Go.Proofs.YtkfolpcmehmmlaaDoor.PFnFieldsAgain
