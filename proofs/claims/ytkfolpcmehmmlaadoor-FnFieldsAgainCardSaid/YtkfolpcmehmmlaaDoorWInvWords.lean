-- Of the kit's print's words those that this seat's texts use (wip/myprint.py took the others out): not print.sh's own.
import Derived.Test.YtkfolpcmehmmlaaDoorWInv
import Derived.Test.YtkfolpcmehmmlaaDoorWFootNe
namespace Go.Proofs.YtkfolpcmehmmlaaDoorW.PrintWords
open Go.RowKit
end Go.Proofs.YtkfolpcmehmmlaaDoorW.PrintWords
namespace Go.Proofs.YtkfolpcmehmmlaaDoorW.PrintLast
section
variable {ops : Array Oper} {a : Act} {o og : Oper} {g : Nat} {t : Tmp} {u : Bool}
end
end Go.Proofs.YtkfolpcmehmmlaaDoorW.PrintLast
