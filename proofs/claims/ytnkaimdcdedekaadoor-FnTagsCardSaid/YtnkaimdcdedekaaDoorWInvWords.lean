-- Of the kit's print's words those that this seat's texts use (wip/myprint.py took the others out): not print.sh's own.
import Derived.Test.YtnkaimdcdedekaaDoorWInv
import Derived.Test.YtnkaimdcdedekaaDoorWFootNe
namespace Go.Proofs.YtnkaimdcdedekaaDoorW.PrintWords
open Go.RowKit
end Go.Proofs.YtnkaimdcdedekaaDoorW.PrintWords
namespace Go.Proofs.YtnkaimdcdedekaaDoorW.PrintLast
section
variable {ops : Array Oper} {a : Act} {o og : Oper} {g : Nat} {t : Tmp} {u : Bool}
end
end Go.Proofs.YtnkaimdcdedekaaDoorW.PrintLast
