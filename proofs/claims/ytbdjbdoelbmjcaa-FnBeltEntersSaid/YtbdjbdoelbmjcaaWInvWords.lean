-- Of the kit's print's words those that this seat's texts use (wip/myprint.py took the others out): not print.sh's own.
import Derived.Test.YtbdjbdoelbmjcaaWInv
import Derived.Test.YtbdjbdoelbmjcaaWFootNe
namespace Go.Proofs.YtbdjbdoelbmjcaaW.PrintWords
open Go.RowKit
end Go.Proofs.YtbdjbdoelbmjcaaW.PrintWords
namespace Go.Proofs.YtbdjbdoelbmjcaaW.PrintLast
section
variable {ops : Array Oper} {a : Act} {o og : Oper} {g : Nat} {t : Tmp} {u : Bool}
end
end Go.Proofs.YtbdjbdoelbmjcaaW.PrintLast
