-- Of the kit's print's words those that this seat's texts use (wip/myprint.py took the others out): not print.sh's own.
import Derived.Test.YtnkaimdcdedekaaWInv
import Derived.Test.YtnkaimdcdedekaaWFootNe
namespace Go.Proofs.YtnkaimdcdedekaaW.PrintWords
open Go.RowKit
end Go.Proofs.YtnkaimdcdedekaaW.PrintWords
namespace Go.Proofs.YtnkaimdcdedekaaW.PrintLast
section
variable {ops : Array Oper} {a : Act} {o og : Oper} {g : Nat} {t : Tmp} {u : Bool}
end
end Go.Proofs.YtnkaimdcdedekaaW.PrintLast
