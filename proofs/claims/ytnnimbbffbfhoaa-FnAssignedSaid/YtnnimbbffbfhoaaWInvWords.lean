-- Of the kit's print's words those that this seat's texts use (wip/myprint.py took the others out): not print.sh's own.
import Derived.Test.YtnnimbbffbfhoaaWInv
import Derived.Test.YtnnimbbffbfhoaaWFootNe
namespace Go.Proofs.YtnnimbbffbfhoaaW.PrintWords
open Go.RowKit
end Go.Proofs.YtnnimbbffbfhoaaW.PrintWords
namespace Go.Proofs.YtnnimbbffbfhoaaW.PrintLast
section
variable {ops : Array Oper} {a : Act} {o og : Oper} {g : Nat} {t : Tmp} {u : Bool}
end
end Go.Proofs.YtnnimbbffbfhoaaW.PrintLast
