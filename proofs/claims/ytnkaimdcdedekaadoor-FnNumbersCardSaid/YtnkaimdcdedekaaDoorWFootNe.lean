-- Of the kit's print's words those that this seat's texts use (wip/myprint.py took the others out): not print.sh's own.
import Derived.Test.YtnkaimdcdedekaaDoorWN
/-! ### 52. A row that stays read whatever happens to a block (a set of blocks) doesn't lie there -/
namespace Go.Proofs.YtnkaimdcdedekaaDoorW.PrintWords
open Go.RowKit
namespace Kd
section
variable {α : Type} {d : Kd α} {W : World} {g n : Nat} {S ok : Nat → Prop} {A : Option Addr} {ad : Addr} {xs : List α}
end
end Kd
end Go.Proofs.YtnkaimdcdedekaaDoorW.PrintWords
