/- Of the print's words those that this part's texts use. -/
import Derived.Test.YtjoplkillkhiaaaZInv
import Derived.Test.YtjoplkillkhiaaaZFootNe
namespace Go.Proofs.YtjoplkillkhiaaaW.PrintWords
open Go.RowKit
end Go.Proofs.YtjoplkillkhiaaaW.PrintWords
namespace Go.Proofs.YtjoplkillkhiaaaW.PrintLast
section
variable {ops : Array Oper} {a : Act} {o og : Oper} {g : Nat} {t : Tmp} {u : Bool}
end
end Go.Proofs.YtjoplkillkhiaaaW.PrintLast
