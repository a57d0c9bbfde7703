/- Of the print's words those that this part's texts use. -/
import Derived.Test.YthhdmanpjeminaaUInv
import Derived.Test.YthhdmanpjeminaaUFootNe
namespace Go.Proofs.YthhdmanpjeminaaW.PrintWords
open Go.RowKit
end Go.Proofs.YthhdmanpjeminaaW.PrintWords
namespace Go.Proofs.YthhdmanpjeminaaW.PrintLast
section
variable {ops : Array Oper} {a : Act} {o og : Oper} {g : Nat} {t : Tmp} {u : Bool}
end
end Go.Proofs.YthhdmanpjeminaaW.PrintLast
