/- The pure statement of BytesBack: over plain lists and numbers, for every argument in range the law's function answers true. -/
import Derived.Test.YthhdmanpjeminaaPlainB
import Derived.Test.YthhdmanpjeminaaArgB
namespace Go.Proofs.Ythhdmanpjeminaa.PureB
open Go.RowKit Go.Proofs.YthhdmanpjeminaaW.PrintWords Go.Proofs.Ythhdmanpjeminaa.Evs Go.Proofs.Ythhdmanpjeminaa.B
theorem BytesBack (l0 : List S38) (l1 : List S33) (l2 : List S51) (h : Arg26 l0 l1 l2) : ∃ k, cellarlaw8_BytesBack.f k l0 l1 l2 = some true :=
  Ev.at_ (back_true l0 l1 l2 (by have := h.1.1; omega) (by have := h.2.1.1; omega) (by have := h.2.2.1; omega))
end Go.Proofs.Ythhdmanpjeminaa.PureB
