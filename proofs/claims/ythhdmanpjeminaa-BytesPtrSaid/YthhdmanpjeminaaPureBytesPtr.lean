/- The pure statement of BytesPtr: over plain lists and numbers, for every argument in range the law's function answers true. -/
import Derived.Test.YthhdmanpjeminaaPlainD
import Derived.Test.YthhdmanpjeminaaArgD
import Derived.Test.YthhdmanpjeminaaDx14
namespace Go.Proofs.Ythhdmanpjeminaa.PureD
open Go.RowKit Go.Proofs.YthhdmanpjeminaaW.PrintWords Go.Proofs.Ythhdmanpjeminaa.Evs Go.Proofs.Ythhdmanpjeminaa.D
theorem BytesPtr (l0 : List S38) (l1 : List S33) (l2 : List S51) (h : Arg26 l0 l1 l2) : ∃ k, cellarlaw8_BytesPtr.f k l0 l1 l2 = some true := by
  refine Ev.at_ ?_
  unfold cellarlaw8_BytesPtr.f
  refine Ev.bind (kind_true ⟨fun _ _ _ _ _ _ _ _ => bytes_Put.mono _ _ _ _ _ _ _ _, fun _ _ _ _ _ _ _ _ => cellarref7_Put.mono _ _ _ _ _ _ _ _, fun _ _ _ _ _ => bytes_Get.mono _ _ _ _ _, fun _ _ _ _ _ => cellarref7_Get.mono _ _ _ _ _, fun _ _ _ => cellarref0_EqBytes.mono _ _ _, fun _ _ => cellarref1_Width.mono _ _⟩ 7 (by decide) all7 l0 l1 l2 (by have := h.1.1; omega) (by have := h.2.1.1; omega) (by have := h.2.2.1; omega)) (Ev.now _)
end Go.Proofs.Ythhdmanpjeminaa.PureD
