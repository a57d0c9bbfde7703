/- The pure statement of LaySizes: over plain lists and numbers, for every argument in range the law's function answers true. -/
import Derived.Test.YtjoplkillkhiaaaPlainL
import Derived.Test.YtjoplkillkhiaaaArgL
namespace Go.Proofs.Ytjoplkillkhiaaa.PureL
open Go.RowKit Go.Proofs.YtjoplkillkhiaaaW.PrintWords Go.Proofs.Ytjoplkillkhiaaa.Evs Go.Proofs.Ytjoplkillkhiaaa.L
theorem LaySizes (l0 : List S29) (l1 : List (List S31)) (l2 : List ByteArray) (l3 : List Int) (h : Arg27 l0 l1 l2 l3) : ∃ k, cellarlaw7_LaySizes.f k l0 l1 l2 l3 = some true :=
  Ev.at_ (sizes_true l0 l1 l2 l3 (by have := h.1.1; omega) (by have := h.2.1.1; omega) (fun l hl => by
    have a := h.2.1.2 l hl
    refine ⟨by have := a.1; omega, fun t ht => ?_⟩
    have c := a.2 t ht
    exact ⟨by have := c.2.2.2.1.1; omega, c.2.2.2.1.2, by have := c.2.2.2.2.1; omega⟩) (by have := h.2.2.1.1; omega) (by have := h.2.2.2.1; omega))
end Go.Proofs.Ytjoplkillkhiaaa.PureL
