/- The pure statement of MemMoves: over plain lists and numbers, for every argument in range the law's function answers true. -/
import Derived.Test.YtjoplkillkhiaaaPlainM
import Derived.Test.YtjoplkillkhiaaaArgM
namespace Go.Proofs.Ytjoplkillkhiaaa.PureM
open Go.RowKit Go.Proofs.YtjoplkillkhiaaaW.PrintWords Go.Proofs.Ytjoplkillkhiaaa.Evs Go.Proofs.Ytjoplkillkhiaaa.M
theorem MemMoves (l0 : List (List S76)) (l1 : List S62) (l2 : List Int) (l3 : List S29) (h : Arg54 l0 l1 l2 l3) : ∃ k, cellarlaw9_MemMoves.f k l0 l1 l2 l3 = some true :=
  Ev.at_ (moves_true l0 l1 l2 l3 (by have := h.1.1; omega) (fun m hm => by
    have a := h.1.2 m hm
    refine ⟨by have := a.1; omega, fun b hb => ?_⟩
    have c := (a.2 b hb).2.1
    omega) (by have := h.2.1.1; omega) (by have := h.2.2.1.1; omega) (by have := h.2.2.2.1; omega))
end Go.Proofs.Ytjoplkillkhiaaa.PureM
