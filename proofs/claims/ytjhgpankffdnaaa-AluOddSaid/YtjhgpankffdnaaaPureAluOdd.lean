/- The pure statement of AluOdd: over plain lists and numbers, for every argument in range the law's function answers true. -/
import Derived.Test.YtjhgpankffdnaaaAx10
import Derived.Test.YtjhgpankffdnaaaPlainB
namespace Go.Proofs.Ytjhgpankffdnaaa.PureA
open Go.RowKit Go.Proofs.YtjhgpankffdnaaaW.PrintWords Go.Proofs.Ytjhgpankffdnaaa.Evs Go.Proofs.Ytjhgpankffdnaaa.A
theorem AluOdd (l0 : List Int) (l1 : List ByteArray) (l2 : List S34) (h : Arg26 l0 l1 l2) : ∃ k, cellarlaw2_AluOdd.f k l0 l1 l2 = some true := by
  refine Ev.at_ ?_
  unfold cellarlaw2_AluOdd.f
  exact Ev.bind (twos_true [-1, 0, 3, 7, 20] l0 l1 l2 (by decide) h) (Ev.pos rfl (Ev.bind (ones_true [-1, 0, 4, 8, 22] l0 l1 l2 (by decide) h) (Ev.now _)))
end Go.Proofs.Ytjhgpankffdnaaa.PureA
