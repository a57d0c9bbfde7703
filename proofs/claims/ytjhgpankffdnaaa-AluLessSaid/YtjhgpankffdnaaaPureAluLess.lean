/- The pure statement of AluLess: over plain lists and numbers, for every argument in range the law's function answers true. -/
import Derived.Test.YtjhgpankffdnaaaAx8
import Derived.Test.YtjhgpankffdnaaaPlainA
namespace Go.Proofs.Ytjhgpankffdnaaa.PureA
open Go.RowKit Go.Proofs.YtjhgpankffdnaaaW.PrintWords Go.Proofs.Ytjhgpankffdnaaa.Evs Go.Proofs.Ytjhgpankffdnaaa.A
theorem AluLess (l0 : List Int) (l1 : List ByteArray) (l2 : List S34) (h : Arg26 l0 l1 l2) : ∃ k, cellarlaw2_AluLess.f k l0 l1 l2 = some true := by
  refine Ev.at_ ?_
  unfold cellarlaw2_AluLess.f
  exact Ev.bind (twos_true [19] l0 l1 l2 (by decide) h) (Ev.now _)
end Go.Proofs.Ytjhgpankffdnaaa.PureA
