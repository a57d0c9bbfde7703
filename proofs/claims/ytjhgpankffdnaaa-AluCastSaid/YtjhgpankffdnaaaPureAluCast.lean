/- The pure statement of AluCast: over plain lists and numbers, for every argument in range the law's function answers true. -/
import Derived.Test.YtjhgpankffdnaaaAx9
import Derived.Test.YtjhgpankffdnaaaPlainB
namespace Go.Proofs.Ytjhgpankffdnaaa.PureA
open Go.RowKit Go.Proofs.YtjhgpankffdnaaaW.PrintWords Go.Proofs.Ytjhgpankffdnaaa.Evs Go.Proofs.Ytjhgpankffdnaaa.A
theorem AluCast (l0 : List Int) (l1 : List ByteArray) (l2 : List S34) (h : Arg26 l0 l1 l2) : ∃ k, cellarlaw2_AluCast.f k l0 l1 l2 = some true := by
  refine Ev.at_ ?_
  exact cast_true l0 l1 l2 h
end Go.Proofs.Ytjhgpankffdnaaa.PureA
