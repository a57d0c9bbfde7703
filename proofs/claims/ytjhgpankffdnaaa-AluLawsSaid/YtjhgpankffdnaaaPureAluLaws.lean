/- The pure statement of AluLaws: over plain lists and numbers, for every argument in range the law's function answers true. -/
import Derived.Test.YtjhgpankffdnaaaPlainE
namespace Go.Proofs.Ytjhgpankffdnaaa.PureA
open Go.RowKit Go.Proofs.YtjhgpankffdnaaaW.PrintWords Go.Proofs.Ytjhgpankffdnaaa.Evs Go.Proofs.Ytjhgpankffdnaaa.A
theorem AluLaws (l0 : List Int) (l1 : List ByteArray) (l2 : List S34) (h : Arg26 l0 l1 l2) : ∃ k, cellarlaw2_AluLaws.f k l0 l1 l2 = some true := by
  refine Ev.at_ ?_
  exact laws_true l0 l1 l2 h
end Go.Proofs.Ytjhgpankffdnaaa.PureA
