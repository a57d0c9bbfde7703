/- The pure statement of WordBack: over plain lists and numbers, for every argument in range the law's function answers true. -/
import Derived.Test.YtjhgpankffdnaaaBx2
import Derived.Test.YtjhgpankffdnaaaPlainWB
namespace Go.Proofs.Ytjhgpankffdnaaa.PureB
open Go.RowKit Go.Proofs.YtjhgpankffdnaaaW.PrintWords Go.Proofs.Ytjhgpankffdnaaa.Evs Go.Proofs.Ytjhgpankffdnaaa.B
theorem WordBack (l0 : List Int) (l1 : List ByteArray) (l2 : List S34) (h : Arg26 l0 l1 l2) : ∃ k, cellarlaw1_WordBack.f k l0 l1 l2 = some true := by
  refine Ev.at_ ?_
  exact back_true l0 l1 l2 h
end Go.Proofs.Ytjhgpankffdnaaa.PureB
