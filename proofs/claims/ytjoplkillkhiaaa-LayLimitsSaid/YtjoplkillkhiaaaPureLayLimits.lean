/- The pure statement of LayLimits: over plain lists and numbers, for every argument the law's function answers true: it is worked out once, no part of the argument is looked at but a length's sign. -/
import Derived.Test.YtjoplkillkhiaaaAx5
import Derived.Test.YtjoplkillkhiaaaArgA
namespace Go.Proofs.Ytjoplkillkhiaaa.PureA
open Go.RowKit Go.Proofs.YtjoplkillkhiaaaW.PrintWords Go.Proofs.Ytjoplkillkhiaaa.A
set_option maxRecDepth 100000 in
theorem LayLimits (l0 : List S29) (l1 : List (List S31)) (l2 : List ByteArray) (l3 : List Int) (_h : Arg27 l0 l1 l2 l3) : ∃ k, cellarlaw7_LayLimits.f k l0 l1 l2 l3 = some true :=
  ⟨60, by kernel_rfl⟩
end Go.Proofs.Ytjoplkillkhiaaa.PureA
