/- The pure statement of LexBytes: over plain lists and numbers, for every argument the law's function answers true: nothing of the argument is looked at but that its length is not below nought; all 256 bytes are worked out. -/
import Derived.Test.YtkkdcpadmppmfaaDoorAx6
import Derived.Test.YtkkdcpadmppmfaaDoorArgA
namespace Go.Proofs.YtkkdcpadmppmfaaDoor.PureA
open Go.RowKit Go.Proofs.YtkkdcpadmppmfaaDoorW.PrintWords Go.Proofs.YtkkdcpadmppmfaaDoor.A
set_option maxRecDepth 100000
theorem LexBytes (l0 : List ByteArray) (l1 : List Int) (_h : Arg25 l0 l1) : ∃ k, cellarlaw10_LexBytes.f k l0 l1 = some true :=
  ⟨3000, by kernel_rfl⟩
end Go.Proofs.YtkkdcpadmppmfaaDoor.PureA
