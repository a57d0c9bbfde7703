-- Written by this session's own edition of the print.
import Derived.Test.YthhdmanpjeminaaBx0
import Derived.Test.YthhdmanpjeminaaBx1
import Derived.Test.YthhdmanpjeminaaBx2
import Derived.Test.YthhdmanpjeminaaBx3
import Derived.Test.YthhdmanpjeminaaBx5
import Derived.Test.YthhdmanpjeminaaBx6
import Derived.Test.YthhdmanpjeminaaBx7
import Derived.Test.YthhdmanpjeminaaUSq
import Derived.Test.YthhdmanpjeminaaUSq2
import Derived.Test.YthhdmanpjeminaaUSq3
import Derived.Test.YthhdmanpjeminaaBx8
import Derived.Test.YthhdmanpjeminaaCut
import Derived.Test.YthhdmanpjeminaaBy
import Derived.Test.YthhdmanpjeminaaBya
import Derived.Test.YthhdmanpjeminaaByaa
import Derived.Test.YthhdmanpjeminaaByab
namespace Go.Proofs.Ythhdmanpjeminaa.B
open Go.Proofs.Ythhdmanpjeminaa.Cuts Go.RowKit Go.Proofs.Ythhdmanpjeminaa.Fn Go.Proofs.YthhdmanpjeminaaW.PrintWords Go.Proofs.YthhdmanpjeminaaW.PrintLast Go.Proofs.YthhdmanpjeminaaW.PrintMore
theorem cellarlaw8_BytesBack.calls (k : Nat) (A0_0 : Option Addr) (c0_0 : Nat) (l0_0 : List (S38)) (A0_1 : Option Addr) (c0_1 : Nat) (l0_1 : List (S33)) (A0_2 : Option Addr) (c0_2 : Nat) (l0_2 : List (S51)) (r : Bool) (w : World) (hr0_0 : Kd.C k38 w A0_0 l0_0.length l0_0) (hc0_0 : l0_0.length ≤ c0_0) (hr0_1 : Kd.C k33 w A0_1 l0_1.length l0_1) (hc0_1 : l0_1.length ≤ c0_1) (hr0_2 : Kd.C k51 w A0_2 l0_2.length l0_2) (hc0_2 : l0_2.length ≤ c0_2) (h : cellarlaw8_BytesBack.f k l0_0 l0_1 l0_2 = some r) :
  Calls Try.prog 4 #[.agg #[.slice A0_0 l0_0.length c0_0, .slice A0_1 l0_1.length c0_1, .slice A0_2 l0_2.length c0_2]] w fun e w' => e = .returned (.bool r) ∧ Below w.heap.size w w' :=
  (cellarlaw8_BytesBack.cut_.h ⟨(cellarlaw8_BytesBack.cut_a.h ⟨cellarlaw8_BytesBack.part_aa⟩ ⟨cellarlaw8_BytesBack.part_ab⟩)⟩) k A0_0 c0_0 l0_0 A0_1 c0_1 l0_1 A0_2 c0_2 l0_2 r w hr0_0 hc0_0 hr0_1 hc0_1 hr0_2 hc0_2 h
end Go.Proofs.Ythhdmanpjeminaa.B
