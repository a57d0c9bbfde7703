/-
  No cell of these rows narrows 'for every input' (looked for: loops, veiled, ifaces, maps, wideKeys, modest, calm, conditions, laid).
  DERIVED. THE GIVEN ROWS OF THIS SEAT. 8 by the template 'for every input the law returns true; each argument reads behind the call as it read before'; 0 by the template 'total and deterministic' (their statements: YtjoplkillkhiaaaTotals.lean).
  GIVEN WITH THE SEED: the statements are not yours to turn. If you find one false, say at which input.
  Laid BY PROGRAM, IN A SANDBOX (cutbox-rows.mjs): the forced cells as the released guide's own fill.sh prints them over the translation 464ba0bbe12f03e8… (all of the seat's roots in one cut). By AI agents, Wed Nov 11 2026. No macro, syntax, notation, axiom, sorry.
-/
import Derived.Test.YtjoplkillkhiaaaChecked
import GoSem.Claim
import GoSem.ClaimJoined
import GoSem.ClaimMapViews
import Derived.JoinedTies
import Derived.KernelRfl
namespace Go.Proofs.Ytjoplkillkhiaaa
/- THE CELL 'sum', in the pinned program and in every row, IS THE sha256 OF THE DUMP (.gsa) THAT YtjoplkillkhiaaaProg.lean LOADS. Nothing in Lean hashes anything: it is a label: what it is worth is what the hold of that sum in a sandbox is worth. -/
noncomputable def Try.pinned : Pinned := { name := "ytjoplkillkhiaaa", sum := "464ba0bbe12f03e8365b385d7830b971513d85f629c95a926c3b2c90c3cbef99", checked := Try.checked }
namespace Rows
def none {H : Type} : Left H := { results := [], args := [] }

/-- 'cellarlaw7.LayLimits': WHATEVER THE INPUT: true; the input reads as it did. -/
def layLimitsSpec : ChangeSpec := { name := "layLimits", fn := fun _ => fun
  | [d] => { results := [.lit (.bool true)], args := [d] }
  | _ => none }
def layLimitsRow : OpenClaim := { program := "ytjoplkillkhiaaa", sum := "464ba0bbe12f03e8365b385d7830b971513d85f629c95a926c3b2c90c3cbef99", func := "cellar/cellarlaw7.LayLimits", spec := "layLimits", unfollowed := true, recurses := true, apart := false }
def LayLimitsSaid : Prop := layLimitsRow.holds Try.pinned (OpenSpec.ofChange layLimitsSpec)

/-- ITS FALSE NEIGHBOUR: 'it returns false'. Refute it at one input. -/
def layLimitsWrong : ChangeSpec := { name := "layLimits", fn := fun _ => fun
  | [d] => { results := [.lit (.bool false)], args := [d] }
  | _ => none }
def LayLimitsWrongFalsely : Prop := layLimitsRow.holds Try.pinned (OpenSpec.ofChange layLimitsWrong)

/-- 'cellarlaw7.LaySizes': WHATEVER THE INPUT: true; the input reads as it did. -/
def laySizesSpec : ChangeSpec := { name := "laySizes", fn := fun _ => fun
  | [d] => { results := [.lit (.bool true)], args := [d] }
  | _ => none }
def laySizesRow : OpenClaim := { program := "ytjoplkillkhiaaa", sum := "464ba0bbe12f03e8365b385d7830b971513d85f629c95a926c3b2c90c3cbef99", func := "cellar/cellarlaw7.LaySizes", spec := "laySizes", unfollowed := true, recurses := true, apart := false }
def LaySizesSaid : Prop := laySizesRow.holds Try.pinned (OpenSpec.ofChange laySizesSpec)

/-- ITS FALSE NEIGHBOUR: 'it returns false'. Refute it at one input. -/
def laySizesWrong : ChangeSpec := { name := "laySizes", fn := fun _ => fun
  | [d] => { results := [.lit (.bool false)], args := [d] }
  | _ => none }
def LaySizesWrongFalsely : Prop := laySizesRow.holds Try.pinned (OpenSpec.ofChange laySizesWrong)

/-- 'cellarlaw9.MemStores': WHATEVER THE INPUT: true; the input reads as it did. -/
def memStoresSpec : ChangeSpec := { name := "memStores", fn := fun _ => fun
  | [d] => { results := [.lit (.bool true)], args := [d] }
  | _ => none }
def memStoresRow : OpenClaim := { program := "ytjoplkillkhiaaa", sum := "464ba0bbe12f03e8365b385d7830b971513d85f629c95a926c3b2c90c3cbef99", func := "cellar/cellarlaw9.MemStores", spec := "memStores", unfollowed := true, recurses := true, apart := false }
def MemStoresSaid : Prop := memStoresRow.holds Try.pinned (OpenSpec.ofChange memStoresSpec)

/-- ITS FALSE NEIGHBOUR: 'it returns false'. Refute it at one input. -/
def memStoresWrong : ChangeSpec := { name := "memStores", fn := fun _ => fun
  | [d] => { results := [.lit (.bool false)], args := [d] }
  | _ => none }
def MemStoresWrongFalsely : Prop := memStoresRow.holds Try.pinned (OpenSpec.ofChange memStoresWrong)

/-- 'cellarlaw9.MemEdges': WHATEVER THE INPUT: true; the input reads as it did. -/
def memEdgesSpec : ChangeSpec := { name := "memEdges", fn := fun _ => fun
  | [d] => { results := [.lit (.bool true)], args := [d] }
  | _ => none }
def memEdgesRow : OpenClaim := { program := "ytjoplkillkhiaaa", sum := "464ba0bbe12f03e8365b385d7830b971513d85f629c95a926c3b2c90c3cbef99", func := "cellar/cellarlaw9.MemEdges", spec := "memEdges", unfollowed := true, recurses := true, apart := false }
def MemEdgesSaid : Prop := memEdgesRow.holds Try.pinned (OpenSpec.ofChange memEdgesSpec)

/-- ITS FALSE NEIGHBOUR: 'it returns false'. Refute it at one input. -/
def memEdgesWrong : ChangeSpec := { name := "memEdges", fn := fun _ => fun
  | [d] => { results := [.lit (.bool false)], args := [d] }
  | _ => none }
def MemEdgesWrongFalsely : Prop := memEdgesRow.holds Try.pinned (OpenSpec.ofChange memEdgesWrong)

/-- 'cellarlaw9.MemOver': WHATEVER THE INPUT: true; the input reads as it did. -/
def memOverSpec : ChangeSpec := { name := "memOver", fn := fun _ => fun
  | [d] => { results := [.lit (.bool true)], args := [d] }
  | _ => none }
def memOverRow : OpenClaim := { program := "ytjoplkillkhiaaa", sum := "464ba0bbe12f03e8365b385d7830b971513d85f629c95a926c3b2c90c3cbef99", func := "cellar/cellarlaw9.MemOver", spec := "memOver", unfollowed := true, recurses := true, apart := false }
def MemOverSaid : Prop := memOverRow.holds Try.pinned (OpenSpec.ofChange memOverSpec)

/-- ITS FALSE NEIGHBOUR: 'it returns false'. Refute it at one input. -/
def memOverWrong : ChangeSpec := { name := "memOver", fn := fun _ => fun
  | [d] => { results := [.lit (.bool false)], args := [d] }
  | _ => none }
def MemOverWrongFalsely : Prop := memOverRow.holds Try.pinned (OpenSpec.ofChange memOverWrong)

/-- 'cellarlaw9.MemLoads': WHATEVER THE INPUT: true; the input reads as it did. -/
def memLoadsSpec : ChangeSpec := { name := "memLoads", fn := fun _ => fun
  | [d] => { results := [.lit (.bool true)], args := [d] }
  | _ => none }
def memLoadsRow : OpenClaim := { program := "ytjoplkillkhiaaa", sum := "464ba0bbe12f03e8365b385d7830b971513d85f629c95a926c3b2c90c3cbef99", func := "cellar/cellarlaw9.MemLoads", spec := "memLoads", unfollowed := true, recurses := true, apart := false }
def MemLoadsSaid : Prop := memLoadsRow.holds Try.pinned (OpenSpec.ofChange memLoadsSpec)

/-- ITS FALSE NEIGHBOUR: 'it returns false'. Refute it at one input. -/
def memLoadsWrong : ChangeSpec := { name := "memLoads", fn := fun _ => fun
  | [d] => { results := [.lit (.bool false)], args := [d] }
  | _ => none }
def MemLoadsWrongFalsely : Prop := memLoadsRow.holds Try.pinned (OpenSpec.ofChange memLoadsWrong)

/-- 'cellarlaw9.MemBack': WHATEVER THE INPUT: true; the input reads as it did. -/
def memBackSpec : ChangeSpec := { name := "memBack", fn := fun _ => fun
  | [d] => { results := [.lit (.bool true)], args := [d] }
  | _ => none }
def memBackRow : OpenClaim := { program := "ytjoplkillkhiaaa", sum := "464ba0bbe12f03e8365b385d7830b971513d85f629c95a926c3b2c90c3cbef99", func := "cellar/cellarlaw9.MemBack", spec := "memBack", unfollowed := true, recurses := true, apart := false }
def MemBackSaid : Prop := memBackRow.holds Try.pinned (OpenSpec.ofChange memBackSpec)

/-- ITS FALSE NEIGHBOUR: 'it returns false'. Refute it at one input. -/
def memBackWrong : ChangeSpec := { name := "memBack", fn := fun _ => fun
  | [d] => { results := [.lit (.bool false)], args := [d] }
  | _ => none }
def MemBackWrongFalsely : Prop := memBackRow.holds Try.pinned (OpenSpec.ofChange memBackWrong)

/-- 'cellarlaw9.MemMoves': WHATEVER THE INPUT: true; the input reads as it did. -/
def memMovesSpec : ChangeSpec := { name := "memMoves", fn := fun _ => fun
  | [d] => { results := [.lit (.bool true)], args := [d] }
  | _ => none }
def memMovesRow : OpenClaim := { program := "ytjoplkillkhiaaa", sum := "464ba0bbe12f03e8365b385d7830b971513d85f629c95a926c3b2c90c3cbef99", func := "cellar/cellarlaw9.MemMoves", spec := "memMoves", unfollowed := true, recurses := true, apart := false }
def MemMovesSaid : Prop := memMovesRow.holds Try.pinned (OpenSpec.ofChange memMovesSpec)

/-- ITS FALSE NEIGHBOUR: 'it returns false'. Refute it at one input. -/
def memMovesWrong : ChangeSpec := { name := "memMoves", fn := fun _ => fun
  | [d] => { results := [.lit (.bool false)], args := [d] }
  | _ => none }
def MemMovesWrongFalsely : Prop := memMovesRow.holds Try.pinned (OpenSpec.ofChange memMovesWrong)

/- THE SECOND FORM. 'bulk': how many values and letters a reading holds, each counted each time it is reached (what is shared counts as often as it is met; a slice's spare places count too). A statement '..UptoSaid' is the law's where the arguments, and the package variables that the reading takes, are together of bulk at most 1048576: NARROWER than '..Said'. Prove '..Said' where nothing that the law and all that it calls make is longer than what came in: it says more and counts as full. Else prove '..UptoSaid'. A law counts once. -/
mutual
def uptoBulk {H : Type} : DataW H → Nat
  | .lit (.string bytes) => bytes.length + 1
  | .lit _ => 1
  | .nil => 1
  | .ptr d => uptoBulk d + 1
  | .slice elems spare => uptoBulkAll elems + uptoBulkAll spare + 1
  | .agg parts => uptoBulkAll parts + 1
  | .iface _ d => uptoBulk d + 1
  | .map entries => uptoBulkEntries entries + 1
  | .held _ => 1
def uptoBulkAll {H : Type} : List (DataW H) → Nat
  | [] => 0
  | d :: r => uptoBulk d + uptoBulkAll r
def uptoBulkEntries {H : Type} : List (Lit × DataW H) → Nat
  | [] => 0
  | x :: r => uptoBulkEntry x + uptoBulkEntries r
def uptoBulkEntry {H : Type} : Lit × DataW H → Nat
  | (.string bytes, d) => bytes.length + uptoBulk d + 1
  | (_, d) => uptoBulk d + 1
 end
def uptoSmall : (H : Type) → List (DataW H) → Bool := fun _ ds => decide (uptoBulkAll ds ≤ 1048576)
def OpenSpec.upto (s : _root_.Go.ChangeSpec) : _root_.Go.OpenSpec := { _root_.Go.OpenSpec.ofChange s with cond := some uptoSmall }

/-- 'cellarlaw7.LayLimits', WHERE WHAT IT READS IS OF BULK AT MOST 1048576: true; the input reads as it did. -/
def layLimitsUptoRow : OpenClaim := { program := "ytjoplkillkhiaaa", sum := "464ba0bbe12f03e8365b385d7830b971513d85f629c95a926c3b2c90c3cbef99", func := "cellar/cellarlaw7.LayLimits", spec := "layLimits", unfollowed := true, recurses := true, apart := false, narrowed := true }
def LayLimitsUptoSaid : Prop := layLimitsUptoRow.holds Try.pinned (OpenSpec.upto layLimitsSpec)

/-- 'cellarlaw7.LaySizes', WHERE WHAT IT READS IS OF BULK AT MOST 1048576: true; the input reads as it did. -/
def laySizesUptoRow : OpenClaim := { program := "ytjoplkillkhiaaa", sum := "464ba0bbe12f03e8365b385d7830b971513d85f629c95a926c3b2c90c3cbef99", func := "cellar/cellarlaw7.LaySizes", spec := "laySizes", unfollowed := true, recurses := true, apart := false, narrowed := true }
def LaySizesUptoSaid : Prop := laySizesUptoRow.holds Try.pinned (OpenSpec.upto laySizesSpec)

/-- 'cellarlaw9.MemStores', WHERE WHAT IT READS IS OF BULK AT MOST 1048576: true; the input reads as it did. -/
def memStoresUptoRow : OpenClaim := { program := "ytjoplkillkhiaaa", sum := "464ba0bbe12f03e8365b385d7830b971513d85f629c95a926c3b2c90c3cbef99", func := "cellar/cellarlaw9.MemStores", spec := "memStores", unfollowed := true, recurses := true, apart := false, narrowed := true }
def MemStoresUptoSaid : Prop := memStoresUptoRow.holds Try.pinned (OpenSpec.upto memStoresSpec)

/-- 'cellarlaw9.MemEdges', WHERE WHAT IT READS IS OF BULK AT MOST 1048576: true; the input reads as it did. -/
def memEdgesUptoRow : OpenClaim := { program := "ytjoplkillkhiaaa", sum := "464ba0bbe12f03e8365b385d7830b971513d85f629c95a926c3b2c90c3cbef99", func := "cellar/cellarlaw9.MemEdges", spec := "memEdges", unfollowed := true, recurses := true, apart := false, narrowed := true }
def MemEdgesUptoSaid : Prop := memEdgesUptoRow.holds Try.pinned (OpenSpec.upto memEdgesSpec)

/-- 'cellarlaw9.MemOver', WHERE WHAT IT READS IS OF BULK AT MOST 1048576: true; the input reads as it did. -/
def memOverUptoRow : OpenClaim := { program := "ytjoplkillkhiaaa", sum := "464ba0bbe12f03e8365b385d7830b971513d85f629c95a926c3b2c90c3cbef99", func := "cellar/cellarlaw9.MemOver", spec := "memOver", unfollowed := true, recurses := true, apart := false, narrowed := true }
def MemOverUptoSaid : Prop := memOverUptoRow.holds Try.pinned (OpenSpec.upto memOverSpec)

/-- 'cellarlaw9.MemLoads', WHERE WHAT IT READS IS OF BULK AT MOST 1048576: true; the input reads as it did. -/
def memLoadsUptoRow : OpenClaim := { program := "ytjoplkillkhiaaa", sum := "464ba0bbe12f03e8365b385d7830b971513d85f629c95a926c3b2c90c3cbef99", func := "cellar/cellarlaw9.MemLoads", spec := "memLoads", unfollowed := true, recurses := true, apart := false, narrowed := true }
def MemLoadsUptoSaid : Prop := memLoadsUptoRow.holds Try.pinned (OpenSpec.upto memLoadsSpec)

/-- 'cellarlaw9.MemBack', WHERE WHAT IT READS IS OF BULK AT MOST 1048576: true; the input reads as it did. -/
def memBackUptoRow : OpenClaim := { program := "ytjoplkillkhiaaa", sum := "464ba0bbe12f03e8365b385d7830b971513d85f629c95a926c3b2c90c3cbef99", func := "cellar/cellarlaw9.MemBack", spec := "memBack", unfollowed := true, recurses := true, apart := false, narrowed := true }
def MemBackUptoSaid : Prop := memBackUptoRow.holds Try.pinned (OpenSpec.upto memBackSpec)

/-- 'cellarlaw9.MemMoves', WHERE WHAT IT READS IS OF BULK AT MOST 1048576: true; the input reads as it did. -/
def memMovesUptoRow : OpenClaim := { program := "ytjoplkillkhiaaa", sum := "464ba0bbe12f03e8365b385d7830b971513d85f629c95a926c3b2c90c3cbef99", func := "cellar/cellarlaw9.MemMoves", spec := "memMoves", unfollowed := true, recurses := true, apart := false, narrowed := true }
def MemMovesUptoSaid : Prop := memMovesUptoRow.holds Try.pinned (OpenSpec.upto memMovesSpec)

end Rows
end Go.Proofs.Ytjoplkillkhiaaa
