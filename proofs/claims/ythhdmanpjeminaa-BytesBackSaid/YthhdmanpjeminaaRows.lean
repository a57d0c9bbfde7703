/-
  No cell of these rows narrows 'for every input' (looked for: loops, veiled, ifaces, maps, wideKeys, modest, calm, conditions, laid).
  DERIVED. THE GIVEN ROWS OF THIS SEAT. 10 by the template 'for every input the law returns true; each argument reads behind the call as it read before'; 0 by the template 'total and deterministic' (their statements: YthhdmanpjeminaaTotals.lean).
  GIVEN WITH THE SEED: the statements are not yours to turn. If you find one false, say at which input.
  Laid BY PROGRAM, IN A SANDBOX (cutbox-rows.mjs): the forced cells as the released guide's own fill.sh prints them over the translation 38006ff0eecd5d9f… (all of the seat's roots in one cut). By AI agents, Wed Nov 11 2026. No macro, syntax, notation, axiom, sorry.
-/
import Derived.Test.YthhdmanpjeminaaChecked
import GoSem.Claim
import GoSem.ClaimJoined
import GoSem.ClaimMapViews
import Derived.JoinedTies
import Derived.KernelRfl
namespace Go.Proofs.Ythhdmanpjeminaa
/- THE CELL 'sum', in the pinned program and in every row, IS THE sha256 OF THE DUMP (.gsa) THAT YthhdmanpjeminaaProg.lean LOADS. Nothing in Lean hashes anything: it is a label: what it is worth is what the hold of that sum in a sandbox is worth. -/
noncomputable def Try.pinned : Pinned := { name := "ythhdmanpjeminaa", sum := "38006ff0eecd5d9f41475e1f1a32569da67b02d2670d090d3fd999a765425730", checked := Try.checked }
namespace Rows
def none {H : Type} : Left H := { results := [], args := [] }

/-- 'cellarlaw8.BytesGet': WHATEVER THE INPUT: true; the input reads as it did. -/
def bytesGetSpec : ChangeSpec := { name := "bytesGet", fn := fun _ => fun
  | [d] => { results := [.lit (.bool true)], args := [d] }
  | _ => none }
def bytesGetRow : OpenClaim := { program := "ythhdmanpjeminaa", sum := "38006ff0eecd5d9f41475e1f1a32569da67b02d2670d090d3fd999a765425730", func := "cellar/cellarlaw8.BytesGet", spec := "bytesGet", unfollowed := true, recurses := true, apart := false }
def BytesGetSaid : Prop := bytesGetRow.holds Try.pinned (OpenSpec.ofChange bytesGetSpec)

/-- ITS FALSE NEIGHBOUR: 'it returns false'. Refute it at one input. -/
def bytesGetWrong : ChangeSpec := { name := "bytesGet", fn := fun _ => fun
  | [d] => { results := [.lit (.bool false)], args := [d] }
  | _ => none }
def BytesGetWrongFalsely : Prop := bytesGetRow.holds Try.pinned (OpenSpec.ofChange bytesGetWrong)

/-- 'cellarlaw8.BytesBack': WHATEVER THE INPUT: true; the input reads as it did. -/
def bytesBackSpec : ChangeSpec := { name := "bytesBack", fn := fun _ => fun
  | [d] => { results := [.lit (.bool true)], args := [d] }
  | _ => none }
def bytesBackRow : OpenClaim := { program := "ythhdmanpjeminaa", sum := "38006ff0eecd5d9f41475e1f1a32569da67b02d2670d090d3fd999a765425730", func := "cellar/cellarlaw8.BytesBack", spec := "bytesBack", unfollowed := true, recurses := true, apart := false }
def BytesBackSaid : Prop := bytesBackRow.holds Try.pinned (OpenSpec.ofChange bytesBackSpec)

/-- ITS FALSE NEIGHBOUR: 'it returns false'. Refute it at one input. -/
def bytesBackWrong : ChangeSpec := { name := "bytesBack", fn := fun _ => fun
  | [d] => { results := [.lit (.bool false)], args := [d] }
  | _ => none }
def BytesBackWrongFalsely : Prop := bytesBackRow.holds Try.pinned (OpenSpec.ofChange bytesBackWrong)

/-- 'cellarlaw8.BytesU8': WHATEVER THE INPUT: true; the input reads as it did. -/
def bytesU8Spec : ChangeSpec := { name := "bytesU8", fn := fun _ => fun
  | [d] => { results := [.lit (.bool true)], args := [d] }
  | _ => none }
def bytesU8Row : OpenClaim := { program := "ythhdmanpjeminaa", sum := "38006ff0eecd5d9f41475e1f1a32569da67b02d2670d090d3fd999a765425730", func := "cellar/cellarlaw8.BytesU8", spec := "bytesU8", unfollowed := true, recurses := true, apart := false }
def BytesU8Said : Prop := bytesU8Row.holds Try.pinned (OpenSpec.ofChange bytesU8Spec)

/-- ITS FALSE NEIGHBOUR: 'it returns false'. Refute it at one input. -/
def bytesU8Wrong : ChangeSpec := { name := "bytesU8", fn := fun _ => fun
  | [d] => { results := [.lit (.bool false)], args := [d] }
  | _ => none }
def BytesU8WrongFalsely : Prop := bytesU8Row.holds Try.pinned (OpenSpec.ofChange bytesU8Wrong)

/-- 'cellarlaw8.BytesI8': WHATEVER THE INPUT: true; the input reads as it did. -/
def bytesI8Spec : ChangeSpec := { name := "bytesI8", fn := fun _ => fun
  | [d] => { results := [.lit (.bool true)], args := [d] }
  | _ => none }
def bytesI8Row : OpenClaim := { program := "ythhdmanpjeminaa", sum := "38006ff0eecd5d9f41475e1f1a32569da67b02d2670d090d3fd999a765425730", func := "cellar/cellarlaw8.BytesI8", spec := "bytesI8", unfollowed := true, recurses := true, apart := false }
def BytesI8Said : Prop := bytesI8Row.holds Try.pinned (OpenSpec.ofChange bytesI8Spec)

/-- ITS FALSE NEIGHBOUR: 'it returns false'. Refute it at one input. -/
def bytesI8Wrong : ChangeSpec := { name := "bytesI8", fn := fun _ => fun
  | [d] => { results := [.lit (.bool false)], args := [d] }
  | _ => none }
def BytesI8WrongFalsely : Prop := bytesI8Row.holds Try.pinned (OpenSpec.ofChange bytesI8Wrong)

/-- 'cellarlaw8.BytesU16': WHATEVER THE INPUT: true; the input reads as it did. -/
def bytesU16Spec : ChangeSpec := { name := "bytesU16", fn := fun _ => fun
  | [d] => { results := [.lit (.bool true)], args := [d] }
  | _ => none }
def bytesU16Row : OpenClaim := { program := "ythhdmanpjeminaa", sum := "38006ff0eecd5d9f41475e1f1a32569da67b02d2670d090d3fd999a765425730", func := "cellar/cellarlaw8.BytesU16", spec := "bytesU16", unfollowed := true, recurses := true, apart := false }
def BytesU16Said : Prop := bytesU16Row.holds Try.pinned (OpenSpec.ofChange bytesU16Spec)

/-- ITS FALSE NEIGHBOUR: 'it returns false'. Refute it at one input. -/
def bytesU16Wrong : ChangeSpec := { name := "bytesU16", fn := fun _ => fun
  | [d] => { results := [.lit (.bool false)], args := [d] }
  | _ => none }
def BytesU16WrongFalsely : Prop := bytesU16Row.holds Try.pinned (OpenSpec.ofChange bytesU16Wrong)

/-- 'cellarlaw8.BytesI16': WHATEVER THE INPUT: true; the input reads as it did. -/
def bytesI16Spec : ChangeSpec := { name := "bytesI16", fn := fun _ => fun
  | [d] => { results := [.lit (.bool true)], args := [d] }
  | _ => none }
def bytesI16Row : OpenClaim := { program := "ythhdmanpjeminaa", sum := "38006ff0eecd5d9f41475e1f1a32569da67b02d2670d090d3fd999a765425730", func := "cellar/cellarlaw8.BytesI16", spec := "bytesI16", unfollowed := true, recurses := true, apart := false }
def BytesI16Said : Prop := bytesI16Row.holds Try.pinned (OpenSpec.ofChange bytesI16Spec)

/-- ITS FALSE NEIGHBOUR: 'it returns false'. Refute it at one input. -/
def bytesI16Wrong : ChangeSpec := { name := "bytesI16", fn := fun _ => fun
  | [d] => { results := [.lit (.bool false)], args := [d] }
  | _ => none }
def BytesI16WrongFalsely : Prop := bytesI16Row.holds Try.pinned (OpenSpec.ofChange bytesI16Wrong)

/-- 'cellarlaw8.BytesU32': WHATEVER THE INPUT: true; the input reads as it did. -/
def bytesU32Spec : ChangeSpec := { name := "bytesU32", fn := fun _ => fun
  | [d] => { results := [.lit (.bool true)], args := [d] }
  | _ => none }
def bytesU32Row : OpenClaim := { program := "ythhdmanpjeminaa", sum := "38006ff0eecd5d9f41475e1f1a32569da67b02d2670d090d3fd999a765425730", func := "cellar/cellarlaw8.BytesU32", spec := "bytesU32", unfollowed := true, recurses := true, apart := false }
def BytesU32Said : Prop := bytesU32Row.holds Try.pinned (OpenSpec.ofChange bytesU32Spec)

/-- ITS FALSE NEIGHBOUR: 'it returns false'. Refute it at one input. -/
def bytesU32Wrong : ChangeSpec := { name := "bytesU32", fn := fun _ => fun
  | [d] => { results := [.lit (.bool false)], args := [d] }
  | _ => none }
def BytesU32WrongFalsely : Prop := bytesU32Row.holds Try.pinned (OpenSpec.ofChange bytesU32Wrong)

/-- 'cellarlaw8.BytesI32': WHATEVER THE INPUT: true; the input reads as it did. -/
def bytesI32Spec : ChangeSpec := { name := "bytesI32", fn := fun _ => fun
  | [d] => { results := [.lit (.bool true)], args := [d] }
  | _ => none }
def bytesI32Row : OpenClaim := { program := "ythhdmanpjeminaa", sum := "38006ff0eecd5d9f41475e1f1a32569da67b02d2670d090d3fd999a765425730", func := "cellar/cellarlaw8.BytesI32", spec := "bytesI32", unfollowed := true, recurses := true, apart := false }
def BytesI32Said : Prop := bytesI32Row.holds Try.pinned (OpenSpec.ofChange bytesI32Spec)

/-- ITS FALSE NEIGHBOUR: 'it returns false'. Refute it at one input. -/
def bytesI32Wrong : ChangeSpec := { name := "bytesI32", fn := fun _ => fun
  | [d] => { results := [.lit (.bool false)], args := [d] }
  | _ => none }
def BytesI32WrongFalsely : Prop := bytesI32Row.holds Try.pinned (OpenSpec.ofChange bytesI32Wrong)

/-- 'cellarlaw8.BytesPtr': WHATEVER THE INPUT: true; the input reads as it did. -/
def bytesPtrSpec : ChangeSpec := { name := "bytesPtr", fn := fun _ => fun
  | [d] => { results := [.lit (.bool true)], args := [d] }
  | _ => none }
def bytesPtrRow : OpenClaim := { program := "ythhdmanpjeminaa", sum := "38006ff0eecd5d9f41475e1f1a32569da67b02d2670d090d3fd999a765425730", func := "cellar/cellarlaw8.BytesPtr", spec := "bytesPtr", unfollowed := true, recurses := true, apart := false }
def BytesPtrSaid : Prop := bytesPtrRow.holds Try.pinned (OpenSpec.ofChange bytesPtrSpec)

/-- ITS FALSE NEIGHBOUR: 'it returns false'. Refute it at one input. -/
def bytesPtrWrong : ChangeSpec := { name := "bytesPtr", fn := fun _ => fun
  | [d] => { results := [.lit (.bool false)], args := [d] }
  | _ => none }
def BytesPtrWrongFalsely : Prop := bytesPtrRow.holds Try.pinned (OpenSpec.ofChange bytesPtrWrong)

/-- 'cellarlaw8.BytesPut': WHATEVER THE INPUT: true; the input reads as it did. -/
def bytesPutSpec : ChangeSpec := { name := "bytesPut", fn := fun _ => fun
  | [d] => { results := [.lit (.bool true)], args := [d] }
  | _ => none }
def bytesPutRow : OpenClaim := { program := "ythhdmanpjeminaa", sum := "38006ff0eecd5d9f41475e1f1a32569da67b02d2670d090d3fd999a765425730", func := "cellar/cellarlaw8.BytesPut", spec := "bytesPut", unfollowed := true, recurses := true, apart := false }
def BytesPutSaid : Prop := bytesPutRow.holds Try.pinned (OpenSpec.ofChange bytesPutSpec)

/-- ITS FALSE NEIGHBOUR: 'it returns false'. Refute it at one input. -/
def bytesPutWrong : ChangeSpec := { name := "bytesPut", fn := fun _ => fun
  | [d] => { results := [.lit (.bool false)], args := [d] }
  | _ => none }
def BytesPutWrongFalsely : Prop := bytesPutRow.holds Try.pinned (OpenSpec.ofChange bytesPutWrong)

/- THE SECOND FORM. 'bulk': how many values and letters a reading holds, each counted each time it is reached (what is shared counts as often as it is met; a slice's spare places count too). A statement '..UptoSaid' is the law's where the arguments, and the package variables that the reading takes, are together of bulk at most 1048576: NARROWER than '..Said'. Prove '..Said' where nothing that the law and all that it calls make is longer than what came in: it says more and counts as full. Else prove '..UptoSaid'. A law counts once. -/
mutual
def uptoBulk {H : Type} : DataW H → Nat
  | .lit (.string bytes) => bytes.length + 1
  | .lit _ => 1
  | .nil => 1
  | .ptr d => uptoBulk d + 1
  | .slice elems spare => uptoBulkAll elems + uptoBulkAll spare + 1
  | .agg parts => uptoBulkAll parts + 1
  | .iface _ d => uptoBulk d + 1
  | .map entries => uptoBulkEntries entries + 1
  | .held _ => 1
def uptoBulkAll {H : Type} : List (DataW H) → Nat
  | [] => 0
  | d :: r => uptoBulk d + uptoBulkAll r
def uptoBulkEntries {H : Type} : List (Lit × DataW H) → Nat
  | [] => 0
  | x :: r => uptoBulkEntry x + uptoBulkEntries r
def uptoBulkEntry {H : Type} : Lit × DataW H → Nat
  | (.string bytes, d) => bytes.length + uptoBulk d + 1
  | (_, d) => uptoBulk d + 1
 end
def uptoSmall : (H : Type) → List (DataW H) → Bool := fun _ ds => decide (uptoBulkAll ds ≤ 1048576)
def OpenSpec.upto (s : _root_.Go.ChangeSpec) : _root_.Go.OpenSpec := { _root_.Go.OpenSpec.ofChange s with cond := some uptoSmall }

/-- 'cellarlaw8.BytesGet', WHERE WHAT IT READS IS OF BULK AT MOST 1048576: true; the input reads as it did. -/
def bytesGetUptoRow : OpenClaim := { program := "ythhdmanpjeminaa", sum := "38006ff0eecd5d9f41475e1f1a32569da67b02d2670d090d3fd999a765425730", func := "cellar/cellarlaw8.BytesGet", spec := "bytesGet", unfollowed := true, recurses := true, apart := false, narrowed := true }
def BytesGetUptoSaid : Prop := bytesGetUptoRow.holds Try.pinned (OpenSpec.upto bytesGetSpec)

/-- 'cellarlaw8.BytesBack', WHERE WHAT IT READS IS OF BULK AT MOST 1048576: true; the input reads as it did. -/
def bytesBackUptoRow : OpenClaim := { program := "ythhdmanpjeminaa", sum := "38006ff0eecd5d9f41475e1f1a32569da67b02d2670d090d3fd999a765425730", func := "cellar/cellarlaw8.BytesBack", spec := "bytesBack", unfollowed := true, recurses := true, apart := false, narrowed := true }
def BytesBackUptoSaid : Prop := bytesBackUptoRow.holds Try.pinned (OpenSpec.upto bytesBackSpec)

/-- 'cellarlaw8.BytesU8', WHERE WHAT IT READS IS OF BULK AT MOST 1048576: true; the input reads as it did. -/
def bytesU8UptoRow : OpenClaim := { program := "ythhdmanpjeminaa", sum := "38006ff0eecd5d9f41475e1f1a32569da67b02d2670d090d3fd999a765425730", func := "cellar/cellarlaw8.BytesU8", spec := "bytesU8", unfollowed := true, recurses := true, apart := false, narrowed := true }
def BytesU8UptoSaid : Prop := bytesU8UptoRow.holds Try.pinned (OpenSpec.upto bytesU8Spec)

/-- 'cellarlaw8.BytesI8', WHERE WHAT IT READS IS OF BULK AT MOST 1048576: true; the input reads as it did. -/
def bytesI8UptoRow : OpenClaim := { program := "ythhdmanpjeminaa", sum := "38006ff0eecd5d9f41475e1f1a32569da67b02d2670d090d3fd999a765425730", func := "cellar/cellarlaw8.BytesI8", spec := "bytesI8", unfollowed := true, recurses := true, apart := false, narrowed := true }
def BytesI8UptoSaid : Prop := bytesI8UptoRow.holds Try.pinned (OpenSpec.upto bytesI8Spec)

/-- 'cellarlaw8.BytesU16', WHERE WHAT IT READS IS OF BULK AT MOST 1048576: true; the input reads as it did. -/
def bytesU16UptoRow : OpenClaim := { program := "ythhdmanpjeminaa", sum := "38006ff0eecd5d9f41475e1f1a32569da67b02d2670d090d3fd999a765425730", func := "cellar/cellarlaw8.BytesU16", spec := "bytesU16", unfollowed := true, recurses := true, apart := false, narrowed := true }
def BytesU16UptoSaid : Prop := bytesU16UptoRow.holds Try.pinned (OpenSpec.upto bytesU16Spec)

/-- 'cellarlaw8.BytesI16', WHERE WHAT IT READS IS OF BULK AT MOST 1048576: true; the input reads as it did. -/
def bytesI16UptoRow : OpenClaim := { program := "ythhdmanpjeminaa", sum := "38006ff0eecd5d9f41475e1f1a32569da67b02d2670d090d3fd999a765425730", func := "cellar/cellarlaw8.BytesI16", spec := "bytesI16", unfollowed := true, recurses := true, apart := false, narrowed := true }
def BytesI16UptoSaid : Prop := bytesI16UptoRow.holds Try.pinned (OpenSpec.upto bytesI16Spec)

/-- 'cellarlaw8.BytesU32', WHERE WHAT IT READS IS OF BULK AT MOST 1048576: true; the input reads as it did. -/
def bytesU32UptoRow : OpenClaim := { program := "ythhdmanpjeminaa", sum := "38006ff0eecd5d9f41475e1f1a32569da67b02d2670d090d3fd999a765425730", func := "cellar/cellarlaw8.BytesU32", spec := "bytesU32", unfollowed := true, recurses := true, apart := false, narrowed := true }
def BytesU32UptoSaid : Prop := bytesU32UptoRow.holds Try.pinned (OpenSpec.upto bytesU32Spec)

/-- 'cellarlaw8.BytesI32', WHERE WHAT IT READS IS OF BULK AT MOST 1048576: true; the input reads as it did. -/
def bytesI32UptoRow : OpenClaim := { program := "ythhdmanpjeminaa", sum := "38006ff0eecd5d9f41475e1f1a32569da67b02d2670d090d3fd999a765425730", func := "cellar/cellarlaw8.BytesI32", spec := "bytesI32", unfollowed := true, recurses := true, apart := false, narrowed := true }
def BytesI32UptoSaid : Prop := bytesI32UptoRow.holds Try.pinned (OpenSpec.upto bytesI32Spec)

/-- 'cellarlaw8.BytesPtr', WHERE WHAT IT READS IS OF BULK AT MOST 1048576: true; the input reads as it did. -/
def bytesPtrUptoRow : OpenClaim := { program := "ythhdmanpjeminaa", sum := "38006ff0eecd5d9f41475e1f1a32569da67b02d2670d090d3fd999a765425730", func := "cellar/cellarlaw8.BytesPtr", spec := "bytesPtr", unfollowed := true, recurses := true, apart := false, narrowed := true }
def BytesPtrUptoSaid : Prop := bytesPtrUptoRow.holds Try.pinned (OpenSpec.upto bytesPtrSpec)

/-- 'cellarlaw8.BytesPut', WHERE WHAT IT READS IS OF BULK AT MOST 1048576: true; the input reads as it did. -/
def bytesPutUptoRow : OpenClaim := { program := "ythhdmanpjeminaa", sum := "38006ff0eecd5d9f41475e1f1a32569da67b02d2670d090d3fd999a765425730", func := "cellar/cellarlaw8.BytesPut", spec := "bytesPut", unfollowed := true, recurses := true, apart := false, narrowed := true }
def BytesPutUptoSaid : Prop := bytesPutUptoRow.holds Try.pinned (OpenSpec.upto bytesPutSpec)

end Rows
end Go.Proofs.Ythhdmanpjeminaa
