/-
  No cell of these rows narrows 'for every input' (looked for: loops, veiled, ifaces, maps, wideKeys, modest, calm, conditions, laid).
  DERIVED. THE GIVEN ROWS OF THIS SEAT. 20 by the template 'for every input the law returns true; each argument reads behind the call as it read before'; 0 by the template 'total and deterministic' (their statements: YtjhgpankffdnaaaTotals.lean).
  GIVEN WITH THE SEED: the statements are not yours to turn. If you find one false, say at which input.
  Laid BY PROGRAM, IN A SANDBOX (cutbox-rows.mjs): the forced cells as the released guide's own fill.sh prints them over the translation 0a81e30d704963d4… (all of the seat's roots in one cut). By AI agents, Wed Nov 11 2026. No macro, syntax, notation, axiom, sorry.
-/
import Derived.Test.YtjhgpankffdnaaaChecked
import GoSem.Claim
import GoSem.ClaimJoined
import GoSem.ClaimMapViews
import Derived.JoinedTies
import Derived.KernelRfl
namespace Go.Proofs.Ytjhgpankffdnaaa
/- THE CELL 'sum', in the pinned program and in every row, IS THE sha256 OF THE DUMP (.gsa) THAT YtjhgpankffdnaaaProg.lean LOADS. Nothing in Lean hashes anything: it is a label: what it is worth is what the hold of that sum in a sandbox is worth. -/
noncomputable def Try.pinned : Pinned := { name := "ytjhgpankffdnaaa", sum := "0a81e30d704963d4480d6d4deaf22eb68727f668fa3e35396dbf20c287e94a19", checked := Try.checked }
namespace Rows
def none {H : Type} : Left H := { results := [], args := [] }

/-- 'cellarlaw1.WordBack': WHATEVER THE INPUT: true; the input reads as it did. -/
def wordBackSpec : ChangeSpec := { name := "wordBack", fn := fun _ => fun
  | [d] => { results := [.lit (.bool true)], args := [d] }
  | _ => none }
def wordBackRow : OpenClaim := { program := "ytjhgpankffdnaaa", sum := "0a81e30d704963d4480d6d4deaf22eb68727f668fa3e35396dbf20c287e94a19", func := "cellar/cellarlaw1.WordBack", spec := "wordBack", apart := false }
def WordBackSaid : Prop := wordBackRow.holds Try.pinned (OpenSpec.ofChange wordBackSpec)

/-- ITS FALSE NEIGHBOUR: 'it returns false'. Refute it at one input. -/
def wordBackWrong : ChangeSpec := { name := "wordBack", fn := fun _ => fun
  | [d] => { results := [.lit (.bool false)], args := [d] }
  | _ => none }
def WordBackWrongFalsely : Prop := wordBackRow.holds Try.pinned (OpenSpec.ofChange wordBackWrong)

/-- 'cellarlaw1.WordExact': WHATEVER THE INPUT: true; the input reads as it did. -/
def wordExactSpec : ChangeSpec := { name := "wordExact", fn := fun _ => fun
  | [d] => { results := [.lit (.bool true)], args := [d] }
  | _ => none }
def wordExactRow : OpenClaim := { program := "ytjhgpankffdnaaa", sum := "0a81e30d704963d4480d6d4deaf22eb68727f668fa3e35396dbf20c287e94a19", func := "cellar/cellarlaw1.WordExact", spec := "wordExact", apart := false }
def WordExactSaid : Prop := wordExactRow.holds Try.pinned (OpenSpec.ofChange wordExactSpec)

/-- ITS FALSE NEIGHBOUR: 'it returns false'. Refute it at one input. -/
def wordExactWrong : ChangeSpec := { name := "wordExact", fn := fun _ => fun
  | [d] => { results := [.lit (.bool false)], args := [d] }
  | _ => none }
def WordExactWrongFalsely : Prop := wordExactRow.holds Try.pinned (OpenSpec.ofChange wordExactWrong)

/-- 'cellarlaw2.AluAdd': WHATEVER THE INPUT: true; the input reads as it did. -/
def aluAddSpec : ChangeSpec := { name := "aluAdd", fn := fun _ => fun
  | [d] => { results := [.lit (.bool true)], args := [d] }
  | _ => none }
def aluAddRow : OpenClaim := { program := "ytjhgpankffdnaaa", sum := "0a81e30d704963d4480d6d4deaf22eb68727f668fa3e35396dbf20c287e94a19", func := "cellar/cellarlaw2.AluAdd", spec := "aluAdd", apart := false }
def AluAddSaid : Prop := aluAddRow.holds Try.pinned (OpenSpec.ofChange aluAddSpec)

/-- ITS FALSE NEIGHBOUR: 'it returns false'. Refute it at one input. -/
def aluAddWrong : ChangeSpec := { name := "aluAdd", fn := fun _ => fun
  | [d] => { results := [.lit (.bool false)], args := [d] }
  | _ => none }
def AluAddWrongFalsely : Prop := aluAddRow.holds Try.pinned (OpenSpec.ofChange aluAddWrong)

/-- 'cellarlaw2.AluSub': WHATEVER THE INPUT: true; the input reads as it did. -/
def aluSubSpec : ChangeSpec := { name := "aluSub", fn := fun _ => fun
  | [d] => { results := [.lit (.bool true)], args := [d] }
  | _ => none }
def aluSubRow : OpenClaim := { program := "ytjhgpankffdnaaa", sum := "0a81e30d704963d4480d6d4deaf22eb68727f668fa3e35396dbf20c287e94a19", func := "cellar/cellarlaw2.AluSub", spec := "aluSub", apart := false }
def AluSubSaid : Prop := aluSubRow.holds Try.pinned (OpenSpec.ofChange aluSubSpec)

/-- ITS FALSE NEIGHBOUR: 'it returns false'. Refute it at one input. -/
def aluSubWrong : ChangeSpec := { name := "aluSub", fn := fun _ => fun
  | [d] => { results := [.lit (.bool false)], args := [d] }
  | _ => none }
def AluSubWrongFalsely : Prop := aluSubRow.holds Try.pinned (OpenSpec.ofChange aluSubWrong)

/-- 'cellarlaw2.AluMul': WHATEVER THE INPUT: true; the input reads as it did. -/
def aluMulSpec : ChangeSpec := { name := "aluMul", fn := fun _ => fun
  | [d] => { results := [.lit (.bool true)], args := [d] }
  | _ => none }
def aluMulRow : OpenClaim := { program := "ytjhgpankffdnaaa", sum := "0a81e30d704963d4480d6d4deaf22eb68727f668fa3e35396dbf20c287e94a19", func := "cellar/cellarlaw2.AluMul", spec := "aluMul", apart := false }
def AluMulSaid : Prop := aluMulRow.holds Try.pinned (OpenSpec.ofChange aluMulSpec)

/-- ITS FALSE NEIGHBOUR: 'it returns false'. Refute it at one input. -/
def aluMulWrong : ChangeSpec := { name := "aluMul", fn := fun _ => fun
  | [d] => { results := [.lit (.bool false)], args := [d] }
  | _ => none }
def AluMulWrongFalsely : Prop := aluMulRow.holds Try.pinned (OpenSpec.ofChange aluMulWrong)

/-- 'cellarlaw2.AluDiv': WHATEVER THE INPUT: true; the input reads as it did. -/
def aluDivSpec : ChangeSpec := { name := "aluDiv", fn := fun _ => fun
  | [d] => { results := [.lit (.bool true)], args := [d] }
  | _ => none }
def aluDivRow : OpenClaim := { program := "ytjhgpankffdnaaa", sum := "0a81e30d704963d4480d6d4deaf22eb68727f668fa3e35396dbf20c287e94a19", func := "cellar/cellarlaw2.AluDiv", spec := "aluDiv", apart := false }
def AluDivSaid : Prop := aluDivRow.holds Try.pinned (OpenSpec.ofChange aluDivSpec)

/-- ITS FALSE NEIGHBOUR: 'it returns false'. Refute it at one input. -/
def aluDivWrong : ChangeSpec := { name := "aluDiv", fn := fun _ => fun
  | [d] => { results := [.lit (.bool false)], args := [d] }
  | _ => none }
def AluDivWrongFalsely : Prop := aluDivRow.holds Try.pinned (OpenSpec.ofChange aluDivWrong)

/-- 'cellarlaw2.AluRem': WHATEVER THE INPUT: true; the input reads as it did. -/
def aluRemSpec : ChangeSpec := { name := "aluRem", fn := fun _ => fun
  | [d] => { results := [.lit (.bool true)], args := [d] }
  | _ => none }
def aluRemRow : OpenClaim := { program := "ytjhgpankffdnaaa", sum := "0a81e30d704963d4480d6d4deaf22eb68727f668fa3e35396dbf20c287e94a19", func := "cellar/cellarlaw2.AluRem", spec := "aluRem", apart := false }
def AluRemSaid : Prop := aluRemRow.holds Try.pinned (OpenSpec.ofChange aluRemSpec)

/-- ITS FALSE NEIGHBOUR: 'it returns false'. Refute it at one input. -/
def aluRemWrong : ChangeSpec := { name := "aluRem", fn := fun _ => fun
  | [d] => { results := [.lit (.bool false)], args := [d] }
  | _ => none }
def AluRemWrongFalsely : Prop := aluRemRow.holds Try.pinned (OpenSpec.ofChange aluRemWrong)

/-- 'cellarlaw2.AluAnd': WHATEVER THE INPUT: true; the input reads as it did. -/
def aluAndSpec : ChangeSpec := { name := "aluAnd", fn := fun _ => fun
  | [d] => { results := [.lit (.bool true)], args := [d] }
  | _ => none }
def aluAndRow : OpenClaim := { program := "ytjhgpankffdnaaa", sum := "0a81e30d704963d4480d6d4deaf22eb68727f668fa3e35396dbf20c287e94a19", func := "cellar/cellarlaw2.AluAnd", spec := "aluAnd", apart := false }
def AluAndSaid : Prop := aluAndRow.holds Try.pinned (OpenSpec.ofChange aluAndSpec)

/-- ITS FALSE NEIGHBOUR: 'it returns false'. Refute it at one input. -/
def aluAndWrong : ChangeSpec := { name := "aluAnd", fn := fun _ => fun
  | [d] => { results := [.lit (.bool false)], args := [d] }
  | _ => none }
def AluAndWrongFalsely : Prop := aluAndRow.holds Try.pinned (OpenSpec.ofChange aluAndWrong)

/-- 'cellarlaw2.AluOr': WHATEVER THE INPUT: true; the input reads as it did. -/
def aluOrSpec : ChangeSpec := { name := "aluOr", fn := fun _ => fun
  | [d] => { results := [.lit (.bool true)], args := [d] }
  | _ => none }
def aluOrRow : OpenClaim := { program := "ytjhgpankffdnaaa", sum := "0a81e30d704963d4480d6d4deaf22eb68727f668fa3e35396dbf20c287e94a19", func := "cellar/cellarlaw2.AluOr", spec := "aluOr", apart := false }
def AluOrSaid : Prop := aluOrRow.holds Try.pinned (OpenSpec.ofChange aluOrSpec)

/-- ITS FALSE NEIGHBOUR: 'it returns false'. Refute it at one input. -/
def aluOrWrong : ChangeSpec := { name := "aluOr", fn := fun _ => fun
  | [d] => { results := [.lit (.bool false)], args := [d] }
  | _ => none }
def AluOrWrongFalsely : Prop := aluOrRow.holds Try.pinned (OpenSpec.ofChange aluOrWrong)

/-- 'cellarlaw2.AluXor': WHATEVER THE INPUT: true; the input reads as it did. -/
def aluXorSpec : ChangeSpec := { name := "aluXor", fn := fun _ => fun
  | [d] => { results := [.lit (.bool true)], args := [d] }
  | _ => none }
def aluXorRow : OpenClaim := { program := "ytjhgpankffdnaaa", sum := "0a81e30d704963d4480d6d4deaf22eb68727f668fa3e35396dbf20c287e94a19", func := "cellar/cellarlaw2.AluXor", spec := "aluXor", apart := false }
def AluXorSaid : Prop := aluXorRow.holds Try.pinned (OpenSpec.ofChange aluXorSpec)

/-- ITS FALSE NEIGHBOUR: 'it returns false'. Refute it at one input. -/
def aluXorWrong : ChangeSpec := { name := "aluXor", fn := fun _ => fun
  | [d] => { results := [.lit (.bool false)], args := [d] }
  | _ => none }
def AluXorWrongFalsely : Prop := aluXorRow.holds Try.pinned (OpenSpec.ofChange aluXorWrong)

/-- 'cellarlaw2.AluShl': WHATEVER THE INPUT: true; the input reads as it did. -/
def aluShlSpec : ChangeSpec := { name := "aluShl", fn := fun _ => fun
  | [d] => { results := [.lit (.bool true)], args := [d] }
  | _ => none }
def aluShlRow : OpenClaim := { program := "ytjhgpankffdnaaa", sum := "0a81e30d704963d4480d6d4deaf22eb68727f668fa3e35396dbf20c287e94a19", func := "cellar/cellarlaw2.AluShl", spec := "aluShl", apart := false }
def AluShlSaid : Prop := aluShlRow.holds Try.pinned (OpenSpec.ofChange aluShlSpec)

/-- ITS FALSE NEIGHBOUR: 'it returns false'. Refute it at one input. -/
def aluShlWrong : ChangeSpec := { name := "aluShl", fn := fun _ => fun
  | [d] => { results := [.lit (.bool false)], args := [d] }
  | _ => none }
def AluShlWrongFalsely : Prop := aluShlRow.holds Try.pinned (OpenSpec.ofChange aluShlWrong)

/-- 'cellarlaw2.AluShr': WHATEVER THE INPUT: true; the input reads as it did. -/
def aluShrSpec : ChangeSpec := { name := "aluShr", fn := fun _ => fun
  | [d] => { results := [.lit (.bool true)], args := [d] }
  | _ => none }
def aluShrRow : OpenClaim := { program := "ytjhgpankffdnaaa", sum := "0a81e30d704963d4480d6d4deaf22eb68727f668fa3e35396dbf20c287e94a19", func := "cellar/cellarlaw2.AluShr", spec := "aluShr", apart := false }
def AluShrSaid : Prop := aluShrRow.holds Try.pinned (OpenSpec.ofChange aluShrSpec)

/-- ITS FALSE NEIGHBOUR: 'it returns false'. Refute it at one input. -/
def aluShrWrong : ChangeSpec := { name := "aluShr", fn := fun _ => fun
  | [d] => { results := [.lit (.bool false)], args := [d] }
  | _ => none }
def AluShrWrongFalsely : Prop := aluShrRow.holds Try.pinned (OpenSpec.ofChange aluShrWrong)

/-- 'cellarlaw2.AluEq': WHATEVER THE INPUT: true; the input reads as it did. -/
def aluEqSpec : ChangeSpec := { name := "aluEq", fn := fun _ => fun
  | [d] => { results := [.lit (.bool true)], args := [d] }
  | _ => none }
def aluEqRow : OpenClaim := { program := "ytjhgpankffdnaaa", sum := "0a81e30d704963d4480d6d4deaf22eb68727f668fa3e35396dbf20c287e94a19", func := "cellar/cellarlaw2.AluEq", spec := "aluEq", apart := false }
def AluEqSaid : Prop := aluEqRow.holds Try.pinned (OpenSpec.ofChange aluEqSpec)

/-- ITS FALSE NEIGHBOUR: 'it returns false'. Refute it at one input. -/
def aluEqWrong : ChangeSpec := { name := "aluEq", fn := fun _ => fun
  | [d] => { results := [.lit (.bool false)], args := [d] }
  | _ => none }
def AluEqWrongFalsely : Prop := aluEqRow.holds Try.pinned (OpenSpec.ofChange aluEqWrong)

/-- 'cellarlaw2.AluLess': WHATEVER THE INPUT: true; the input reads as it did. -/
def aluLessSpec : ChangeSpec := { name := "aluLess", fn := fun _ => fun
  | [d] => { results := [.lit (.bool true)], args := [d] }
  | _ => none }
def aluLessRow : OpenClaim := { program := "ytjhgpankffdnaaa", sum := "0a81e30d704963d4480d6d4deaf22eb68727f668fa3e35396dbf20c287e94a19", func := "cellar/cellarlaw2.AluLess", spec := "aluLess", apart := false }
def AluLessSaid : Prop := aluLessRow.holds Try.pinned (OpenSpec.ofChange aluLessSpec)

/-- ITS FALSE NEIGHBOUR: 'it returns false'. Refute it at one input. -/
def aluLessWrong : ChangeSpec := { name := "aluLess", fn := fun _ => fun
  | [d] => { results := [.lit (.bool false)], args := [d] }
  | _ => none }
def AluLessWrongFalsely : Prop := aluLessRow.holds Try.pinned (OpenSpec.ofChange aluLessWrong)

/-- 'cellarlaw2.AluCast': WHATEVER THE INPUT: true; the input reads as it did. -/
def aluCastSpec : ChangeSpec := { name := "aluCast", fn := fun _ => fun
  | [d] => { results := [.lit (.bool true)], args := [d] }
  | _ => none }
def aluCastRow : OpenClaim := { program := "ytjhgpankffdnaaa", sum := "0a81e30d704963d4480d6d4deaf22eb68727f668fa3e35396dbf20c287e94a19", func := "cellar/cellarlaw2.AluCast", spec := "aluCast", apart := false }
def AluCastSaid : Prop := aluCastRow.holds Try.pinned (OpenSpec.ofChange aluCastSpec)

/-- ITS FALSE NEIGHBOUR: 'it returns false'. Refute it at one input. -/
def aluCastWrong : ChangeSpec := { name := "aluCast", fn := fun _ => fun
  | [d] => { results := [.lit (.bool false)], args := [d] }
  | _ => none }
def AluCastWrongFalsely : Prop := aluCastRow.holds Try.pinned (OpenSpec.ofChange aluCastWrong)

/-- 'cellarlaw2.AluOdd': WHATEVER THE INPUT: true; the input reads as it did. -/
def aluOddSpec : ChangeSpec := { name := "aluOdd", fn := fun _ => fun
  | [d] => { results := [.lit (.bool true)], args := [d] }
  | _ => none }
def aluOddRow : OpenClaim := { program := "ytjhgpankffdnaaa", sum := "0a81e30d704963d4480d6d4deaf22eb68727f668fa3e35396dbf20c287e94a19", func := "cellar/cellarlaw2.AluOdd", spec := "aluOdd", apart := false }
def AluOddSaid : Prop := aluOddRow.holds Try.pinned (OpenSpec.ofChange aluOddSpec)

/-- ITS FALSE NEIGHBOUR: 'it returns false'. Refute it at one input. -/
def aluOddWrong : ChangeSpec := { name := "aluOdd", fn := fun _ => fun
  | [d] => { results := [.lit (.bool false)], args := [d] }
  | _ => none }
def AluOddWrongFalsely : Prop := aluOddRow.holds Try.pinned (OpenSpec.ofChange aluOddWrong)

/-- 'cellarlaw2.AluLaws': WHATEVER THE INPUT: true; the input reads as it did. -/
def aluLawsSpec : ChangeSpec := { name := "aluLaws", fn := fun _ => fun
  | [d] => { results := [.lit (.bool true)], args := [d] }
  | _ => none }
def aluLawsRow : OpenClaim := { program := "ytjhgpankffdnaaa", sum := "0a81e30d704963d4480d6d4deaf22eb68727f668fa3e35396dbf20c287e94a19", func := "cellar/cellarlaw2.AluLaws", spec := "aluLaws", apart := false }
def AluLawsSaid : Prop := aluLawsRow.holds Try.pinned (OpenSpec.ofChange aluLawsSpec)

/-- ITS FALSE NEIGHBOUR: 'it returns false'. Refute it at one input. -/
def aluLawsWrong : ChangeSpec := { name := "aluLaws", fn := fun _ => fun
  | [d] => { results := [.lit (.bool false)], args := [d] }
  | _ => none }
def AluLawsWrongFalsely : Prop := aluLawsRow.holds Try.pinned (OpenSpec.ofChange aluLawsWrong)

/-- 'cellarlaw2.AluNeg': WHATEVER THE INPUT: true; the input reads as it did. -/
def aluNegSpec : ChangeSpec := { name := "aluNeg", fn := fun _ => fun
  | [d] => { results := [.lit (.bool true)], args := [d] }
  | _ => none }
def aluNegRow : OpenClaim := { program := "ytjhgpankffdnaaa", sum := "0a81e30d704963d4480d6d4deaf22eb68727f668fa3e35396dbf20c287e94a19", func := "cellar/cellarlaw2.AluNeg", spec := "aluNeg", apart := false }
def AluNegSaid : Prop := aluNegRow.holds Try.pinned (OpenSpec.ofChange aluNegSpec)

/-- ITS FALSE NEIGHBOUR: 'it returns false'. Refute it at one input. -/
def aluNegWrong : ChangeSpec := { name := "aluNeg", fn := fun _ => fun
  | [d] => { results := [.lit (.bool false)], args := [d] }
  | _ => none }
def AluNegWrongFalsely : Prop := aluNegRow.holds Try.pinned (OpenSpec.ofChange aluNegWrong)

/-- 'cellarlaw2.AluNot': WHATEVER THE INPUT: true; the input reads as it did. -/
def aluNotSpec : ChangeSpec := { name := "aluNot", fn := fun _ => fun
  | [d] => { results := [.lit (.bool true)], args := [d] }
  | _ => none }
def aluNotRow : OpenClaim := { program := "ytjhgpankffdnaaa", sum := "0a81e30d704963d4480d6d4deaf22eb68727f668fa3e35396dbf20c287e94a19", func := "cellar/cellarlaw2.AluNot", spec := "aluNot", apart := false }
def AluNotSaid : Prop := aluNotRow.holds Try.pinned (OpenSpec.ofChange aluNotSpec)

/-- ITS FALSE NEIGHBOUR: 'it returns false'. Refute it at one input. -/
def aluNotWrong : ChangeSpec := { name := "aluNot", fn := fun _ => fun
  | [d] => { results := [.lit (.bool false)], args := [d] }
  | _ => none }
def AluNotWrongFalsely : Prop := aluNotRow.holds Try.pinned (OpenSpec.ofChange aluNotWrong)

/-- 'cellarlaw2.AluZero': WHATEVER THE INPUT: true; the input reads as it did. -/
def aluZeroSpec : ChangeSpec := { name := "aluZero", fn := fun _ => fun
  | [d] => { results := [.lit (.bool true)], args := [d] }
  | _ => none }
def aluZeroRow : OpenClaim := { program := "ytjhgpankffdnaaa", sum := "0a81e30d704963d4480d6d4deaf22eb68727f668fa3e35396dbf20c287e94a19", func := "cellar/cellarlaw2.AluZero", spec := "aluZero", apart := false }
def AluZeroSaid : Prop := aluZeroRow.holds Try.pinned (OpenSpec.ofChange aluZeroSpec)

/-- ITS FALSE NEIGHBOUR: 'it returns false'. Refute it at one input. -/
def aluZeroWrong : ChangeSpec := { name := "aluZero", fn := fun _ => fun
  | [d] => { results := [.lit (.bool false)], args := [d] }
  | _ => none }
def AluZeroWrongFalsely : Prop := aluZeroRow.holds Try.pinned (OpenSpec.ofChange aluZeroWrong)

/- THE SECOND FORM. 'bulk': how many values and letters a reading holds, each counted each time it is reached (what is shared counts as often as it is met; a slice's spare places count too). A statement '..UptoSaid' is the law's where the arguments, and the package variables that the reading takes, are together of bulk at most 1048576: NARROWER than '..Said'. Prove '..Said' where nothing that the law and all that it calls make is longer than what came in: it says more and counts as full. Else prove '..UptoSaid'. A law counts once. -/
mutual
def uptoBulk {H : Type} : DataW H → Nat
  | .lit (.string bytes) => bytes.length + 1
  | .lit _ => 1
  | .nil => 1
  | .ptr d => uptoBulk d + 1
  | .slice elems spare => uptoBulkAll elems + uptoBulkAll spare + 1
  | .agg parts => uptoBulkAll parts + 1
  | .iface _ d => uptoBulk d + 1
  | .map entries => uptoBulkEntries entries + 1
  | .held _ => 1
def uptoBulkAll {H : Type} : List (DataW H) → Nat
  | [] => 0
  | d :: r => uptoBulk d + uptoBulkAll r
def uptoBulkEntries {H : Type} : List (Lit × DataW H) → Nat
  | [] => 0
  | x :: r => uptoBulkEntry x + uptoBulkEntries r
def uptoBulkEntry {H : Type} : Lit × DataW H → Nat
  | (.string bytes, d) => bytes.length + uptoBulk d + 1
  | (_, d) => uptoBulk d + 1
 end
def uptoSmall : (H : Type) → List (DataW H) → Bool := fun _ ds => decide (uptoBulkAll ds ≤ 1048576)
def OpenSpec.upto (s : _root_.Go.ChangeSpec) : _root_.Go.OpenSpec := { _root_.Go.OpenSpec.ofChange s with cond := some uptoSmall }

/-- 'cellarlaw1.WordBack', WHERE WHAT IT READS IS OF BULK AT MOST 1048576: true; the input reads as it did. -/
def wordBackUptoRow : OpenClaim := { program := "ytjhgpankffdnaaa", sum := "0a81e30d704963d4480d6d4deaf22eb68727f668fa3e35396dbf20c287e94a19", func := "cellar/cellarlaw1.WordBack", spec := "wordBack", apart := false, narrowed := true }
def WordBackUptoSaid : Prop := wordBackUptoRow.holds Try.pinned (OpenSpec.upto wordBackSpec)

/-- 'cellarlaw1.WordExact', WHERE WHAT IT READS IS OF BULK AT MOST 1048576: true; the input reads as it did. -/
def wordExactUptoRow : OpenClaim := { program := "ytjhgpankffdnaaa", sum := "0a81e30d704963d4480d6d4deaf22eb68727f668fa3e35396dbf20c287e94a19", func := "cellar/cellarlaw1.WordExact", spec := "wordExact", apart := false, narrowed := true }
def WordExactUptoSaid : Prop := wordExactUptoRow.holds Try.pinned (OpenSpec.upto wordExactSpec)

/-- 'cellarlaw2.AluAdd', WHERE WHAT IT READS IS OF BULK AT MOST 1048576: true; the input reads as it did. -/
def aluAddUptoRow : OpenClaim := { program := "ytjhgpankffdnaaa", sum := "0a81e30d704963d4480d6d4deaf22eb68727f668fa3e35396dbf20c287e94a19", func := "cellar/cellarlaw2.AluAdd", spec := "aluAdd", apart := false, narrowed := true }
def AluAddUptoSaid : Prop := aluAddUptoRow.holds Try.pinned (OpenSpec.upto aluAddSpec)

/-- 'cellarlaw2.AluSub', WHERE WHAT IT READS IS OF BULK AT MOST 1048576: true; the input reads as it did. -/
def aluSubUptoRow : OpenClaim := { program := "ytjhgpankffdnaaa", sum := "0a81e30d704963d4480d6d4deaf22eb68727f668fa3e35396dbf20c287e94a19", func := "cellar/cellarlaw2.AluSub", spec := "aluSub", apart := false, narrowed := true }
def AluSubUptoSaid : Prop := aluSubUptoRow.holds Try.pinned (OpenSpec.upto aluSubSpec)

/-- 'cellarlaw2.AluMul', WHERE WHAT IT READS IS OF BULK AT MOST 1048576: true; the input reads as it did. -/
def aluMulUptoRow : OpenClaim := { program := "ytjhgpankffdnaaa", sum := "0a81e30d704963d4480d6d4deaf22eb68727f668fa3e35396dbf20c287e94a19", func := "cellar/cellarlaw2.AluMul", spec := "aluMul", apart := false, narrowed := true }
def AluMulUptoSaid : Prop := aluMulUptoRow.holds Try.pinned (OpenSpec.upto aluMulSpec)

/-- 'cellarlaw2.AluDiv', WHERE WHAT IT READS IS OF BULK AT MOST 1048576: true; the input reads as it did. -/
def aluDivUptoRow : OpenClaim := { program := "ytjhgpankffdnaaa", sum := "0a81e30d704963d4480d6d4deaf22eb68727f668fa3e35396dbf20c287e94a19", func := "cellar/cellarlaw2.AluDiv", spec := "aluDiv", apart := false, narrowed := true }
def AluDivUptoSaid : Prop := aluDivUptoRow.holds Try.pinned (OpenSpec.upto aluDivSpec)

/-- 'cellarlaw2.AluRem', WHERE WHAT IT READS IS OF BULK AT MOST 1048576: true; the input reads as it did. -/
def aluRemUptoRow : OpenClaim := { program := "ytjhgpankffdnaaa", sum := "0a81e30d704963d4480d6d4deaf22eb68727f668fa3e35396dbf20c287e94a19", func := "cellar/cellarlaw2.AluRem", spec := "aluRem", apart := false, narrowed := true }
def AluRemUptoSaid : Prop := aluRemUptoRow.holds Try.pinned (OpenSpec.upto aluRemSpec)

/-- 'cellarlaw2.AluAnd', WHERE WHAT IT READS IS OF BULK AT MOST 1048576: true; the input reads as it did. -/
def aluAndUptoRow : OpenClaim := { program := "ytjhgpankffdnaaa", sum := "0a81e30d704963d4480d6d4deaf22eb68727f668fa3e35396dbf20c287e94a19", func := "cellar/cellarlaw2.AluAnd", spec := "aluAnd", apart := false, narrowed := true }
def AluAndUptoSaid : Prop := aluAndUptoRow.holds Try.pinned (OpenSpec.upto aluAndSpec)

/-- 'cellarlaw2.AluOr', WHERE WHAT IT READS IS OF BULK AT MOST 1048576: true; the input reads as it did. -/
def aluOrUptoRow : OpenClaim := { program := "ytjhgpankffdnaaa", sum := "0a81e30d704963d4480d6d4deaf22eb68727f668fa3e35396dbf20c287e94a19", func := "cellar/cellarlaw2.AluOr", spec := "aluOr", apart := false, narrowed := true }
def AluOrUptoSaid : Prop := aluOrUptoRow.holds Try.pinned (OpenSpec.upto aluOrSpec)

/-- 'cellarlaw2.AluXor', WHERE WHAT IT READS IS OF BULK AT MOST 1048576: true; the input reads as it did. -/
def aluXorUptoRow : OpenClaim := { program := "ytjhgpankffdnaaa", sum := "0a81e30d704963d4480d6d4deaf22eb68727f668fa3e35396dbf20c287e94a19", func := "cellar/cellarlaw2.AluXor", spec := "aluXor", apart := false, narrowed := true }
def AluXorUptoSaid : Prop := aluXorUptoRow.holds Try.pinned (OpenSpec.upto aluXorSpec)

/-- 'cellarlaw2.AluShl', WHERE WHAT IT READS IS OF BULK AT MOST 1048576: true; the input reads as it did. -/
def aluShlUptoRow : OpenClaim := { program := "ytjhgpankffdnaaa", sum := "0a81e30d704963d4480d6d4deaf22eb68727f668fa3e35396dbf20c287e94a19", func := "cellar/cellarlaw2.AluShl", spec := "aluShl", apart := false, narrowed := true }
def AluShlUptoSaid : Prop := aluShlUptoRow.holds Try.pinned (OpenSpec.upto aluShlSpec)

/-- 'cellarlaw2.AluShr', WHERE WHAT IT READS IS OF BULK AT MOST 1048576: true; the input reads as it did. -/
def aluShrUptoRow : OpenClaim := { program := "ytjhgpankffdnaaa", sum := "0a81e30d704963d4480d6d4deaf22eb68727f668fa3e35396dbf20c287e94a19", func := "cellar/cellarlaw2.AluShr", spec := "aluShr", apart := false, narrowed := true }
def AluShrUptoSaid : Prop := aluShrUptoRow.holds Try.pinned (OpenSpec.upto aluShrSpec)

/-- 'cellarlaw2.AluEq', WHERE WHAT IT READS IS OF BULK AT MOST 1048576: true; the input reads as it did. -/
def aluEqUptoRow : OpenClaim := { program := "ytjhgpankffdnaaa", sum := "0a81e30d704963d4480d6d4deaf22eb68727f668fa3e35396dbf20c287e94a19", func := "cellar/cellarlaw2.AluEq", spec := "aluEq", apart := false, narrowed := true }
def AluEqUptoSaid : Prop := aluEqUptoRow.holds Try.pinned (OpenSpec.upto aluEqSpec)

/-- 'cellarlaw2.AluLess', WHERE WHAT IT READS IS OF BULK AT MOST 1048576: true; the input reads as it did. -/
def aluLessUptoRow : OpenClaim := { program := "ytjhgpankffdnaaa", sum := "0a81e30d704963d4480d6d4deaf22eb68727f668fa3e35396dbf20c287e94a19", func := "cellar/cellarlaw2.AluLess", spec := "aluLess", apart := false, narrowed := true }
def AluLessUptoSaid : Prop := aluLessUptoRow.holds Try.pinned (OpenSpec.upto aluLessSpec)

/-- 'cellarlaw2.AluCast', WHERE WHAT IT READS IS OF BULK AT MOST 1048576: true; the input reads as it did. -/
def aluCastUptoRow : OpenClaim := { program := "ytjhgpankffdnaaa", sum := "0a81e30d704963d4480d6d4deaf22eb68727f668fa3e35396dbf20c287e94a19", func := "cellar/cellarlaw2.AluCast", spec := "aluCast", apart := false, narrowed := true }
def AluCastUptoSaid : Prop := aluCastUptoRow.holds Try.pinned (OpenSpec.upto aluCastSpec)

/-- 'cellarlaw2.AluOdd', WHERE WHAT IT READS IS OF BULK AT MOST 1048576: true; the input reads as it did. -/
def aluOddUptoRow : OpenClaim := { program := "ytjhgpankffdnaaa", sum := "0a81e30d704963d4480d6d4deaf22eb68727f668fa3e35396dbf20c287e94a19", func := "cellar/cellarlaw2.AluOdd", spec := "aluOdd", apart := false, narrowed := true }
def AluOddUptoSaid : Prop := aluOddUptoRow.holds Try.pinned (OpenSpec.upto aluOddSpec)

/-- 'cellarlaw2.AluLaws', WHERE WHAT IT READS IS OF BULK AT MOST 1048576: true; the input reads as it did. -/
def aluLawsUptoRow : OpenClaim := { program := "ytjhgpankffdnaaa", sum := "0a81e30d704963d4480d6d4deaf22eb68727f668fa3e35396dbf20c287e94a19", func := "cellar/cellarlaw2.AluLaws", spec := "aluLaws", apart := false, narrowed := true }
def AluLawsUptoSaid : Prop := aluLawsUptoRow.holds Try.pinned (OpenSpec.upto aluLawsSpec)

/-- 'cellarlaw2.AluNeg', WHERE WHAT IT READS IS OF BULK AT MOST 1048576: true; the input reads as it did. -/
def aluNegUptoRow : OpenClaim := { program := "ytjhgpankffdnaaa", sum := "0a81e30d704963d4480d6d4deaf22eb68727f668fa3e35396dbf20c287e94a19", func := "cellar/cellarlaw2.AluNeg", spec := "aluNeg", apart := false, narrowed := true }
def AluNegUptoSaid : Prop := aluNegUptoRow.holds Try.pinned (OpenSpec.upto aluNegSpec)

/-- 'cellarlaw2.AluNot', WHERE WHAT IT READS IS OF BULK AT MOST 1048576: true; the input reads as it did. -/
def aluNotUptoRow : OpenClaim := { program := "ytjhgpankffdnaaa", sum := "0a81e30d704963d4480d6d4deaf22eb68727f668fa3e35396dbf20c287e94a19", func := "cellar/cellarlaw2.AluNot", spec := "aluNot", apart := false, narrowed := true }
def AluNotUptoSaid : Prop := aluNotUptoRow.holds Try.pinned (OpenSpec.upto aluNotSpec)

/-- 'cellarlaw2.AluZero', WHERE WHAT IT READS IS OF BULK AT MOST 1048576: true; the input reads as it did. -/
def aluZeroUptoRow : OpenClaim := { program := "ytjhgpankffdnaaa", sum := "0a81e30d704963d4480d6d4deaf22eb68727f668fa3e35396dbf20c287e94a19", func := "cellar/cellarlaw2.AluZero", spec := "aluZero", apart := false, narrowed := true }
def AluZeroUptoSaid : Prop := aluZeroUptoRow.holds Try.pinned (OpenSpec.upto aluZeroSpec)

end Rows
end Go.Proofs.Ytjhgpankffdnaaa
