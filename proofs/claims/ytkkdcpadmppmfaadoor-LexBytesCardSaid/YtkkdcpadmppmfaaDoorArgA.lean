/- The arguments of this part's laws, opened: each slice as a list in the print's words, its length and its numbers in range. -/
import Derived.Test.YtkkdcpadmppmfaaDoorOpen
import Derived.Test.YtkkdcpadmppmfaaDoorAx0
namespace Go.Proofs.YtkkdcpadmppmfaaDoor.A
open Go.RowKit Go.Proofs.YtkkdcpadmppmfaaDoorW.PrintWords Go.Proofs.YtkkdcpadmppmfaaDoor.Op
set_option linter.unusedVariables false
set_option linter.unusedSimpArgs false
/-- In the range of i64. -/
def I_i64 (n : Int) : Prop := -9223372036854775808 ≤ n ∧ n ≤ 9223372036854775807
theorem opens_i64 {P : Program} {t : TypeId} (ht : P.underlying t = some (.int .i64)) (hc : P.cellsOf t = 1) : Opens P t (Kd.int .i64) I_i64 where
  cells := hc
  opens := by
    intro H enc w base spare held fuel cs x h hw
    obtain ⟨n, hK, hg⟩ := (opens_int ht hc).opens h hw
    refine ⟨n, hK, ?_⟩
    unfold I_i64
    simp [Lit.wf, IntKind.min, IntKind.max, IntKind.signed, IntKind.bits] at hg
    omega
/-- In the range of u8. -/
def I_u8 (n : Int) : Prop := 0 ≤ n ∧ n ≤ 255
theorem opens_u8 {P : Program} {t : TypeId} (ht : P.underlying t = some (.int .u8)) (hc : P.cellsOf t = 1) : Opens P t (Kd.int .u8) I_u8 where
  cells := hc
  opens := by
    intro H enc w base spare held fuel cs x h hw
    obtain ⟨n, hK, hg⟩ := (opens_int ht hc).opens h hw
    refine ⟨n, hK, ?_⟩
    unfold I_u8
    simp [Lit.wf, IntKind.min, IntKind.max, IntKind.signed, IntKind.bits] at hg
    omega
/-- A string that there is. -/
def GoodS (s : ByteArray) : Prop := s.size ≤ 140737488351232
theorem opens_str {P : Program} {t : TypeId} (ht : P.underlying t = some .string) (hc : P.cellsOf t = 1) : Opens P t Kd.string GoodS := opens_string ht hc
/-- A slice that there is: its elements of B bytes. -/
def GoodL {α : Type} (B : Nat) (good : α → Prop) (l : List α) : Prop := l.length * B ≤ 140737488351232 ∧ ∀ x ∈ l, good x
theorem opens_list {α : Type} {P : Program} {t e : TypeId} {d : Kd α} {good : α → Prop} {B : Nat} (ht : P.underlying t = some (.slice e)) (hc : P.cellsOf t = 1) (hB : P.bytesOf e = B) (he : Opens P e d good) : Opens P t (Kd.slice e d) (GoodL B good) := opens_slice ht hc hB he
/-- What is known of an argument of type 25 (cellar/cellarlaw10.Ask). -/
def Arg25 (l0_0 : (List ByteArray)) (l0_1 : (List Int)) : Prop := ((GoodL 16 GoodS) l0_0 ∧ (GoodL 8 I_i64) l0_1)
set_option maxRecDepth 100000 in
theorem open_25 {H : Type} {enc : TypeId × Value → H} {W : World} {r : Reach} {b0 : Nat} {base : Nat} {spare : Nat → Bool} {held : Bool} {v : Value} {dd : DataW H} {ps : List MemPlace}
    (hv : Value.okWide Tryd.prog W r b0 25 v) (hd : DataW.Trod enc Tryd.prog W base spare held 25 v dd ps) (hw : ∀ n ∈ dd.weights Tryd.prog 25, n ≤ reachBytes) :
    ∃ (A0 : Option Addr) (c0 : Nat) (l0_0 : (List ByteArray)) (A1 : Option Addr) (c1 : Nat) (l0_1 : (List Int)), v = .agg #[.slice A0 l0_0.length c0, .slice A1 l0_1.length c1] ∧ Kd.C Kd.string W A0 l0_0.length l0_0 ∧ l0_0.length ≤ c0 ∧ Kd.C (Kd.int .i64) W A1 l0_1.length l0_1 ∧ l0_1.length ≤ c1 ∧ Arg25 l0_0 l0_1 := by
  obtain ⟨cs, ⟨l0_0, l0_1⟩, rfl, hK, hg⟩ := open_arg (d := (Kd.pair (Kd.slice 9 Kd.string) (Kd.slice 3 (Kd.int .i64)))) (good := fun x : ((List ByteArray) × (List Int)) => ((GoodL 16 GoodS) x.1 ∧ (GoodL 8 I_i64) x.2)) Tryd.underlying25 (by kernel_rfl) (opensF_cons rfl (opens_list Tryd.underlying22 (by kernel_rfl) (by kernel_rfl) (opens_str Tryd.underlying9 (by kernel_rfl))) (opensF_one rfl (opens_list Tryd.underlying23 (by kernel_rfl) (by kernel_rfl) (opens_i64 Tryd.underlying3 (by kernel_rfl))))) hv hd hw
  obtain ⟨_, _, hcs, ⟨A0, c0, rfl, hc0, hr0⟩, ⟨A1, c1, rfl, hc1, hr1⟩⟩ := hK
  refine ⟨A0, c0, l0_0, A1, c1, l0_1, ?_, hr0, hc0, hr1, hc1, hg⟩
  congr 1
  apply Array.ext'
  exact hcs
end Go.Proofs.YtkkdcpadmppmfaaDoor.A
