/- The arguments of this part's laws, opened: each slice as a list in the print's words, its length and its numbers in range. -/
import Derived.Test.YthhdmanpjeminaaUOpen
import Derived.Test.YthhdmanpjeminaaBx0
namespace Go.Proofs.Ythhdmanpjeminaa.B
open Go.RowKit Go.Proofs.YthhdmanpjeminaaW.PrintWords Go.Proofs.Ythhdmanpjeminaa.Op
set_option linter.unusedVariables false
set_option linter.unusedSimpArgs false
/-- In the range of i64. -/
def I_i64 (n : Int) : Prop := -9223372036854775808 ≤ n ∧ n ≤ 9223372036854775807
theorem opens_i64 {P : Program} {t : TypeId} (ht : P.underlying t = some (.int .i64)) (hc : P.cellsOf t = 1) : Opens P t (Kd.int .i64) I_i64 where
  cells := hc
  opens := by
    intro H enc w base spare held fuel cs x h hw
    obtain ⟨n, hK, hg⟩ := (opens_int ht hc).opens h hw
    refine ⟨n, hK, ?_⟩
    unfold I_i64
    simp [Lit.wf, IntKind.min, IntKind.max, IntKind.signed, IntKind.bits] at hg
    omega
/-- In the range of u8. -/
def I_u8 (n : Int) : Prop := 0 ≤ n ∧ n ≤ 255
theorem opens_u8 {P : Program} {t : TypeId} (ht : P.underlying t = some (.int .u8)) (hc : P.cellsOf t = 1) : Opens P t (Kd.int .u8) I_u8 where
  cells := hc
  opens := by
    intro H enc w base spare held fuel cs x h hw
    obtain ⟨n, hK, hg⟩ := (opens_int ht hc).opens h hw
    refine ⟨n, hK, ?_⟩
    unfold I_u8
    simp [Lit.wf, IntKind.min, IntKind.max, IntKind.signed, IntKind.bits] at hg
    omega
/-- A string that there is. -/
def GoodS (s : ByteArray) : Prop := s.size ≤ 140737488351232
theorem opens_str {P : Program} {t : TypeId} (ht : P.underlying t = some .string) (hc : P.cellsOf t = 1) : Opens P t Kd.string GoodS := opens_string ht hc
/-- A slice that there is: its elements of B bytes. -/
def GoodL {α : Type} (B : Nat) (good : α → Prop) (l : List α) : Prop := l.length * B ≤ 140737488351232 ∧ ∀ x ∈ l, good x
theorem opens_list {α : Type} {P : Program} {t e : TypeId} {d : Kd α} {good : α → Prop} {B : Nat} (ht : P.underlying t = some (.slice e)) (hc : P.cellsOf t = 1) (hB : P.bytesOf e = B) (he : Opens P e d good) : Opens P t (Kd.slice e d) (GoodL B good) := opens_slice ht hc hB he
def Good38 (x : S38) : Prop := (fun _ : Bool => True) x.f0 ∧ I_i64 x.f1
theorem opens_38 : Opens Try.prog 38 k38 Good38 :=
  opens_struct (fun x : S38 => (x.f0, x.f1)) (fun a => ⟨a.1, a.2⟩) (fun _ => rfl) Try.underlying38 (by kernel_rfl) (opensF_cons rfl (opens_bool Try.underlying4 (by kernel_rfl)) (opensF_one rfl (opens_i64 Try.underlying3 (by kernel_rfl))))
def Good33 (x : S33) : Prop := (fun _ : Bool => True) x.f0 ∧ I_i64 x.f1 ∧ I_i64 x.f2 ∧ I_i64 x.f3
theorem opens_33 : Opens Try.prog 33 k33 Good33 :=
  opens_struct (fun x : S33 => (x.f0, x.f1, x.f2, x.f3)) (fun a => ⟨a.1, a.2.1, a.2.2.1, a.2.2.2⟩) (fun _ => rfl) Try.underlying33 (by kernel_rfl) (opensF_cons rfl (opens_bool Try.underlying4 (by kernel_rfl)) (opensF_cons rfl (opens_i64 Try.underlying3 (by kernel_rfl)) (opensF_cons rfl (opens_i64 Try.underlying3 (by kernel_rfl)) (opensF_one rfl (opens_i64 Try.underlying3 (by kernel_rfl))))))
def Good51 (x : S51) : Prop := I_i64 x.f0 ∧ I_i64 x.f1 ∧ I_i64 x.f2 ∧ I_i64 x.f3 ∧ I_i64 x.f4
theorem opens_51 : Opens Try.prog 51 k51 Good51 :=
  opens_struct (fun x : S51 => (x.f0, x.f1, x.f2, x.f3, x.f4)) (fun a => ⟨a.1, a.2.1, a.2.2.1, a.2.2.2.1, a.2.2.2.2⟩) (fun _ => rfl) Try.underlying51 (by kernel_rfl) (opensF_cons rfl (opens_i64 Try.underlying3 (by kernel_rfl)) (opensF_cons rfl (opens_i64 Try.underlying3 (by kernel_rfl)) (opensF_cons rfl (opens_i64 Try.underlying3 (by kernel_rfl)) (opensF_cons rfl (opens_i64 Try.underlying3 (by kernel_rfl)) (opensF_one rfl (opens_i64 Try.underlying3 (by kernel_rfl)))))))
/-- What is known of an argument of type 26 (cellar/cellarlaw8.Ask). -/
def Arg26 (l0_0 : (List S38)) (l0_1 : (List S33)) (l0_2 : (List S51)) : Prop := ((GoodL 16 Good38) l0_0 ∧ (GoodL 32 Good33) l0_1 ∧ (GoodL 40 Good51) l0_2)
set_option maxRecDepth 100000 in
theorem open_26 {H : Type} {enc : TypeId × Value → H} {W : World} {r : Reach} {b0 : Nat} {base : Nat} {spare : Nat → Bool} {held : Bool} {v : Value} {dd : DataW H} {ps : List MemPlace}
    (hv : Value.okWide Try.prog W r b0 26 v) (hd : DataW.Trod enc Try.prog W base spare held 26 v dd ps) (hw : ∀ n ∈ dd.weights Try.prog 26, n ≤ reachBytes) :
    ∃ (A0 : Option Addr) (c0 : Nat) (l0_0 : (List S38)) (A1 : Option Addr) (c1 : Nat) (l0_1 : (List S33)) (A2 : Option Addr) (c2 : Nat) (l0_2 : (List S51)), v = .agg #[.slice A0 l0_0.length c0, .slice A1 l0_1.length c1, .slice A2 l0_2.length c2] ∧ Kd.C k38 W A0 l0_0.length l0_0 ∧ l0_0.length ≤ c0 ∧ Kd.C k33 W A1 l0_1.length l0_1 ∧ l0_1.length ≤ c1 ∧ Kd.C k51 W A2 l0_2.length l0_2 ∧ l0_2.length ≤ c2 ∧ Arg26 l0_0 l0_1 l0_2 := by
  obtain ⟨cs, ⟨l0_0, l0_1, l0_2⟩, rfl, hK, hg⟩ := open_arg (d := (Kd.pair (Kd.slice 38 k38) (Kd.pair (Kd.slice 33 k33) (Kd.slice 51 k51)))) (good := fun x : ((List S38) × (List S33) × (List S51)) => ((GoodL 16 Good38) x.1 ∧ (GoodL 32 Good33) x.2.1 ∧ (GoodL 40 Good51) x.2.2)) Try.underlying26 (by kernel_rfl) (opensF_cons rfl (opens_list Try.underlying22 (by kernel_rfl) (by kernel_rfl) opens_38) (opensF_cons rfl (opens_list Try.underlying23 (by kernel_rfl) (by kernel_rfl) opens_33) (opensF_one rfl (opens_list Try.underlying24 (by kernel_rfl) (by kernel_rfl) opens_51)))) hv hd hw
  obtain ⟨_, _, hcs, ⟨A0, c0, rfl, hc0, hr0⟩, ⟨_, _, rfl, ⟨A1, c1, rfl, hc1, hr1⟩, ⟨A2, c2, rfl, hc2, hr2⟩⟩⟩ := hK
  refine ⟨A0, c0, l0_0, A1, c1, l0_1, A2, c2, l0_2, ?_, hr0, hc0, hr1, hc1, hr2, hc2, hg⟩
  congr 1
  apply Array.ext'
  exact hcs
end Go.Proofs.Ythhdmanpjeminaa.B
