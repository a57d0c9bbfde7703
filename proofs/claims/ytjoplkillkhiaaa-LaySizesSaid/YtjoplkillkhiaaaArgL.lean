/- The arguments of this part's laws, opened: each slice as a list in the print's words, its length and its numbers in range. -/
import Derived.Test.YtjoplkillkhiaaaUOpen
import Derived.Test.YtjoplkillkhiaaaLx0
namespace Go.Proofs.Ytjoplkillkhiaaa.L
open Go.RowKit Go.Proofs.YtjoplkillkhiaaaW.PrintWords Go.Proofs.Ytjoplkillkhiaaa.Op
set_option linter.unusedVariables false
set_option linter.unusedSimpArgs false
/-- In the range of i64. -/
def I_i64 (n : Int) : Prop := -9223372036854775808 ≤ n ∧ n ≤ 9223372036854775807
theorem opens_i64 {P : Program} {t : TypeId} (ht : P.underlying t = some (.int .i64)) (hc : P.cellsOf t = 1) : Opens P t (Kd.int .i64) I_i64 where
  cells := hc
  opens := by
    intro H enc w base spare held fuel cs x h hw
    obtain ⟨n, hK, hg⟩ := (opens_int ht hc).opens h hw
    refine ⟨n, hK, ?_⟩
    unfold I_i64
    simp [Lit.wf, IntKind.min, IntKind.max, IntKind.signed, IntKind.bits] at hg
    omega
/-- In the range of u8. -/
def I_u8 (n : Int) : Prop := 0 ≤ n ∧ n ≤ 255
theorem opens_u8 {P : Program} {t : TypeId} (ht : P.underlying t = some (.int .u8)) (hc : P.cellsOf t = 1) : Opens P t (Kd.int .u8) I_u8 where
  cells := hc
  opens := by
    intro H enc w base spare held fuel cs x h hw
    obtain ⟨n, hK, hg⟩ := (opens_int ht hc).opens h hw
    refine ⟨n, hK, ?_⟩
    unfold I_u8
    simp [Lit.wf, IntKind.min, IntKind.max, IntKind.signed, IntKind.bits] at hg
    omega
/-- A string that there is. -/
def GoodS (s : ByteArray) : Prop := s.size ≤ 140737488351232
theorem opens_str {P : Program} {t : TypeId} (ht : P.underlying t = some .string) (hc : P.cellsOf t = 1) : Opens P t Kd.string GoodS := opens_string ht hc
/-- A slice that there is: its elements of B bytes. -/
def GoodL {α : Type} (B : Nat) (good : α → Prop) (l : List α) : Prop := l.length * B ≤ 140737488351232 ∧ ∀ x ∈ l, good x
theorem opens_list {α : Type} {P : Program} {t e : TypeId} {d : Kd α} {good : α → Prop} {B : Nat} (ht : P.underlying t = some (.slice e)) (hc : P.cellsOf t = 1) (hB : P.bytesOf e = B) (he : Opens P e d good) : Opens P t (Kd.slice e d) (GoodL B good) := opens_slice ht hc hB he
def Good29 (x : S29) : Prop := (fun _ : Bool => True) x.f0 ∧ I_i64 x.f1
theorem opens_29 : Opens Try.prog 29 k29 Good29 :=
  opens_struct (fun x : S29 => (x.f0, x.f1)) (fun a => ⟨a.1, a.2⟩) (fun _ => rfl) Try.underlying29 (by kernel_rfl) (opensF_cons rfl (opens_bool Try.underlying4 (by kernel_rfl)) (opensF_one rfl (opens_i64 Try.underlying3 (by kernel_rfl))))
def Good31 (x : S31) : Prop := I_i64 x.f0 ∧ I_i64 x.f1 ∧ I_i64 x.f2 ∧ (GoodL 16 GoodS) x.f3 ∧ (GoodL 8 I_i64) x.f4
theorem opens_31 : Opens Try.prog 31 k31 Good31 :=
  opens_struct (fun x : S31 => (x.f0, x.f1, x.f2, x.f3, x.f4)) (fun a => ⟨a.1, a.2.1, a.2.2.1, a.2.2.2.1, a.2.2.2.2⟩) (fun _ => rfl) Try.underlying31 (by kernel_rfl) (opensF_cons rfl (opens_i64 Try.underlying3 (by kernel_rfl)) (opensF_cons rfl (opens_i64 Try.underlying3 (by kernel_rfl)) (opensF_cons rfl (opens_i64 Try.underlying3 (by kernel_rfl)) (opensF_cons rfl (opens_list Try.underlying24 (by kernel_rfl) (by kernel_rfl) (opens_str Try.underlying9 (by kernel_rfl))) (opensF_one rfl (opens_list Try.underlying25 (by kernel_rfl) (by kernel_rfl) (opens_i64 Try.underlying3 (by kernel_rfl))))))))
/-- What is known of an argument of type 27 (cellar/cellarlaw7.Ask). -/
def Arg27 (l0_0 : (List S29)) (l0_1 : (List (List S31))) (l0_2 : (List ByteArray)) (l0_3 : (List Int)) : Prop := ((GoodL 16 Good29) l0_0 ∧ (GoodL 24 (GoodL 72 Good31)) l0_1 ∧ (GoodL 16 GoodS) l0_2 ∧ (GoodL 8 I_i64) l0_3)
set_option maxRecDepth 100000 in
theorem open_27 {H : Type} {enc : TypeId × Value → H} {W : World} {r : Reach} {b0 : Nat} {base : Nat} {spare : Nat → Bool} {held : Bool} {v : Value} {dd : DataW H} {ps : List MemPlace}
    (hv : Value.okWide Try.prog W r b0 27 v) (hd : DataW.Trod enc Try.prog W base spare held 27 v dd ps) (hw : ∀ n ∈ dd.weights Try.prog 27, n ≤ reachBytes) :
    ∃ (A0 : Option Addr) (c0 : Nat) (l0_0 : (List S29)) (A1 : Option Addr) (c1 : Nat) (l0_1 : (List (List S31))) (A2 : Option Addr) (c2 : Nat) (l0_2 : (List ByteArray)) (A3 : Option Addr) (c3 : Nat) (l0_3 : (List Int)), v = .agg #[.slice A0 l0_0.length c0, .slice A1 l0_1.length c1, .slice A2 l0_2.length c2, .slice A3 l0_3.length c3] ∧ Kd.C k29 W A0 l0_0.length l0_0 ∧ l0_0.length ≤ c0 ∧ Kd.C (Kd.slice 31 k31) W A1 l0_1.length l0_1 ∧ l0_1.length ≤ c1 ∧ Kd.C Kd.string W A2 l0_2.length l0_2 ∧ l0_2.length ≤ c2 ∧ Kd.C (Kd.int .i64) W A3 l0_3.length l0_3 ∧ l0_3.length ≤ c3 ∧ Arg27 l0_0 l0_1 l0_2 l0_3 := by
  obtain ⟨cs, ⟨l0_0, l0_1, l0_2, l0_3⟩, rfl, hK, hg⟩ := open_arg (d := (Kd.pair (Kd.slice 29 k29) (Kd.pair (Kd.slice 32 (Kd.slice 31 k31)) (Kd.pair (Kd.slice 9 Kd.string) (Kd.slice 3 (Kd.int .i64)))))) (good := fun x : ((List S29) × (List (List S31)) × (List ByteArray) × (List Int)) => ((GoodL 16 Good29) x.1 ∧ (GoodL 24 (GoodL 72 Good31)) x.2.1 ∧ (GoodL 16 GoodS) x.2.2.1 ∧ (GoodL 8 I_i64) x.2.2.2)) Try.underlying27 (by kernel_rfl) (opensF_cons rfl (opens_list Try.underlying22 (by kernel_rfl) (by kernel_rfl) opens_29) (opensF_cons rfl (opens_list Try.underlying23 (by kernel_rfl) (by kernel_rfl) (opens_list Try.underlying32 (by kernel_rfl) (by kernel_rfl) opens_31)) (opensF_cons rfl (opens_list Try.underlying24 (by kernel_rfl) (by kernel_rfl) (opens_str Try.underlying9 (by kernel_rfl))) (opensF_one rfl (opens_list Try.underlying25 (by kernel_rfl) (by kernel_rfl) (opens_i64 Try.underlying3 (by kernel_rfl))))))) hv hd hw
  obtain ⟨_, _, hcs, ⟨A0, c0, rfl, hc0, hr0⟩, ⟨_, _, rfl, ⟨A1, c1, rfl, hc1, hr1⟩, ⟨_, _, rfl, ⟨A2, c2, rfl, hc2, hr2⟩, ⟨A3, c3, rfl, hc3, hr3⟩⟩⟩⟩ := hK
  refine ⟨A0, c0, l0_0, A1, c1, l0_1, A2, c2, l0_2, A3, c3, l0_3, ?_, hr0, hc0, hr1, hc1, hr2, hc2, hr3, hc3, hg⟩
  congr 1
  apply Array.ext'
  exact hcs
end Go.Proofs.Ytjoplkillkhiaaa.L
