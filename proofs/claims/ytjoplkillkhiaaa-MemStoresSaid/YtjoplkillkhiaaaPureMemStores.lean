/- The arguments of this part's laws, opened: each slice as a list in the print's words, its length and its numbers in range. -/
import Derived.Test.YtjoplkillkhiaaaZOpen
import Derived.Test.YtjoplkillkhiaaaStx0
import Derived.Test.YtjoplkillkhiaaaStx14
import Derived.Test.YtjoplkillkhiaaaZFn
import Derived.Test.YtjoplkillkhiaaaZMore
import Derived.Test.YtjoplkillkhiaaaZEvs
namespace Go.Proofs.Ytjoplkillkhiaaa.St
open Go.RowKit Go.Proofs.YtjoplkillkhiaaaW.PrintWords Go.Proofs.Ytjoplkillkhiaaa.Op
set_option linter.unusedVariables false
set_option linter.unusedSimpArgs false
/-- In the range of i64. -/
def I_i64 (n : Int) : Prop := -9223372036854775808 ≤ n ∧ n ≤ 9223372036854775807
theorem opens_i64 {P : Program} {t : TypeId} (ht : P.underlying t = some (.int .i64)) (hc : P.cellsOf t = 1) : Opens P t (Kd.int .i64) I_i64 where
  cells := hc
  opens := by
    intro H enc w base spare held fuel cs x h hw
    obtain ⟨n, hK, hg⟩ := (opens_int ht hc).opens h hw
    refine ⟨n, hK, ?_⟩
    unfold I_i64
    simp [Lit.wf, IntKind.min, IntKind.max, IntKind.signed, IntKind.bits] at hg
    omega
/-- In the range of u8. -/
def I_u8 (n : Int) : Prop := 0 ≤ n ∧ n ≤ 255
theorem opens_u8 {P : Program} {t : TypeId} (ht : P.underlying t = some (.int .u8)) (hc : P.cellsOf t = 1) : Opens P t (Kd.int .u8) I_u8 where
  cells := hc
  opens := by
    intro H enc w base spare held fuel cs x h hw
    obtain ⟨n, hK, hg⟩ := (opens_int ht hc).opens h hw
    refine ⟨n, hK, ?_⟩
    unfold I_u8
    simp [Lit.wf, IntKind.min, IntKind.max, IntKind.signed, IntKind.bits] at hg
    omega
/-- A string that there is. -/
def GoodS (s : ByteArray) : Prop := s.size ≤ 140737488351232
theorem opens_str {P : Program} {t : TypeId} (ht : P.underlying t = some .string) (hc : P.cellsOf t = 1) : Opens P t Kd.string GoodS := opens_string ht hc
/-- A slice that there is: its elements of B bytes. -/
def GoodL {α : Type} (B : Nat) (good : α → Prop) (l : List α) : Prop := l.length * B ≤ 140737488351232 ∧ ∀ x ∈ l, good x
theorem opens_list {α : Type} {P : Program} {t e : TypeId} {d : Kd α} {good : α → Prop} {B : Nat} (ht : P.underlying t = some (.slice e)) (hc : P.cellsOf t = 1) (hB : P.bytesOf e = B) (he : Opens P e d good) : Opens P t (Kd.slice e d) (GoodL B good) := opens_slice ht hc hB he
def Good74 (x : S74) : Prop := I_i64 x.f0 ∧ I_i64 x.f1 ∧ I_i64 x.f2 ∧ I_i64 x.f3 ∧ I_i64 x.f4
theorem opens_74 : Opens Try.prog 74 k74 Good74 :=
  opens_struct (fun x : S74 => (x.f0, x.f1, x.f2, x.f3, x.f4)) (fun a => ⟨a.1, a.2.1, a.2.2.1, a.2.2.2.1, a.2.2.2.2⟩) (fun _ => rfl) Try.underlying74 (by kernel_rfl) (opensF_cons rfl (opens_i64 Try.underlying3 (by kernel_rfl)) (opensF_cons rfl (opens_i64 Try.underlying3 (by kernel_rfl)) (opensF_cons rfl (opens_i64 Try.underlying3 (by kernel_rfl)) (opensF_cons rfl (opens_i64 Try.underlying3 (by kernel_rfl)) (opensF_one rfl (opens_i64 Try.underlying3 (by kernel_rfl)))))))
def Good76 (x : S76) : Prop := I_i64 x.f0 ∧ (GoodL 40 Good74) x.f1
theorem opens_76 : Opens Try.prog 76 k76 Good76 :=
  opens_struct (fun x : S76 => (x.f0, x.f1)) (fun a => ⟨a.1, a.2⟩) (fun _ => rfl) Try.underlying76 (by kernel_rfl) (opensF_cons rfl (opens_i64 Try.underlying3 (by kernel_rfl)) (opensF_one rfl (opens_list Try.underlying72 (by kernel_rfl) (by kernel_rfl) opens_74)))
def Good62 (x : S62) : Prop := (fun _ : Bool => True) x.f0 ∧ I_i64 x.f1 ∧ I_i64 x.f2 ∧ I_i64 x.f3
theorem opens_62 : Opens Try.prog 62 k62 Good62 :=
  opens_struct (fun x : S62 => (x.f0, x.f1, x.f2, x.f3)) (fun a => ⟨a.1, a.2.1, a.2.2.1, a.2.2.2⟩) (fun _ => rfl) Try.underlying62 (by kernel_rfl) (opensF_cons rfl (opens_bool Try.underlying4 (by kernel_rfl)) (opensF_cons rfl (opens_i64 Try.underlying3 (by kernel_rfl)) (opensF_cons rfl (opens_i64 Try.underlying3 (by kernel_rfl)) (opensF_one rfl (opens_i64 Try.underlying3 (by kernel_rfl))))))
def Good29 (x : S29) : Prop := (fun _ : Bool => True) x.f0 ∧ I_i64 x.f1
theorem opens_29 : Opens Try.prog 29 k29 Good29 :=
  opens_struct (fun x : S29 => (x.f0, x.f1)) (fun a => ⟨a.1, a.2⟩) (fun _ => rfl) Try.underlying29 (by kernel_rfl) (opensF_cons rfl (opens_bool Try.underlying4 (by kernel_rfl)) (opensF_one rfl (opens_i64 Try.underlying3 (by kernel_rfl))))
/-- What is known of an argument of type 54 (cellar/cellarlaw9.Ask). -/
def Arg54 (l0_0 : (List (List S76))) (l0_1 : (List S62)) (l0_2 : (List Int)) (l0_3 : (List S29)) : Prop := ((GoodL 24 (GoodL 32 Good76)) l0_0 ∧ (GoodL 32 Good62) l0_1 ∧ (GoodL 8 I_i64) l0_2 ∧ (GoodL 16 Good29) l0_3)
set_option maxRecDepth 100000 in
theorem open_54 {H : Type} {enc : TypeId × Value → H} {W : World} {r : Reach} {b0 : Nat} {base : Nat} {spare : Nat → Bool} {held : Bool} {v : Value} {dd : DataW H} {ps : List MemPlace}
    (hv : Value.okWide Try.prog W r b0 54 v) (hd : DataW.Trod enc Try.prog W base spare held 54 v dd ps) (hw : ∀ n ∈ dd.weights Try.prog 54, n ≤ reachBytes) :
    ∃ (A0 : Option Addr) (c0 : Nat) (l0_0 : (List (List S76))) (A1 : Option Addr) (c1 : Nat) (l0_1 : (List S62)) (A2 : Option Addr) (c2 : Nat) (l0_2 : (List Int)) (A3 : Option Addr) (c3 : Nat) (l0_3 : (List S29)), v = .agg #[.slice A0 l0_0.length c0, .slice A1 l0_1.length c1, .slice A2 l0_2.length c2, .slice A3 l0_3.length c3] ∧ Kd.C (Kd.slice 76 k76) W A0 l0_0.length l0_0 ∧ l0_0.length ≤ c0 ∧ Kd.C k62 W A1 l0_1.length l0_1 ∧ l0_1.length ≤ c1 ∧ Kd.C (Kd.int .i64) W A2 l0_2.length l0_2 ∧ l0_2.length ≤ c2 ∧ Kd.C k29 W A3 l0_3.length l0_3 ∧ l0_3.length ≤ c3 ∧ Arg54 l0_0 l0_1 l0_2 l0_3 := by
  obtain ⟨cs, ⟨l0_0, l0_1, l0_2, l0_3⟩, rfl, hK, hg⟩ := open_arg (d := (Kd.pair (Kd.slice 57 (Kd.slice 76 k76)) (Kd.pair (Kd.slice 62 k62) (Kd.pair (Kd.slice 3 (Kd.int .i64)) (Kd.slice 29 k29))))) (good := fun x : ((List (List S76)) × (List S62) × (List Int) × (List S29)) => ((GoodL 24 (GoodL 32 Good76)) x.1 ∧ (GoodL 32 Good62) x.2.1 ∧ (GoodL 8 I_i64) x.2.2.1 ∧ (GoodL 16 Good29) x.2.2.2)) Try.underlying54 (by kernel_rfl) (opensF_cons rfl (opens_list Try.underlying51 (by kernel_rfl) (by kernel_rfl) (opens_list Try.underlying57 (by kernel_rfl) (by kernel_rfl) opens_76)) (opensF_cons rfl (opens_list Try.underlying52 (by kernel_rfl) (by kernel_rfl) opens_62) (opensF_cons rfl (opens_list Try.underlying25 (by kernel_rfl) (by kernel_rfl) (opens_i64 Try.underlying3 (by kernel_rfl))) (opensF_one rfl (opens_list Try.underlying22 (by kernel_rfl) (by kernel_rfl) opens_29))))) hv hd hw
  obtain ⟨_, _, hcs, ⟨A0, c0, rfl, hc0, hr0⟩, ⟨_, _, rfl, ⟨A1, c1, rfl, hc1, hr1⟩, ⟨_, _, rfl, ⟨A2, c2, rfl, hc2, hr2⟩, ⟨A3, c3, rfl, hc3, hr3⟩⟩⟩⟩ := hK
  refine ⟨A0, c0, l0_0, A1, c1, l0_1, A2, c2, l0_2, A3, c3, l0_3, ?_, hr0, hc0, hr1, hc1, hr2, hc2, hr3, hc3, hg⟩
  congr 1
  apply Array.ext'
  exact hcs
end Go.Proofs.Ytjoplkillkhiaaa.St
/- What is stored through any pointer is what the reference tells. No Go and no memory in it. -/
namespace Go.Proofs.Ytjoplkillkhiaaa.St
open Go.RowKit Go.Proofs.Ytjoplkillkhiaaa.Fn Go.Proofs.YtjoplkillkhiaaaW.PrintWords Go.Proofs.YtjoplkillkhiaaaW.PrintLast Go.Proofs.YtjoplkillkhiaaaW.PrintMore Go.Proofs.Ytjoplkillkhiaaa.Evs
set_option linter.unusedVariables false
set_option linter.unusedSimpArgs false
theorem mask_nat (n : Int) (j : Nat) : ((BitVec.ofInt 64 n).toNat &&& (2 ^ j - 1) : Nat) = (n % 18446744073709551616).toNat % 2 ^ j := by
  rw [Nat.and_two_pow_sub_one_eq_mod, BitVec.toNat_ofInt]
  rfl
theorem mask_i64 (n : Int) (j : Nat) (m : Nat) (hm : m = 2 ^ j - 1) (hj : j ≤ 32) : Go.bits .and .i64 n (m : Int) = (((n % 18446744073709551616).toNat % 2 ^ j : Nat) : Int) := by
  have hp : 2 ^ j ≤ 2 ^ 32 := Nat.pow_le_pow_right (by decide) hj
  have h0 : 0 < 2 ^ j := Nat.two_pow_pos j
  have h1 : (n % 18446744073709551616).toNat % 2 ^ j < 2 ^ 32 := Nat.lt_of_lt_of_le (Nat.mod_lt _ h0) hp
  have e : (BitVec.ofInt 64 (m : Int)).toNat = m := by
    rw [BitVec.ofInt_natCast, BitVec.toNat_ofNat]
    exact Nat.mod_eq_of_lt (by omega)
  show IntKind.i64.wrap ((BitVec.ofInt 64 n &&& BitVec.ofInt 64 (m : Int)).toNat : Int) = _
  rw [BitVec.toNat_and, e, hm, mask_nat, IntKind.wrap_i64]
  omega
theorem mask8 (n : Int) : Go.bits .and .i64 n 255 = n % 256 := by
  have h := mask_i64 n 8 255 (by decide) (by decide)
  have e : ((255 : Nat) : Int) = 255 := rfl
  rw [e] at h
  rw [h]
  omega
theorem mask16 (n : Int) : Go.bits .and .i64 n 65535 = n % 65536 := by
  have h := mask_i64 n 16 65535 (by decide) (by decide)
  have e : ((65535 : Nat) : Int) = 65535 := rfl
  rw [e] at h
  rw [h]
  omega
theorem mask32 (n : Int) : Go.bits .and .i64 n 4294967295 = n % 4294967296 := by
  have h := mask_i64 n 32 4294967295 (by decide) (by decide)
  have e : ((4294967295 : Nat) : Int) = 4294967295 := rfl
  rw [e] at h
  rw [h]
  omega
/-- What is known of a kind of numbers: its width w, half of its numbers h, all of them P, its bytes b. -/
structure KD (kind w h P b : Int) : Prop where
  of : word_Of.f kind = some w
  wd : ∀ k, cellarref1_Width.f (k + 2) kind = some w
  isk : word_IsKind.f kind = some true
  w1 : 8 ≤ w
  w2 : w ≤ 32
  s1 : shl .i64 1 w = P
  s2 : shl .i64 1 (w - 1) = h
  PP : P = 2 * h
  h1 : 128 ≤ h
  h2 : h ≤ 2147483648
  msk : ∀ n, Go.bits .and .i64 n (P - 1) = n % P
  wb : wrap64 (Int.tdiv w 8) = b
  bb : (b = 1 ∧ P = 256) ∨ (b = 2 ∧ P = 65536) ∨ (b = 4 ∧ P = 4294967296)
  k7 : 1 ≤ kind ∧ kind ≤ 6
theorem kd_of (kind : Int) (h0 : 1 ≤ kind) (h1 : kind ≤ 6) : ∃ w h P b, KD kind w h P b := by
  have : kind = 1 ∨ kind = 2 ∨ kind = 3 ∨ kind = 4 ∨ kind = 5 ∨ kind = 6 := by omega
  rcases this with rfl | rfl | rfl | rfl | rfl | rfl
  · exact ⟨8, 128, 256, 1, by decide +kernel, fun k => rfl, by decide +kernel, by decide, by decide, by decide +kernel, by decide +kernel, by decide, by decide, by decide, mask8, by decide +kernel, .inl ⟨rfl, rfl⟩, by decide⟩
  · exact ⟨8, 128, 256, 1, by decide +kernel, fun k => rfl, by decide +kernel, by decide, by decide, by decide +kernel, by decide +kernel, by decide, by decide, by decide, mask8, by decide +kernel, .inl ⟨rfl, rfl⟩, by decide⟩
  · exact ⟨16, 32768, 65536, 2, by decide +kernel, fun k => rfl, by decide +kernel, by decide, by decide, by decide +kernel, by decide +kernel, by decide, by decide, by decide, mask16, by decide +kernel, .inr (.inl ⟨rfl, rfl⟩), by decide⟩
  · exact ⟨16, 32768, 65536, 2, by decide +kernel, fun k => rfl, by decide +kernel, by decide, by decide, by decide +kernel, by decide +kernel, by decide, by decide, by decide, mask16, by decide +kernel, .inr (.inl ⟨rfl, rfl⟩), by decide⟩
  · exact ⟨32, 2147483648, 4294967296, 4, by decide +kernel, fun k => rfl, by decide +kernel, by decide, by decide, by decide +kernel, by decide +kernel, by decide, by decide, by decide, mask32, by decide +kernel, .inr (.inr ⟨rfl, rfl⟩), by decide⟩
  · exact ⟨32, 2147483648, 4294967296, 4, by decide +kernel, fun k => rfl, by decide +kernel, by decide, by decide, by decide +kernel, by decide +kernel, by decide, by decide, by decide, mask32, by decide +kernel, .inr (.inr ⟨rfl, rfl⟩), by decide⟩
theorem no_kind (kind : Int) (h : kind < 1 ∨ 6 < kind) (k : Nat) : cellarref1_Width.f (k + 2) kind = some 0 := by
  unfold cellarref1_Width.f
  rw [if_neg (by omega)]
  simp only [cellarref1_Width.j0]
  rw [if_neg (by simp; omega), if_neg (by omega)]
  simp only [cellarref1_Width.j1]
  rw [if_neg (by simp; omega), if_neg (by omega), if_neg (by omega)]
theorem no_isk (kind : Int) (h : kind < 1 ∨ 6 < kind) : word_IsKind.f kind = some false := by
  unfold word_IsKind.f
  by_cases h1 : kind ≥ 1
  · rw [if_pos h1]
    simp
    omega
  · rw [if_neg h1]
section
variable {kind w h P b : Int} (K : KD kind w h P b)
include K
theorem KD.pm : wrap64 (P - 1) = P - 1 := by have := K.PP; have := K.h1; have := K.h2; exact w64 (by omega) (by omega)
theorem KD.w0 : 0 ≤ w := by have := K.w1; omega
theorem KD.most : word_Most.f w = some (P - 1) := by
  unfold word_Most.f
  rw [if_pos K.w0, K.s1, K.pm]
theorem KD.is (n : Int) : word_Is.f n w = some (decide (0 ≤ n ∧ n < P)) := by
  unfold word_Is.f
  by_cases hn : n ≥ 0
  · rw [if_pos hn, K.most, Option.bind_some]
    congr 1
    rw [decide_eq_decide]
    omega
  · rw [if_neg hn]
    congr 1
    symm
    rw [decide_eq_false_iff_not]
    omega
theorem KD.number (n : Int) : cellarref1_Number.f n w = some (decide (0 ≤ n ∧ n < P)) := by
  unfold cellarref1_Number.f cellarref0_Num.f
  rw [if_pos K.w0, K.s1, K.pm]
  by_cases hn : n ≥ 0
  · rw [if_pos hn, Option.bind_some]
    congr 1
    rw [decide_eq_decide]
    omega
  · rw [if_neg hn, Option.bind_some]
    congr 1
    symm
    rw [decide_eq_false_iff_not]
    omega
end
theorem amay (b : Bool) (p : Int) : word_May.f b p = some (decide (p = 2 ∨ p = 4)) := by
  unfold word_May.f
  by_cases c : p = 2
  · simp [c]
  · by_cases d : p = 4
    · simp [d]
    · simp [c, d]
theorem rabi (b : Bool) (p : Int) : cellarref1_Abi.f b p = some (decide (p = 2 ∨ p = 4)) := amay b p
theorem num_le (n m : Int) : cellarref0_Num.f n m = some (decide (0 ≤ n ∧ n ≤ m)) := by
  unfold cellarref0_Num.f
  by_cases c : n ≥ 0
  · rw [if_pos c]
    congr 1
    rw [decide_eq_decide]
    omega
  · rw [if_neg c]
    congr 1
    symm
    rw [decide_eq_false_iff_not]
    omega
theorem up_le (n m : Int) : bytes_up.f n m = some (decide (0 ≤ n ∧ n ≤ m)) := num_le n m
theorem btw (n a m : Int) : cellarref0_Between.f n a m = some (decide (a ≤ n ∧ n ≤ m)) := by
  unfold cellarref0_Between.f
  by_cases c : n ≥ a
  · rw [if_pos c]
    congr 1
    rw [decide_eq_decide]
    omega
  · rw [if_neg c]
    congr 1
    symm
    rw [decide_eq_false_iff_not]
    omega
theorem ascalar (kind : Int) : word_IsScalar.f kind = some (decide (1 ≤ kind ∧ kind ≤ 7)) := btw kind 1 7
/-- How many bytes a scalar has. -/
def sizev (p kind : Int) : Int := if kind = 7 then p else wrap64 (Int.tdiv ((word_Of.f kind).getD 0) 8)
theorem rsize (k : Nat) (b : Bool) (p kind : Int) (h : 1 ≤ kind ∧ kind ≤ 7) : cellarref1_Size.f (k + 2) b p kind = some (sizev p kind) := by
  unfold cellarref1_Size.f sizev
  by_cases c : kind = 7
  · rw [if_pos c, if_pos c]
  · obtain ⟨w, hh, P, s, K⟩ := kd_of kind (by omega) (by omega)
    rw [if_neg c, if_neg c, K.wd, K.of]
    rfl
theorem abytes (b : Bool) (p kind : Int) (h : 1 ≤ kind ∧ kind ≤ 7) : word_Bytes.f b p kind = some (sizev p kind) := by
  unfold word_Bytes.f sizev
  by_cases e : kind = 7
  · rw [if_pos e, if_pos e]
  · obtain ⟨w, hh, P, s, K⟩ := kd_of kind (by omega) (by omega)
    rw [if_neg e, if_neg e, K.of]
    rfl
theorem size_small (p kind : Int) (hp : p = 2 ∨ p = 4) (h : 1 ≤ kind ∧ kind ≤ 7) : sizev p kind = 1 ∨ sizev p kind = 2 ∨ sizev p kind = 4 := by
  unfold sizev
  by_cases e : kind = 7
  · rw [if_pos e]
    omega
  · obtain ⟨w, hh, P, s, K⟩ := kd_of kind (by omega) (by omega)
    rw [if_neg e, K.of]
    show wrap64 (Int.tdiv w 8) = 1 ∨ wrap64 (Int.tdiv w 8) = 2 ∨ wrap64 (Int.tdiv w 8) = 4
    rw [K.wb]
    rcases K.bb with ⟨h, _⟩ | ⟨h, _⟩ | ⟨h, _⟩ <;> simp [h]
def isB (x : S74) : Bool := decide ((x.f0 = 0 ∧ x.f1 = 0 ∧ x.f2 = 0 ∧ x.f3 = 0 ∧ x.f4 = 0) ∨ (x.f0 = 1 ∧ (0 ≤ x.f1 ∧ x.f1 ≤ 255) ∧ x.f2 = 0 ∧ x.f3 = 0 ∧ x.f4 = 0) ∨ (x.f0 = 2 ∧ x.f1 = 0 ∧ (1 ≤ x.f2 ∧ x.f2 ≤ 32) ∧ (0 ≤ x.f3 ∧ x.f3 ≤ 32) ∧ 0 ≤ x.f4 ∧ x.f4 ≤ 3))
theorem is_b (x : S74) : bytes_Is.f x.f0 x.f1 x.f2 x.f3 x.f4 = some (isB x) := by
  unfold bytes_Is.f isB
  simp only [up_le, Option.bind_some]
  by_cases h0 : x.f0 = 0
  · rw [if_pos h0]
    congr 1
    rw [Bool.eq_iff_iff]
    simp [h0]
  · rw [if_neg h0]
    by_cases h1 : x.f0 = 1
    · rw [if_pos h1]
      by_cases c : 0 ≤ x.f1 ∧ x.f1 ≤ 255
      · rw [if_pos (decide_eq_true c)]
        congr 1
        rw [Bool.eq_iff_iff]
        simp [h1, c]
      · rw [if_neg (by simpa using c)]
        congr 1
        symm
        rw [decide_eq_false_iff_not]
        omega
    · rw [if_neg h1]
      by_cases h2 : x.f0 = 2
      · rw [if_pos h2]
        by_cases c1 : x.f1 = 0
        · rw [if_pos c1]
          by_cases c2 : x.f2 ≥ 1
          · rw [if_pos c2]
            by_cases c3 : x.f2 ≤ 32
            · rw [if_pos c3]
              by_cases c4 : 0 ≤ x.f3 ∧ x.f3 ≤ 32
              · rw [if_pos (decide_eq_true c4)]
                congr 1
                rw [decide_eq_decide]
                omega
              · rw [if_neg (by simpa using c4)]
                congr 1
                symm
                rw [decide_eq_false_iff_not]
                omega
            · rw [if_neg c3]
              congr 1
              symm
              rw [decide_eq_false_iff_not]
              omega
          · rw [if_neg c2]
            congr 1
            symm
            rw [decide_eq_false_iff_not]
            omega
        · rw [if_neg c1]
          congr 1
          symm
          rw [decide_eq_false_iff_not]
          omega
      · rw [if_neg h2]
        congr 1
        symm
        rw [decide_eq_false_iff_not]
        omega
def mayS (kind : Int) (p : Bool) (n b o : Int) : Bool :=
  if kind = 7 then decide (p = true ∧ n = 0 ∧ (0 ≤ b ∧ b ≤ 32) ∧ (0 ≤ o ∧ o ≤ 32) ∧ (0 < b ∨ o = 0))
  else decide ((1 ≤ kind ∧ kind ≤ 6) ∧ p = false ∧ (0 ≤ n ∧ n < shl .i64 1 ((word_Of.f kind).getD 0)) ∧ b = 0 ∧ o = 0)
theorem may_s (kind : Int) (p : Bool) (n b o : Int) : bytes_May.f kind p n b o = some (mayS kind p n b o) := by
  unfold bytes_May.f mayS
  by_cases hk : 1 ≤ kind ∧ kind ≤ 6
  · obtain ⟨w, hh, P, s, K⟩ := kd_of kind hk.1 hk.2
    rw [K.isk, Option.bind_some, if_pos rfl, if_neg (show ¬ kind = 7 by omega), K.of]
    cases p with
    | true => simp
    | false =>
      rw [if_neg (by decide), Option.bind_some, K.is, Option.bind_some]
      simp only [Option.getD_some, K.s1]
      by_cases c : 0 ≤ n ∧ n < P
      · rw [if_pos (decide_eq_true c)]
        by_cases d : b = 0
        · rw [if_pos d]
          congr 1
          rw [Bool.eq_iff_iff]
          simp [hk, c, d]
        · rw [if_neg d]
          congr 1
          symm
          rw [decide_eq_false_iff_not]
          omega
      · rw [if_neg (by simpa using c)]
        congr 1
        symm
        rw [decide_eq_false_iff_not]
        omega
  · rw [no_isk kind (by omega), Option.bind_some, if_neg (by decide)]
    simp only [up_le, Option.bind_some]
    by_cases h7 : kind = 7
    · rw [if_pos h7, if_pos h7]
      cases p with
      | true =>
        rw [if_pos rfl]
        by_cases c1 : n = 0
        · rw [if_pos c1]
          by_cases c2 : 0 ≤ b ∧ b ≤ 32
          · rw [if_pos (decide_eq_true c2)]
            by_cases c3 : 0 ≤ o ∧ o ≤ 32
            · rw [if_pos (decide_eq_true c3)]
              by_cases c4 : b > 0
              · rw [if_pos c4]
                congr 1
                symm
                rw [decide_eq_true_iff]
                exact ⟨rfl, c1, c2, c3, .inl c4⟩
              · rw [if_neg c4]
                congr 1
                rw [Bool.eq_iff_iff]
                simp [c1, c2, c3]
                omega
            · rw [if_neg (by simpa using c3)]
              congr 1
              symm
              rw [decide_eq_false_iff_not]
              omega
          · rw [if_neg (by simpa using c2)]
            congr 1
            symm
            rw [decide_eq_false_iff_not]
            omega
        · rw [if_neg c1]
          congr 1
          symm
          rw [decide_eq_false_iff_not]
          omega
      | false => simp
    · rw [if_neg h7, if_neg h7]
      congr 1
      symm
      rw [decide_eq_false_iff_not]
      omega
theorem set_mid {α : Type} (A B : List α) (z v : α) (i : Nat) (h : A.length = i) : (A ++ z :: B).set i v = A ++ v :: B := by
  subst h
  rw [List.set_append_right _ _ (Nat.le_refl _), Nat.sub_self]
  rfl
/-- The first i of n are told by g, the others are nothing yet. -/
def fillL (g : Nat → S74) (i n : Nat) : List S74 := (List.range i).map g ++ List.replicate (n - i) z74
theorem fill_len (g : Nat → S74) (i n : Nat) (h : i ≤ n) : (fillL g i n).length = n := by simp [fillL]; omega
theorem fill_set (g : Nat → S74) (i n : Nat) (h : i < n) : (fillL g i n).set i (g i) = fillL g (i + 1) n := by
  unfold fillL
  rw [show n - i = (n - (i + 1)) + 1 by omega, List.replicate_succ, set_mid _ _ _ _ _ (by simp), List.range_succ, List.map_append, List.append_assoc]
  rfl
theorem fill_all (g : Nat → S74) (n : Nat) : fillL g n n = (List.range n).map g := by simp [fillL]
theorem fill_none (g : Nat → S74) (n : Nat) : fillL g 0 n = List.replicate n z74 := by simp [fillL]
theorem rd_get (l : List S74) (i : Nat) (h : i < l.length) : rd_T74 l (i : Int) = l[i] := by
  unfold rd_T74
  simp [List.getD_eq_getElem?_getD, List.getElem?_eq_getElem h]
def bt8 (n k : Int) : Int := Go.bits .and .i64 (shr .i64 n (wrap64 (8 * k))) 255
theorem bt8_zero (k : Int) : bt8 0 k = 0 := by
  unfold bt8 shr
  rw [mask8, Int.zero_ediv]
  rfl
/-- A scalar's bytes. -/
def putL (big : Bool) (sz : Nat) (p : Bool) (n b o : Int) : List S74 :=
  (List.range sz).map fun (i : Nat) => if p = true then (if b > 0 then ⟨2, 0, b, o, (i : Int)⟩ else ⟨1, 0, 0, 0, 0⟩) else ⟨1, bt8 n (if big = true then Int.ofNat (sz - 1 - i) else (i : Int)), 0, 0, 0⟩
theorem rev_some (k : Nat) (l : List S74) (h : l.length = 1 ∨ l.length = 2 ∨ l.length = 4) : api_Byte_118.f (k + 3) l = some l.reverse := by
  have e1 : wrap64 (0 + 1) = 1 := by decide +kernel
  have e2 : wrap64 (3 - 1) = 2 := by decide +kernel
  have e3 : wrap64 (1 + 1) = 2 := by decide +kernel
  have e4 : wrap64 (2 - 1) = 1 := by decide +kernel
  have e5 : wrap64 (1 - 1) = 0 := by decide +kernel
  have e6 : wrap64 (4 - 1) = 3 := by decide +kernel
  have e7 : wrap64 0 = 0 := by decide +kernel
  have e8 : wrap64 1 = 1 := by decide +kernel
  have e9 : wrap64 2 = 2 := by decide +kernel
  unfold api_Byte_118.f
  rcases h with h | h | h
  · obtain ⟨a, rfl⟩ : ∃ a, l = [a] := by
      match l, h with
      | [a], _ => exact ⟨a, rfl⟩
    simp only [List.length_cons, List.length_nil]
    rw [show wrap64 (((0 + 1 : Nat) : Int) - 1) = 0 from e5]
    simp [api_Byte_118.l0]
  · obtain ⟨a, b, rfl⟩ : ∃ a b, l = [a, b] := by
      match l, h with
      | [a, b], _ => exact ⟨a, b, rfl⟩
    simp only [List.length_cons, List.length_nil]
    rw [show wrap64 (((0 + 1 + 1 : Nat) : Int) - 1) = 1 from e4]
    simp [api_Byte_118.l0, rd_T74, e5, e7, e8]
  · obtain ⟨a, b, c, d, rfl⟩ : ∃ a b c d, l = [a, b, c, d] := by
      match l, h with
      | [a, b, c, d], _ => exact ⟨a, b, c, d, rfl⟩
    simp only [List.length_cons, List.length_nil]
    rw [show wrap64 (((0 + 1 + 1 + 1 + 1 : Nat) : Int) - 1) = 3 from e6]
    simp [api_Byte_118.l0, rd_T74, e1, e2, e3, e4, e7, e8, e9]
theorem put_of (kind : Int) (p : Bool) (n b o : Int) (h : mayS kind p n b o = true) : (kind = 7 ∧ p = true ∧ n = 0 ∧ 0 ≤ b ∧ b ≤ 32 ∧ 0 ≤ o ∧ o ≤ 32 ∧ (0 < b ∨ o = 0)) ∨ ((1 ≤ kind ∧ kind ≤ 6) ∧ p = false ∧ b = 0 ∧ o = 0 ∧ ∃ w hh P c, KD kind w hh P c ∧ 0 ≤ n ∧ n < P) := by
  unfold mayS at h
  by_cases e : kind = 7
  · rw [if_pos e, decide_eq_true_eq] at h
    exact .inl ⟨e, h.1, h.2.1, h.2.2.1.1, h.2.2.1.2, h.2.2.2.1.1, h.2.2.2.1.2, h.2.2.2.2⟩
  · rw [if_neg e, decide_eq_true_eq] at h
    obtain ⟨hk, hp, hn, hb, ho⟩ := h
    obtain ⟨w, hh, P, c, K⟩ := kd_of kind hk.1 hk.2
    rw [K.of, Option.getD_some, K.s1] at hn
    exact .inr ⟨hk, hp, hb, ho, w, hh, P, c, K, hn⟩
theorem spell_ev (big : Bool) (ptr kind : Int) (p : Bool) (n b o : Int) (hp : ptr = 2 ∨ ptr = 4) (h : mayS kind p n b o = true) :
    Ev (fun k => bytes_Spell.f k big ptr kind p n b o) (putL big (sizev ptr kind).toNat p n b o) := by
  have hk : 1 ≤ kind ∧ kind ≤ 7 := by rcases put_of kind p n b o h with ⟨e, _⟩ | ⟨e, _⟩ <;> omega
  have hs := size_small ptr kind hp hk
  have ab := abytes big ptr kind hk
  unfold bytes_Spell.f
  generalize sizev ptr kind = sz at hs ab ⊢
  obtain ⟨m, rfl⟩ : ∃ m : Nat, sz = m := ⟨sz.toNat, by omega⟩
  rw [Int.toNat_natCast]
  have hm : m = 1 ∨ m = 2 ∨ m = 4 := by omega
  -- the loop
  have key : ∀ (g : Nat → S74) (r : List S74), (∀ i : Nat, i < m → g i = if b > 0 then ⟨2, 0, b, o, (i : Int)⟩ else ⟨1, bt8 n i, 0, 0, 0⟩) → (kind = 7 → r = (List.range m).map g) → (¬ kind = 7 → r = if big = true then ((List.range m).map g).reverse else (List.range m).map g) →
      Ev (fun k => bytes_Spell.l0 k kind (List.replicate m z74) m 0 big ptr p n b o) r := by
    intro g r hg hr7 hr
    suffices H : ∀ i : Int, 0 ≤ i → i ≤ m → Ev (fun k => bytes_Spell.l0 k kind (fillL g i.toNat m) m i big ptr p n b o) r by
      have := H 0 (by omega) (by omega)
      rwa [show (0 : Int).toNat = 0 from rfl, fill_none] at this
    refine down (Q := fun i => Ev (fun k => bytes_Spell.l0 k kind (fillL g i.toNat m) m i big ptr p n b o) r) ?_ ?_
    · refine Ev.step (fun k => by rw [bytes_Spell.l0]) ?_
      refine Ev.neg (by omega) ?_
      rw [Int.toNat_natCast, fill_all]
      by_cases e : kind = 7
      · refine Ev.pos e ?_
        rw [hr7 e]
        exact Ev.now _
      · refine Ev.neg e ?_
        rw [hr e]
        cases big with
        | true =>
          refine Ev.pos rfl ?_
          rw [if_pos rfl]
          exact Ev.bind (Ev.plus 3 fun k => rev_some k _ (by simpa using hm)) (Ev.now _)
        | false => exact Ev.neg (by decide) (Ev.now _)
    intro i i0 i1 ih
    obtain ⟨j, rfl⟩ := Int.eq_ofNat_of_zero_le i0
    have hj : j < m := by omega
    rw [show ((j : Int) + 1).toNat = j + 1 by omega, ← fill_set g j m hj, hg j hj] at ih
    have hlen := fill_len g j m (by omega)
    refine Ev.step (fun k => by rw [bytes_Spell.l0]) ?_
    refine Ev.pos i1 ?_
    rw [Int.toNat_natCast]
    by_cases c : b > 0
    · rw [if_pos c] at ih
      refine Ev.pos c (Ev.pos i0 ?_)
      refine Ev.pos (by rw [hlen]; exact i1) ?_
      rw [w64 (z := (j : Int) + 1) (by omega) (by omega)]
      exact ih
    · rw [if_neg c] at ih
      refine Ev.neg c ?_
      refine Ev.pos (by rw [w64 (by omega) (by omega)]; omega) (Ev.pos i0 ?_)
      refine Ev.pos (by rw [hlen]; exact i1) ?_
      rw [w64 (z := (j : Int) + 1) (by omega) (by omega)]
      exact ih
  refine Ev.bindS ab ?_
  refine Ev.pos (by omega) (Ev.pos (by omega) ?_)
  refine Ev.bindS rfl ?_
  rw [List.length_replicate, Int.toNat_natCast]
  have ho := put_of kind p n b o h
  refine key (fun i => if b > 0 then ⟨2, 0, b, o, (i : Int)⟩ else ⟨1, bt8 n i, 0, 0, 0⟩) _ (fun i hi => rfl) ?_ ?_
  · intro e
    rcases ho with ⟨_, rfl, rfl, _⟩ | ⟨e', _⟩
    · unfold putL
      refine List.map_congr_left fun i _ => ?_
      rw [if_pos rfl]
      by_cases c : b > 0
      · rw [if_pos c, if_pos c]
      · rw [if_neg c, if_neg c, bt8_zero]
    · omega
  · intro e
    rcases ho with ⟨e', _⟩ | ⟨_, rfl, rfl, rfl, _⟩
    · exact absurd e' e
    · unfold putL
      cases big with
      | false => rfl
      | true =>
        rw [if_pos rfl]
        rcases hm with rfl | rfl | rfl
        · rfl
        · rfl
        · rfl
theorem put_len (big : Bool) (sz : Nat) (p : Bool) (n b o : Int) : (putL big sz p n b o).length = sz := by simp [putL]
theorem rput_ev (big : Bool) (ptr kind : Int) (p : Bool) (n b o : Int) (hp : ptr = 2 ∨ ptr = 4) (h : mayS kind p n b o = true) :
    Ev (fun k => cellarref7_Put.f k big ptr kind p n b o) (putL big (sizev ptr kind).toNat p n b o) := by
  have hk : 1 ≤ kind ∧ kind ≤ 7 := by rcases put_of kind p n b o h with ⟨e, _⟩ | ⟨e, _⟩ <;> omega
  have hs := size_small ptr kind hp hk
  unfold cellarref7_Put.f
  refine Ev.bind (Ev.plus 2 fun k => rsize k big ptr kind hk) ?_
  generalize sizev ptr kind = sz at hs ⊢
  obtain ⟨m, rfl⟩ : ∃ m : Nat, sz = m := ⟨sz.toNat, by omega⟩
  rw [Int.toNat_natCast]
  refine Ev.pos (by omega) (Ev.pos (by omega) ?_)
  have key : ∀ g : Nat → S74, putL big m p n b o = (List.range m).map g → (∀ i : Nat, g i = if p = true then (if b > 0 then ⟨2, 0, b, o, (i : Int)⟩ else ⟨1, 0, 0, 0, 0⟩) else ⟨1, bt8 n (if big = true then Int.ofNat (m - 1 - i) else (i : Int)), 0, 0, 0⟩) →
      Ev (fun k => cellarref7_Put.l0 k m (List.replicate m z74) 0 big ptr p n b o) (putL big m p n b o) := by
    intro g hl hg
    suffices H : ∀ i : Int, 0 ≤ i → i ≤ m → Ev (fun k => cellarref7_Put.l0 k m (fillL g i.toNat m) i big ptr p n b o) (putL big m p n b o) by
      have := H 0 (by omega) (by omega)
      rwa [show (0 : Int).toNat = 0 from rfl, fill_none] at this
    refine down (Q := fun i => Ev (fun k => cellarref7_Put.l0 k m (fillL g i.toNat m) i big ptr p n b o) (putL big m p n b o)) ?_ ?_
    · refine Ev.step (fun k => by rw [cellarref7_Put.l0]) ?_
      refine Ev.neg (by omega) ?_
      rw [Int.toNat_natCast, fill_all, hl]
      exact Ev.now _
    intro i i0 i1 ih
    obtain ⟨j, rfl⟩ := Int.eq_ofNat_of_zero_le i0
    have hj : j < m := by omega
    rw [show ((j : Int) + 1).toNat = j + 1 by omega, ← fill_set g j m hj, hg j] at ih
    have hlen := fill_len g j m (by omega)
    rw [Int.toNat_natCast]
    have J : ∀ x : Int, 0 ≤ x → x < 4 → (p = false → x = if big = true then Int.ofNat (m - 1 - j) else (j : Int)) → Ev (fun k => cellarref7_Put.j1 k m (fillL g j m) j x big ptr p n b o) (putL big m p n b o) := by
      intro x x0 x1 hx
      refine Ev.step (fun k => by rw [cellarref7_Put.j1]) ?_
      refine Ev.pos (by rw [w64 (by omega) (by omega)]; omega) (Ev.pos i0 ?_)
      refine Ev.pos (by rw [hlen]; exact i1) (Ev.bindS rfl ?_)
      rw [Int.toNat_natCast, w64 (z := (j : Int) + 1) (by omega) (by omega)]
      cases p with
      | true =>
        refine Ev.pos rfl (Ev.bindS rfl ?_)
        rw [if_pos rfl] at ih
        by_cases c : b > 0
        · rw [if_pos c] at ih
          refine Ev.pos c ?_
          rw [List.set_set, List.set_set]
          exact ih
        · rw [if_neg c] at ih
          refine Ev.neg c ?_
          rw [List.set_set]
          exact ih
      | false =>
        refine Ev.neg (by decide) ?_
        rw [if_neg (by decide), ← hx rfl] at ih
        exact ih
    refine Ev.step (fun k => by rw [cellarref7_Put.l0]) ?_
    refine Ev.pos i1 ?_
    cases big with
    | true =>
      refine Ev.pos rfl ?_
      rw [w64 (z := (m : Int) - 1) (by omega) (by omega), w64 (by omega) (by omega)]
      refine J _ (by omega) (by omega) fun _ => ?_
      rw [if_pos rfl]
      show _ = ((m - 1 - j : Nat) : Int)
      omega
    | false =>
      refine Ev.neg (by decide) ?_
      exact J _ (by omega) (by omega) fun _ => by rw [if_neg (by decide)]
  exact key _ rfl fun i => rfl
theorem ref_b (x : S74) : cellarref7_Byte.f x.f0 x.f1 x.f2 x.f3 x.f4 = some (isB x) := by
  unfold cellarref7_Byte.f isB
  simp only [num_le, btw, Option.bind_some]
  by_cases h0 : x.f0 = 0
  · rw [if_pos h0]
    congr 1
    rw [Bool.eq_iff_iff]
    simp [h0]
  · rw [if_neg h0]
    by_cases h1 : x.f0 = 1
    · rw [if_pos h1]
      by_cases c : 0 ≤ x.f1 ∧ x.f1 ≤ 255
      · rw [if_pos (decide_eq_true c)]
        by_cases c2 : x.f2 = 0
        · rw [if_pos c2]
          by_cases c3 : x.f3 = 0
          · rw [if_pos c3]
            congr 1
            rw [Bool.eq_iff_iff]
            simp [h1, c, c2, c3]
          · rw [if_neg c3]
            congr 1
            symm
            rw [decide_eq_false_iff_not]
            omega
        · rw [if_neg c2]
          congr 1
          symm
          rw [decide_eq_false_iff_not]
          omega
      · rw [if_neg (by simpa using c)]
        congr 1
        symm
        rw [decide_eq_false_iff_not]
        omega
    · rw [if_neg h1]
      by_cases h2 : x.f0 = 2
      · rw [if_pos h2]
        by_cases c1 : x.f1 = 0
        · rw [if_pos c1]
          by_cases c2 : 1 ≤ x.f2 ∧ x.f2 ≤ 32
          · rw [if_pos (decide_eq_true c2)]
            by_cases c4 : 0 ≤ x.f3 ∧ x.f3 ≤ 32
            · rw [if_pos (decide_eq_true c4)]
              congr 1
              rw [decide_eq_decide]
              omega
            · rw [if_neg (by simpa using c4)]
              congr 1
              symm
              rw [decide_eq_false_iff_not]
              omega
          · rw [if_neg (by simpa using c2)]
            congr 1
            symm
            rw [decide_eq_false_iff_not]
            omega
        · rw [if_neg c1]
          congr 1
          symm
          rw [decide_eq_false_iff_not]
          omega
      · rw [if_neg h2]
        congr 1
        symm
        rw [decide_eq_false_iff_not]
        omega
theorem ref_s (k : Nat) (kind : Int) (p : Bool) (n b o : Int) : cellarref7_Scalar.f (k + 2) kind p n b o = some (mayS kind p n b o) := by
  unfold cellarref7_Scalar.f mayS
  simp only [num_le, Option.bind_some]
  by_cases h7 : kind = 7
  · rw [if_pos h7, if_pos h7]
    cases p with
    | true =>
      rw [if_pos rfl]
      by_cases c1 : n = 0
      · rw [if_pos c1]
        by_cases c2 : 0 ≤ b ∧ b ≤ 32
        · rw [if_pos (decide_eq_true c2)]
          by_cases c3 : 0 ≤ o ∧ o ≤ 32
          · rw [if_pos (decide_eq_true c3)]
            by_cases c4 : b > 0
            · rw [if_pos c4]
              congr 1
              symm
              rw [decide_eq_true_iff]
              exact ⟨rfl, c1, c2, c3, .inl c4⟩
            · rw [if_neg c4]
              congr 1
              rw [Bool.eq_iff_iff]
              simp [c1, c2, c3]
              omega
          · rw [if_neg (by simpa using c3)]
            congr 1
            symm
            rw [decide_eq_false_iff_not]
            omega
        · rw [if_neg (by simpa using c2)]
          congr 1
          symm
          rw [decide_eq_false_iff_not]
          omega
      · rw [if_neg c1]
        congr 1
        symm
        rw [decide_eq_false_iff_not]
        omega
    | false => simp
  · rw [if_neg h7, if_neg h7]
    by_cases hk : 1 ≤ kind ∧ kind ≤ 6
    · obtain ⟨w, hh, P, s, K⟩ := kd_of kind hk.1 hk.2
      have w1 := K.w1
      rw [K.wd, K.of, Option.bind_some, if_pos (by omega)]
      cases p with
      | true => simp
      | false =>
        rw [if_neg (by decide), Option.bind_some, K.number]
        simp only [Option.getD_some, K.s1]
        by_cases d : b = 0
        · rw [if_pos d]
          by_cases e : o = 0
          · rw [if_pos e, Option.bind_some]
            congr 1
            rw [decide_eq_decide]
            constructor
            · intro c
              exact ⟨hk, trivial, c, d, e⟩
            · intro c
              exact c.2.2.1
          · rw [if_neg e]
            congr 1
            symm
            rw [decide_eq_false_iff_not]
            omega
        · rw [if_neg d]
          congr 1
          symm
          rw [decide_eq_false_iff_not]
          omega
    · rw [no_kind kind (by omega), Option.bind_some, if_neg (by decide)]
      congr 1
      symm
      rw [decide_eq_false_iff_not]
      omega
def blkOK (b : S76) : Bool := decide (0 ≤ b.f0 ∧ b.f0 ≤ 3 ∧ b.f1.length ≤ 32 ∧ (b.f0 = 1 ∨ b.f1.length = 0)) && b.f1.all isB
theorem any_not (l : List S74) : api_Byte_122.f l 123 = some (!(l.all isB)) := by
  unfold api_Byte_122.f
  rw [if_pos rfl, any_some (f := fun x => !isB x) (fun x => by unfold mem_block_1.f; rw [is_b]; rfl)]
  congr 1
  rw [List.not_all_eq_any_not]
theorem block_f (b : S76) : mem_block.f b.f0 b.f1 = some (blkOK b) := by
  unfold mem_block.f blkOK
  rw [any_not]
  simp only [Option.bind_some, Bool.not_not]
  by_cases a : b.f0 < 0
  · rw [if_pos a, decide_eq_false (by omega), Bool.false_and]
  rw [if_neg a]
  by_cases c : b.f0 > 3
  · rw [if_pos c, decide_eq_false (by omega), Bool.false_and]
  rw [if_neg c]
  by_cases d : (b.f1.length : Int) > 32
  · rw [if_pos d, decide_eq_false (by omega), Bool.false_and]
  rw [if_neg d]
  by_cases e : b.f0 = 1
  · rw [if_pos e, decide_eq_true (by omega), Bool.true_and]
  rw [if_neg e]
  by_cases g : (b.f1.length : Int) > 0
  · rw [if_pos g, decide_eq_false (by omega), Bool.false_and]
  · rw [if_neg g, decide_eq_true (by omega), Bool.true_and]
def memOK (m : List S76) : Bool := decide (1 ≤ m.length ∧ m.length ≤ 33 ∧ (rd_T76 m 0).f0 = 0) && m.all blkOK
theorem may_m (m : List S76) : mem_May.f m = some (memOK m) := by
  unfold mem_May.f memOK
  by_cases a : (m.length : Int) < 1
  · rw [if_pos a, decide_eq_false (by omega), Bool.false_and]
  rw [if_neg a]
  by_cases c : (m.length : Int) > 33
  · rw [if_pos c, decide_eq_false (by omega), Bool.false_and]
  rw [if_neg c, if_pos (by omega)]
  by_cases d : (rd_T76 m 0).f0 = 0
  · rw [if_pos d, decide_eq_true (by omega), Bool.true_and]
    unfold api_Block_107.f
    rw [if_pos rfl, any_some (f := fun x => !blkOK x) (fun x => by unfold mem_May_1.f; rw [block_f]; rfl), Option.bind_some, ← List.not_all_eq_any_not, Bool.not_not]
  · rw [if_neg d, decide_eq_false (by omega), Bool.false_and]
theorem bytes_all (l : List S74) (hl : l.length ≤ 1000000) : Ev (fun k => cellarref7_Bytes.f k l) (l.all isB) := by
  have key : ∀ i : Int, 0 ≤ i → i ≤ l.length → Ev (fun k => cellarref7_Bytes.l0 k l i) ((l.drop i.toNat).all isB) := by
    refine down (Q := fun i => Ev (fun k => cellarref7_Bytes.l0 k l i) ((l.drop i.toNat).all isB)) ?_ ?_
    · refine Ev.step (fun k => by rw [cellarref7_Bytes.l0]) ?_
      rw [Int.toNat_natCast, List.drop_length]
      exact Ev.neg (by omega) (Ev.now _)
    intro i i0 i1 ih
    obtain ⟨n, rfl⟩ := Int.eq_ofNat_of_zero_le i0
    have hn : n < l.length := by omega
    rw [show ((n : Int) + 1).toNat = n + 1 by omega] at ih
    rw [Int.toNat_natCast, List.drop_eq_getElem_cons hn, List.all_cons]
    refine Ev.step (fun k => by rw [cellarref7_Bytes.l0]) ?_
    refine Ev.pos i1 (Ev.pos i0 ?_)
    rw [rd_get l n hn]
    refine Ev.bindS (ref_b _) ?_
    cases h : isB l[n] with
    | true =>
      refine Ev.pos rfl ?_
      rw [w64 (z := (n : Int) + 1) (by omega) (by omega), Bool.true_and]
      exact ih
    | false => exact Ev.neg (by decide) (Ev.now _)
  exact key 0 (by omega) (by omega)
theorem rd_getT (l : List S76) (i : Nat) (h : i < l.length) : rd_T76 l (i : Int) = l[i] := by
  unfold rd_T76
  simp [List.getD_eq_getElem?_getD, List.getElem?_eq_getElem h]
theorem ref_mem (m : List S76) (hl : m.length ≤ 1000000000000000000) : Ev (fun k => cellarref7_Mem.f k m) (memOK m) := by
  have key : ∀ i : Int, 0 ≤ i → i ≤ m.length → Ev (fun k => cellarref7_Mem.l0 k m i) ((m.drop i.toNat).all blkOK) := by
    refine down (Q := fun i => Ev (fun k => cellarref7_Mem.l0 k m i) ((m.drop i.toNat).all blkOK)) ?_ ?_
    · refine Ev.step (fun k => by rw [cellarref7_Mem.l0]) ?_
      rw [Int.toNat_natCast, List.drop_length]
      exact Ev.neg (by omega) (Ev.now _)
    intro i i0 i1 ih
    obtain ⟨n, rfl⟩ := Int.eq_ofNat_of_zero_le i0
    have hn : n < m.length := by omega
    rw [show ((n : Int) + 1).toNat = n + 1 by omega] at ih
    rw [Int.toNat_natCast, List.drop_eq_getElem_cons hn, List.all_cons]
    refine Ev.step (fun k => by rw [cellarref7_Mem.l0]) ?_
    refine Ev.pos i1 (Ev.pos i0 ?_)
    rw [rd_getT m n hn, w64 (z := (n : Int) + 1) (by omega) (by omega)]
    refine Ev.bindS (num_le _ _) ?_
    generalize m[n] = b
    unfold blkOK
    by_cases a : 0 ≤ b.f0 ∧ b.f0 ≤ 3
    · refine Ev.pos (decide_eq_true a) ?_
      by_cases d : (b.f1.length : Int) > 32
      · rw [decide_eq_false (by omega), Bool.false_and, Bool.false_and]
        exact Ev.pos d (Ev.now _)
      refine Ev.neg d ?_
      have J : ∀ q : Bool, q = true → Ev (fun k => (cellarref7_Bytes.f k b.f1).bind fun t => if t = true then cellarref7_Mem.l0 k m ((n : Int) + 1) else some false) (q && b.f1.all isB && (m.drop (n + 1)).all blkOK) := by
        rintro q rfl
        rw [Bool.true_and]
        refine Ev.bind (bytes_all b.f1 (by omega)) ?_
        cases b.f1.all isB with
        | true =>
          rw [Bool.true_and]
          exact Ev.pos rfl ih
        | false => exact Ev.neg (by decide) (Ev.now _)
      by_cases e : b.f0 = 1
      · exact Ev.pos e (J _ (decide_eq_true (by omega)))
      · refine Ev.neg e ?_
        by_cases g : (b.f1.length : Int) > 0
        · rw [decide_eq_false (by omega), Bool.false_and, Bool.false_and]
          exact Ev.pos g (Ev.now _)
        · exact Ev.neg g (J _ (decide_eq_true (by omega)))
    · rw [show decide (0 ≤ b.f0 ∧ b.f0 ≤ 3 ∧ b.f1.length ≤ 32 ∧ (b.f0 = 1 ∨ b.f1.length = 0)) = false from decide_eq_false (by omega), Bool.false_and, Bool.false_and]
      exact Ev.neg (by simpa using a) (Ev.now _)
  unfold cellarref7_Mem.f memOK
  refine Ev.bindS (btw _ _ _) ?_
  by_cases a : (1 : Int) ≤ m.length ∧ (m.length : Int) ≤ 33
  · refine Ev.pos (decide_eq_true a) (Ev.pos (by omega) ?_)
    refine Ev.step (fun k => by rw [cellarref7_Mem.j0]) ?_
    by_cases d : (rd_T76 m 0).f0 = 0
    · rw [decide_eq_true (by omega), Bool.true_and]
      exact Ev.neg (by rw [d]; decide) (key 0 (by omega) (by omega))
    · rw [decide_eq_false (by omega), Bool.false_and]
      exact Ev.pos (by simpa using d) (Ev.now _)
  · rw [show decide (1 ≤ m.length ∧ m.length ≤ 33 ∧ (rd_T76 m 0).f0 = 0) = false from decide_eq_false (by omega), Bool.false_and]
    refine Ev.neg (by simpa using a) ?_
    refine Ev.step (fun k => by rw [cellarref7_Mem.j0]) ?_
    exact Ev.pos rfl (Ev.now _)
def thereB (m : List S76) (p : Bool) (n b o : Int) : Bool := mayS 7 p n b o && decide (b < (m.length : Int))
theorem there_f (m : List S76) (p : Bool) (n b o : Int) : mem_there.f m p n b o = some (thereB m p n b o) := by
  unfold mem_there.f thereB
  rw [may_s, Option.bind_some]
  cases mayS 7 p n b o with
  | true => rfl
  | false => rfl
theorem ref_ptr (m : List S76) (p : Bool) (n b o : Int) : Ev (fun k => cellarref7_Pointer.f k m p n b o) (thereB m p n b o) := by
  unfold cellarref7_Pointer.f thereB
  refine Ev.bind (Ev.plus 2 fun k => ref_s k 7 p n b o) ?_
  cases mayS 7 p n b o with
  | true => exact Ev.pos rfl (Ev.now _)
  | false => exact Ev.neg (by decide) (Ev.now _)
theorem asked_f (big : Bool) (ptr : Int) (m : List S76) (p : Bool) (n b o kind : Int) :
    mem_asked.f big ptr m p n b o kind = some (decide (ptr = 2 ∨ ptr = 4) && (memOK m && (thereB m p n b o && decide (1 ≤ kind ∧ kind ≤ 7)))) := by
  unfold mem_asked.f
  rw [amay, may_m, there_f, ascalar]
  simp only [Option.bind_some]
  cases decide (ptr = 2 ∨ ptr = 4) <;> cases memOK m <;> cases thereB m p n b o <;> rfl
theorem way_f (big : Bool) (ptr : Int) (m : List S76) (p : Bool) (n b o kind : Int) (hp : ptr = 2 ∨ ptr = 4) (hk : 1 ≤ kind ∧ kind ≤ 7) (b0 : 0 ≤ b) (b1 : b < (m.length : Int)) (o0 : 0 ≤ o) (o1 : o ≤ 32) :
    ∃ w, mem_Way.f big ptr m p n b o kind = some w ∧ (∀ k, cellarref7_reach.f (k + 2) big ptr m p n b o kind = some w) ∧ (w = 0 → o + sizev ptr kind ≤ ((rd_T76 m b).f1.length : Int)) := by
  have hs := size_small ptr kind hp hk
  have e : wrap64 (o + sizev ptr kind) = o + sizev ptr kind := w64 (by omega) (by omega)
  unfold mem_Way.f cellarref7_reach.f
  simp only [abytes big ptr kind hk, rsize _ big ptr kind hk, Option.bind_some, if_pos b0, if_pos b1, e]
  by_cases a : (rd_T76 m b).f0 = 1
  · simp only [if_pos a]
    by_cases c : o + sizev ptr kind > ((rd_T76 m b).f1.length : Int)
    · exact ⟨1, by rw [if_pos c], fun _ => by rw [if_pos c], fun h => absurd h (by decide)⟩
    · simp only [if_neg c, if_neg (show ¬ sizev ptr kind = 0 by omega)]
      by_cases d : Int.tmod o (sizev ptr kind) = 0
      · exact ⟨0, by rw [if_pos d], fun _ => by rw [if_pos d], fun _ => by omega⟩
      · exact ⟨3, by rw [if_neg d], fun _ => by rw [if_neg d], fun h => absurd h (by decide)⟩
  · exact ⟨2, by rw [if_neg a], fun _ => by rw [if_neg a], fun h => absurd h (by decide)⟩
theorem copy_ev (l : List S74) (hl : l.length < 3518437208883) : Ev (fun k => cellarref0_CopyBytes.f k l) l := by
  have key : ∀ i : Int, 0 ≤ i → i ≤ l.length → Ev (fun k => cellarref0_CopyBytes.l0 k l (l.take i.toNat) i) l := by
    refine down (Q := fun i => Ev (fun k => cellarref0_CopyBytes.l0 k l (l.take i.toNat) i) l) ?_ ?_
    · refine Ev.step (fun k => by rw [cellarref0_CopyBytes.l0]) ?_
      refine Ev.neg (by omega) (Ev.val ?_)
      rw [Int.toNat_natCast, List.take_length]
    intro i i0 i1 ih
    refine Ev.step (fun k => by rw [cellarref0_CopyBytes.l0]) ?_
    refine Ev.pos i1 (Ev.pos i0 ?_)
    refine Ev.pos (by rw [List.length_take]; omega) ?_
    obtain ⟨n, rfl⟩ := Int.eq_ofNat_of_zero_le i0
    have hn : n < l.length := by omega
    rw [show ((n : Int) + 1).toNat = n + 1 by omega] at ih
    rw [w64 (z := (n : Int) + 1) (by omega) (by omega), rd_get l n hn, Int.toNat_natCast, List.take_append_getElem hn]
    exact ih
  exact key 0 (by omega) (by omega)
theorem copy_blks (m : List S76) (hl : m.length < 4398046511104) (hb : ∀ b ∈ m, b.f1.length < 3518437208883) : Ev (fun k => cellarref0_CopyBlocks.f k m) m := by
  have key : ∀ i : Int, 0 ≤ i → i ≤ m.length → Ev (fun k => cellarref0_CopyBlocks.l0 k m (m.take i.toNat) i) m := by
    refine down (Q := fun i => Ev (fun k => cellarref0_CopyBlocks.l0 k m (m.take i.toNat) i) m) ?_ ?_
    · refine Ev.step (fun k => by rw [cellarref0_CopyBlocks.l0]) ?_
      refine Ev.neg (by omega) (Ev.val ?_)
      rw [Int.toNat_natCast, List.take_length]
    intro i i0 i1 ih
    obtain ⟨n, rfl⟩ := Int.eq_ofNat_of_zero_le i0
    have hn : n < m.length := by omega
    rw [show ((n : Int) + 1).toNat = n + 1 by omega] at ih
    refine Ev.step (fun k => by rw [cellarref0_CopyBlocks.l0]) ?_
    refine Ev.pos i1 (Ev.pos i0 ?_)
    rw [rd_getT m n hn, Int.toNat_natCast]
    have hcb : Ev (fun k => cellarref0_CopyBlock.f k m[n].f0 m[n].f1) (m[n].f0, m[n].f1) := by
      unfold cellarref0_CopyBlock.f
      exact Ev.bind (copy_ev _ (hb _ (List.getElem_mem hn))) (Ev.now _)
    refine Ev.bind hcb ?_
    refine Ev.pos (by rw [List.length_take]; omega) ?_
    rw [w64 (z := (n : Int) + 1) (by omega) (by omega), show m.take n ++ [(⟨(m[n].f0, m[n].f1).1, (m[n].f0, m[n].f1).2⟩ : S76)] = m.take (n + 1) from List.take_append_getElem hn]
    exact ih
  exact key 0 (by omega) (by omega)
theorem eqb_self (l : List S74) (hl : l.length < 3518437208883) : Ev (fun k => cellarref0_EqBytes.f k l l) true := by
  have key : ∀ i : Int, 0 ≤ i → i ≤ l.length → Ev (fun k => cellarref0_EqBytes.l0 k l l i) true := by
    refine down (Q := fun i => Ev (fun k => cellarref0_EqBytes.l0 k l l i) true) ?_ ?_
    · refine Ev.step (fun k => by rw [cellarref0_EqBytes.l0]) ?_
      exact Ev.neg (by omega) (Ev.now _)
    intro i i0 i1 ih
    refine Ev.step (fun k => by rw [cellarref0_EqBytes.l0]) ?_
    refine Ev.pos i1 (Ev.pos i0 (Ev.pos i1 (Ev.neg (by simp) ?_)))
    rw [w64 (z := i + 1) (by omega) (by omega)]
    exact ih
  unfold cellarref0_EqBytes.f
  exact Ev.pos rfl (key 0 (by omega) (by omega))
theorem eqs_self (m : List S76) (hl : m.length < 4398046511104) (hb : ∀ b ∈ m, b.f1.length < 3518437208883) : Ev (fun k => cellarref0_EqBlocks.f k m m) true := by
  have key : ∀ i : Int, 0 ≤ i → i ≤ m.length → Ev (fun k => cellarref0_EqBlocks.l0 k m m i) true := by
    refine down (Q := fun i => Ev (fun k => cellarref0_EqBlocks.l0 k m m i) true) ?_ ?_
    · refine Ev.step (fun k => by rw [cellarref0_EqBlocks.l0]) ?_
      exact Ev.neg (by omega) (Ev.now _)
    intro i i0 i1 ih
    obtain ⟨n, rfl⟩ := Int.eq_ofNat_of_zero_le i0
    have hn : n < m.length := by omega
    refine Ev.step (fun k => by rw [cellarref0_EqBlocks.l0]) ?_
    refine Ev.pos i1 (Ev.pos i0 (Ev.pos i1 ?_))
    rw [rd_getT m n hn]
    have heb : Ev (fun k => cellarref0_EqBlock.f k m[n].f0 m[n].f1 m[n].f0 m[n].f1) true := by
      unfold cellarref0_EqBlock.f
      exact Ev.pos rfl (Ev.bind (eqb_self _ (hb _ (List.getElem_mem hn))) (Ev.now _))
    refine Ev.bind heb (Ev.pos rfl ?_)
    rw [w64 (z := (n : Int) + 1) (by omega) (by omega)]
    exact ih
  unfold cellarref0_EqBlocks.f
  exact Ev.pos rfl (key 0 (by omega) (by omega))
theorem weight_ev (m : List S76) (hl : m.length < 4398046511104) (hb : ∀ b ∈ m, b.f1.length < 3518437208883) : ∃ r, Ev (fun k => cellarlaw0_BlocksWeight.f k m) r ∧ 0 ≤ r ∧ r ≤ 1000000000000000 := by
  have key : ∀ i : Int, 0 ≤ i → i ≤ m.length → ∀ x : Int, 0 ≤ x → x ≤ 1000000000000000 → ∃ r, Ev (fun k => cellarlaw0_BlocksWeight.l0 k m x i) r ∧ 0 ≤ r ∧ r ≤ 1000000000000000 := by
    refine down (Q := fun i => ∀ x : Int, 0 ≤ x → x ≤ 1000000000000000 → ∃ r, Ev (fun k => cellarlaw0_BlocksWeight.l0 k m x i) r ∧ 0 ≤ r ∧ r ≤ 1000000000000000) ?_ ?_
    · intro x x0 x1
      exact ⟨x, Ev.step (fun k => by rw [cellarlaw0_BlocksWeight.l0]) (Ev.neg (by omega) (Ev.now _)), x0, x1⟩
    intro i i0 i1 ih x x0 x1
    by_cases c : x < 1048576
    · obtain ⟨n, rfl⟩ := Int.eq_ofNat_of_zero_le i0
      have hn : n < m.length := by omega
      have h1 := hb _ (List.getElem_mem hn)
      obtain ⟨r, h, r0, r1⟩ := ih (x + (m[n].f1.length : Int)) (by omega) (by omega)
      refine ⟨r, Ev.step (fun k => by rw [cellarlaw0_BlocksWeight.l0]) (Ev.pos i1 (Ev.pos c (Ev.pos i0 ?_))), r0, r1⟩
      rw [rd_getT m n hn, w64 (z := (n : Int) + 1) (by omega) (by omega), w64 (z := x + (m[n].f1.length : Int)) (by omega) (by omega)]
      exact h
    · exact ⟨x, Ev.step (fun k => by rw [cellarlaw0_BlocksWeight.l0]) (Ev.pos i1 (Ev.neg c (Ev.now _))), x0, x1⟩
  exact key 0 (by omega) (by omega) _ (by omega) (by omega)
theorem rd_getL (l : List (List S76)) (i : Nat) (h : i < l.length) : rd_L4 l (i : Int) = l[i] := by
  unfold rd_L4
  simp [List.getD_eq_getElem?_getD, List.getElem?_eq_getElem h]
section
variable (M : List (List S76)) (S : List S62) (N : List Int) (A : List S29) (hM : M.length ≤ 140737488351232) (hMm : ∀ m ∈ M, m.length < 4398046511104 ∧ ∀ b ∈ m, b.f1.length < 3518437208883) (hS : S.length ≤ 4398046510976) (hN : N.length ≤ 140737488351232) (hA : A.length ≤ 8796093021952)
include hM hMm hS hN hA
theorem heavy_ev : ∃ b, Ev (fun k => cellarlaw9_Heavy.f k M S N A) b := by
  have key : ∀ i : Int, 0 ≤ i → i ≤ M.length → ∀ x : Int, 0 ≤ x → x ≤ 4000000000000000 → ∃ r, Ev (fun k => cellarlaw9_Heavy.l0 k x i M S N A) r := by
    refine down (Q := fun i => ∀ x : Int, 0 ≤ x → x ≤ 4000000000000000 → ∃ r, Ev (fun k => cellarlaw9_Heavy.l0 k x i M S N A) r) ?_ ?_
    · intro x x0 x1
      exact ⟨_, Ev.step (fun k => by rw [cellarlaw9_Heavy.l0]) (Ev.neg (by omega) (Ev.now _))⟩
    intro i i0 i1 ih x x0 x1
    by_cases c : x < 1048576
    · obtain ⟨n, rfl⟩ := Int.eq_ofNat_of_zero_le i0
      have hn : n < M.length := by omega
      have h1 := hMm _ (List.getElem_mem hn)
      obtain ⟨t, ht, t0, t1⟩ := weight_ev M[n] h1.1 h1.2
      obtain ⟨r, h⟩ := ih (x + t) (by omega) (by omega)
      refine ⟨r, Ev.step (fun k => by rw [cellarlaw9_Heavy.l0]) (Ev.pos i1 (Ev.pos c (Ev.pos i0 ?_)))⟩
      rw [rd_getL M n hn]
      refine Ev.bind ht ?_
      rw [w64 (z := (n : Int) + 1) (by omega) (by omega), w64 (z := x + t) (by omega) (by omega)]
      exact h
    · exact ⟨_, Ev.step (fun k => by rw [cellarlaw9_Heavy.l0]) (Ev.pos i1 (Ev.neg c (Ev.now _)))⟩
  unfold cellarlaw9_Heavy.f
  rw [w64 (z := (S.length : Int) + N.length) (by omega) (by omega), w64 (by omega) (by omega)]
  exact key 0 (by omega) (by omega) _ (by omega) (by omega)
theorem machines_of : ∃ ms, cellarlaw8_Machines.f A = some ms ∧ 1 ≤ ms.length ∧ ms.length ≤ 6 := by
  have _uhM := hM; have _uhMm := hMm; have _uhS := hS; have _uhN := hN
  unfold cellarlaw8_Machines.f
  rw [Option.bind_some, if_pos (by simp; omega), Option.bind_some]
  split
  · split
    · exact ⟨_, rfl, by rw [List.length_take]; simp; omega, by rw [List.length_take]; omega⟩
    · omega
  · exact ⟨_, rfl, by simp, by omega⟩
theorem ptrs_ev (m : List S76) : ∃ L, Ev (fun k => cellarlaw9_pointers.f k M S N A m) L ∧ L.length ≤ 40 := by
  have _uhM := hM; have _uhMm := hMm; have _uhN := hN; have _uhA := hA
  have key : ∀ i : Int, 1 ≤ i → i ≤ 7 → ∀ L : List S62, (L.length : Int) ≤ 4 + 3 * i → ∃ L', Ev (fun k => cellarlaw9_pointers.l0 k m L i M S N A) L' ∧ L'.length ≤ 40 := by
    refine down (Q := fun i => ∀ L : List S62, (L.length : Int) ≤ 4 + 3 * i → ∃ L', Ev (fun k => cellarlaw9_pointers.l0 k m L i M S N A) L' ∧ L'.length ≤ 40) ?_ ?_
    · intro L hL
      refine ⟨L, Ev.step (fun k => by rw [cellarlaw9_pointers.l0]) ?_, by omega⟩
      exact Ev.cond (fun _ => Ev.neg (by omega) (Ev.now _)) (fun _ => Ev.now _)
    intro i i0 i1 ih L hL
    by_cases c : i < (m.length : Int)
    · obtain ⟨L', h, hl⟩ := ih (L ++ ([(⟨true, 0, i, 0⟩ : S62), (⟨true, 0, i, mn (((rd_T76 m i).f1).length : Int) 32⟩ : S62), (⟨true, 0, i, Int.tmod (wrap64 ((wrap64 (i * 3)) + (N.length : Int))) 9⟩ : S62)] : List S62)) (by rw [List.length_append]; simp; omega)
      refine ⟨L', ?_, hl⟩
      refine Ev.step (fun k => by rw [cellarlaw9_pointers.l0]) ?_
      refine Ev.pos c (Ev.pos i1 (Ev.pos (by omega) (Ev.bindS rfl (Ev.pos ?_ ?_))))
      · show L.length + 3 < 4398046511104
        omega
      rw [w64 (z := i + 1) (by omega) (by omega)]
      exact h
    · exact ⟨L, Ev.step (fun k => by rw [cellarlaw9_pointers.l0]) (Ev.neg c (Ev.now _)), by omega⟩
  have J : ∀ L : List S62, L.length ≤ 7 → ∃ L', Ev (fun k => cellarlaw9_pointers.j0 k m L M S N A) L' ∧ L'.length ≤ 40 := by
    intro L hL
    obtain ⟨L', h, hl⟩ := key 1 (by omega) (by omega) L (by omega)
    exact ⟨L', Ev.step (fun k => by rw [cellarlaw9_pointers.j0]) h, hl⟩
  unfold cellarlaw9_pointers.f
  by_cases c : ((([(⟨true, 0, 0, 0⟩ : S62), (⟨true, 0, 50, 0⟩ : S62)] : List S62) ++ S).length : Int) > 7
  · obtain ⟨L', h, hl⟩ := J ((([(⟨true, 0, 0, 0⟩ : S62), (⟨true, 0, 50, 0⟩ : S62)] : List S62) ++ S).take (7 : Int).toNat) (by rw [List.length_take]; omega)
    refine ⟨L', ?_, hl⟩
    refine Ev.bindS rfl (Ev.pos ?_ (Ev.bindS rfl (Ev.pos c (Ev.pos (by omega) h))))
    show 2 + S.length < 4398046511104
    omega
  · obtain ⟨L', h, hl⟩ := J (([(⟨true, 0, 0, 0⟩ : S62), (⟨true, 0, 50, 0⟩ : S62)] : List S62) ++ S) (by omega)
    refine ⟨L', ?_, hl⟩
    refine Ev.bindS rfl (Ev.pos ?_ (Ev.bindS rfl (Ev.neg c h)))
    show 2 + S.length < 4398046511104
    omega
end
theorem there_of (m : List S76) (p : Bool) (n b o : Int) (h : thereB m p n b o = true) : p = true ∧ 0 ≤ b ∧ b ≤ 32 ∧ b < (m.length : Int) ∧ 0 ≤ o ∧ o ≤ 32 := by
  unfold thereB at h
  rw [Bool.and_eq_true, decide_eq_true_eq] at h
  rcases put_of 7 p n b o h.1 with h' | h'
  · exact ⟨h'.2.1, h'.2.2.2.1, h'.2.2.2.2.1, h.2, h'.2.2.2.2.2.1, h'.2.2.2.2.2.2.1⟩
  · omega
/-- What goes wrong where a scalar is. -/
def wayV (m : List S76) (b o sz : Int) : Int := if (rd_T76 m b).f0 = 1 then (if o + sz > ((rd_T76 m b).f1.length : Int) then 1 else if Int.tmod o sz = 0 then 0 else 3) else 2
theorem way_q (big : Bool) (ptr : Int) (m : List S76) (p : Bool) (n b o kind : Int) (hp : ptr = 2 ∨ ptr = 4) (hk : 1 ≤ kind ∧ kind ≤ 7) (b0 : 0 ≤ b) (b1 : b < (m.length : Int)) (o0 : 0 ≤ o) (o1 : o ≤ 32) :
    mem_Way.f big ptr m p n b o kind = some (wayV m b o (sizev ptr kind)) := by
  have hs := size_small ptr kind hp hk
  have e : wrap64 (o + sizev ptr kind) = o + sizev ptr kind := w64 (by omega) (by omega)
  unfold mem_Way.f wayV
  simp only [abytes big ptr kind hk, Option.bind_some, if_pos b0, if_pos b1, e]
  by_cases a : (rd_T76 m b).f0 = 1
  · simp only [if_pos a]
    by_cases c : o + sizev ptr kind > ((rd_T76 m b).f1.length : Int)
    · simp only [if_pos c]
    · simp only [if_neg c, if_neg (show ¬ sizev ptr kind = 0 by omega)]
      by_cases d : Int.tmod o (sizev ptr kind) = 0
      · simp only [if_pos d]
      · simp only [if_neg d]
  · simp only [if_neg a]
/-- What is known of memory that may be. -/
theorem mem_of (m : List S76) (h : memOK m = true) : (1 ≤ m.length ∧ m.length ≤ 33 ∧ (rd_T76 m 0).f0 = 0) ∧ ∀ x ∈ m, blkOK x = true := by
  unfold memOK at h
  rw [Bool.and_eq_true, List.all_eq_true] at h
  exact ⟨of_decide_eq_true h.1, h.2⟩
theorem blk_of (x : S76) (h : blkOK x = true) : (0 ≤ x.f0 ∧ x.f0 ≤ 3 ∧ x.f1.length ≤ 32 ∧ (x.f0 = 1 ∨ x.f1.length = 0)) ∧ ∀ y ∈ x.f1, isB y = true := by
  unfold blkOK at h
  rw [Bool.and_eq_true, List.all_eq_true] at h
  exact ⟨of_decide_eq_true h.1, h.2⟩
theorem rd_mem (m : List S76) (b : Int) (b0 : 0 ≤ b) (b1 : b < (m.length : Int)) : rd_T76 m b ∈ m := by
  obtain ⟨i, rfl⟩ := Int.eq_ofNat_of_zero_le b0
  rw [rd_getT m i (by omega)]
  exact List.getElem_mem _
/-- A block written over. -/
def over (x : S76) (o : Int) (Y : List S74) : S76 := ⟨x.f0, x.f1.take o.toNat ++ Y ++ x.f1.drop (o.toNat + Y.length)⟩
section
variable (big : Bool) (ptr : Int) (m : List S76) (p : Bool) (n b o kind : Int) (p' : Bool) (n' b' o' : Int)
theorem store_bad (h : ¬ ((ptr = 2 ∨ ptr = 4) ∧ memOK m = true ∧ thereB m p n b o = true ∧ mayS kind p' n' b' o' = true)) : Ev (fun k => mem_Store.f k big ptr m p n b o kind p' n' b' o') ([], 0, 1) := by
  unfold mem_Store.f
  refine Ev.bindS (asked_f big ptr m p n b o kind) ?_
  refine Ev.cond (fun ha => ?_) (fun _ => Ev.now _)
  refine Ev.bindS (may_s kind p' n' b' o') (Ev.neg (fun hs => h ?_) (Ev.now _))
  rw [Bool.and_eq_true, Bool.and_eq_true, Bool.and_eq_true, decide_eq_true_eq] at ha
  exact ⟨ha.1, ha.2.1, ha.2.2.1, hs⟩
variable (hp : ptr = 2 ∨ ptr = 4) (hm : memOK m = true) (hk : 1 ≤ kind ∧ kind ≤ 7) (hs : mayS kind p' n' b' o' = true)
include hp hm hk hs
theorem store_ev (ht : thereB m p n b o = true) : Ev (fun k => mem_Store.f k big ptr m p n b o kind p' n' b' o')
    (if wayV m b o (sizev ptr kind) = 0 then m.set b.toNat (over (rd_T76 m b) o (putL big (sizev ptr kind).toNat p' n' b' o')) else m, wayV m b o (sizev ptr kind), 0) := by
  obtain ⟨_, b0, _, b2, o0, o1⟩ := there_of m p n b o ht
  have hz := size_small ptr kind hp hk
  have hmm := mem_of m hm
  have hlen := put_len big (sizev ptr kind).toNat p' n' b' o'
  unfold mem_Store.f
  refine Ev.bindS (asked_f big ptr m p n b o kind) (Ev.pos ?_ (Ev.bindS (may_s kind p' n' b' o') (Ev.pos hs (Ev.pos (by omega) (Ev.pos ?_ ?_)))))
  · rw [decide_eq_true hp, hm, ht, decide_eq_true hk]
    rfl
  · rw [List.all_eq_true]
    intro x hx
    have := (blk_of x (hmm.2 x hx)).1
    exact decide_eq_true (by omega)
  have L : Ev (fun k => mem_Lay.f k big ptr m p n b o kind p' n' b' o') (if wayV m b o (sizev ptr kind) = 0 then m.set b.toNat (over (rd_T76 m b) o (putL big (sizev ptr kind).toNat p' n' b' o')) else m, wayV m b o (sizev ptr kind)) := by
    unfold mem_Lay.f
    refine Ev.bindS (way_q big ptr m p n b o kind hp hk b0 b2 o0 o1) ?_
    by_cases w : wayV m b o (sizev ptr kind) = 0
    · simp only [if_pos w]
      have w' := w
      unfold wayV at w'
      have hw : o + sizev ptr kind ≤ ((rd_T76 m b).f1.length : Int) := by
        split at w'
        · split at w'
          · omega
          · omega
        · omega
      refine Ev.pos b0 (Ev.pos b2 (Ev.pos o0 (Ev.bind (spell_ev big ptr kind p' n' b' o' hp hs) (Ev.pos (by omega) (Ev.pos (by omega) ?_)))))
      exact Ev.now _
    · simp only [if_neg w]
      exact Ev.now _
  exact Ev.bind L (Ev.now _)
end
theorem over_none (x : S76) (o : Int) : over x o [] = x := by
  unfold over
  rw [List.append_nil, List.length_nil, Nat.add_zero, List.take_append_drop]
theorem set_over (x : S76) (o : Int) (Y : List S74) (i : Nat) (o0 : 0 ≤ o) (hi : i < Y.length) (h : o + (Y.length : Int) ≤ (x.f1.length : Int)) :
    (⟨(over x o (Y.take i)).f0, (over x o (Y.take i)).f1.set (o + (i : Int)).toNat Y[i]⟩ : S76) = over x o (Y.take (i + 1)) := by
  have hl : (Y.take i).length = i := by rw [List.length_take]; omega
  have hl1 : (Y.take (i + 1)).length = i + 1 := by rw [List.length_take]; omega
  obtain ⟨oo, rfl⟩ := Int.eq_ofNat_of_zero_le o0
  have e1 : ((oo : Int) + (i : Int)).toNat = oo + i := by omega
  have e2 : Y.take (i + 1) = Y.take i ++ [Y[i]] := by rw [List.take_append_getElem]
  unfold over
  simp only [hl, hl1, Int.toNat_natCast, e1]
  congr 1
  rw [List.drop_eq_getElem_cons (i := oo + i) (by omega), set_mid (x.f1.take oo ++ Y.take i) _ _ _ (oo + i) (by rw [List.length_append, List.length_take, hl]; omega), e2, List.append_assoc, List.append_assoc, List.append_assoc]
  rfl
theorem over_len (x : S76) (o : Int) (Y : List S74) (o0 : 0 ≤ o) (h : o + (Y.length : Int) ≤ (x.f1.length : Int)) : (over x o Y).f1.length = x.f1.length := by
  show (x.f1.take o.toNat ++ Y ++ x.f1.drop (o.toNat + Y.length)).length = _
  rw [List.length_append, List.length_append, List.length_take, List.length_drop]
  omega
theorem rd_same (m : List S76) (b : Int) (v : S76) (b0 : 0 ≤ b) (b1 : b < (m.length : Int)) : rd_T76 (m.set b.toNat v) b = v := by
  unfold rd_T76
  rw [List.getD_eq_getElem?_getD, List.getElem?_set_self (by omega)]
  rfl
theorem set_rd (m : List S76) (b : Int) (b0 : 0 ≤ b) (b1 : b < (m.length : Int)) : m.set b.toNat (rd_T76 m b) = m := by
  obtain ⟨i, rfl⟩ := Int.eq_ofNat_of_zero_le b0
  rw [rd_getT m i (by omega), Int.toNat_natCast]
  exact List.set_getElem_self _
theorem rstore_run (m : List S76) (Y : List S74) (p : Bool) (n b o : Int) (b0 : 0 ≤ b) (b1 : b < (m.length : Int)) (o0 : 0 ≤ o) (o1 : o ≤ 32) (hY : Y.length ≤ 4) (h : o + (Y.length : Int) ≤ ((rd_T76 m b).f1.length : Int)) :
    ∀ i : Int, 0 ≤ i → i ≤ Y.length → Ev (fun k => cellarref7_Store.l0 k (m.set b.toNat (over (rd_T76 m b) o (Y.take i.toNat))) Y i p n b o) (m.set b.toNat (over (rd_T76 m b) o Y), 0) := by
  refine down (Q := fun i => Ev (fun k => cellarref7_Store.l0 k (m.set b.toNat (over (rd_T76 m b) o (Y.take i.toNat))) Y i p n b o) (m.set b.toNat (over (rd_T76 m b) o Y), 0)) ?_ ?_
  · refine Ev.step (fun k => by rw [cellarref7_Store.l0]) (Ev.neg (by omega) ?_)
    rw [Int.toNat_natCast, List.take_of_length_le (Nat.le_refl _)]
    exact Ev.now _
  intro i i0 i1 ih
  obtain ⟨j, rfl⟩ := Int.eq_ofNat_of_zero_le i0
  have hj : j < Y.length := by omega
  have e : wrap64 (o + (j : Int)) = o + j := w64 (by omega) (by omega)
  have hr := rd_same m b (over (rd_T76 m b) o (Y.take j)) b0 b1
  have hlen : (over (rd_T76 m b) o (Y.take j)).f1.length = (rd_T76 m b).f1.length := over_len _ o _ o0 (by rw [List.length_take]; omega)
  rw [Int.toNat_natCast]
  refine Ev.step (fun k => by rw [cellarref7_Store.l0]) ?_
  refine Ev.pos i1 (Ev.pos b0 (Ev.pos (by rw [List.length_set]; exact b1) (Ev.pos i0 ?_)))
  rw [hr, e]
  refine Ev.pos (by omega) (Ev.pos (by rw [hlen]; omega) ?_)
  have hs := set_over (rd_T76 m b) o Y j o0 hj h
  have hg : (⟨(rd_T74 Y (j : Int)).f0, (rd_T74 Y (j : Int)).f1, (rd_T74 Y (j : Int)).f2, (rd_T74 Y (j : Int)).f3, (rd_T74 Y (j : Int)).f4⟩ : S74) = Y[j] := by rw [rd_get Y j hj]
  rw [hg, hs, List.set_set, w64 (z := (j : Int) + 1) (by omega) (by omega)]
  rwa [show ((j : Int) + 1).toNat = j + 1 by omega] at ih
section
variable (big : Bool) (ptr : Int) (m : List S76) (p : Bool) (n b o kind : Int) (p' : Bool) (n' b' o' : Int)
  (hp : ptr = 2 ∨ ptr = 4) (hm : memOK m = true) (hk : 1 ≤ kind ∧ kind ≤ 7) (hs : mayS kind p' n' b' o' = true)
include hp hm hk hs
theorem fits (hw : wayV m b o (sizev ptr kind) = 0) : o + sizev ptr kind ≤ ((rd_T76 m b).f1.length : Int) := by
  have _u1 := hp; have _u2 := hm; have _u3 := hk; have _u4 := hs
  unfold wayV at hw
  split at hw
  · split at hw
    · omega
    · omega
  · omega
theorem rstore_ev (ht : thereB m p n b o = true) : Ev (fun k => cellarref7_Store.f k big ptr m p n b o kind p' n' b' o')
    (if wayV m b o (sizev ptr kind) = 0 then m.set b.toNat (over (rd_T76 m b) o (putL big (sizev ptr kind).toNat p' n' b' o')) else m, wayV m b o (sizev ptr kind)) := by
  have ht' := ht
  unfold thereB mayS at ht'
  rw [if_pos rfl, Bool.and_eq_true, decide_eq_true_eq, decide_eq_true_eq] at ht'
  obtain ⟨⟨_, _, ⟨b0, _⟩, ⟨o0, o1⟩, _⟩, b1⟩ := ht'
  have hz := size_small ptr kind hp hk
  have hmm := mem_of m hm
  have hlen := put_len big (sizev ptr kind).toNat p' n' b' o'
  have hc := copy_blks m (by omega) (fun x hx => by have := (blk_of x (hmm.2 x hx)).1; omega)
  obtain ⟨w, hw, hr, _⟩ := way_f big ptr m p n b o kind hp hk b0 b1 o0 o1
  have ew : w = wayV m b o (sizev ptr kind) := Option.some.inj (hw.symm.trans (way_q big ptr m p n b o kind hp hk b0 b1 o0 o1))
  subst ew
  unfold cellarref7_Store.f
  refine Ev.bind (Ev.plus 2 hr) ?_
  by_cases w0 : wayV m b o (sizev ptr kind) = 0
  · have hf := fits ptr m b o kind p' n' b' o' hp hm hk hs w0
    rw [if_pos w0, w0]
    refine Ev.pos rfl (Ev.bind hc (Ev.bind (rput_ev big ptr kind p' n' b' o' hp hs) ?_))
    have := rstore_run m (putL big (sizev ptr kind).toNat p' n' b' o') p n b o b0 b1 o0 o1 (by omega) (by omega) 0 (by omega) (by omega)
    rwa [show (0 : Int).toNat = 0 from rfl, List.take_zero, over_none, set_rd m b b0 b1] at this
  · rw [if_neg w0]
    exact Ev.neg w0 (Ev.bind hc (Ev.now _))
/-- What is stored has the memory's sizes. -/
theorem store_lens (ht : thereB m p n b o = true) (X : List S76) (hX : X = if wayV m b o (sizev ptr kind) = 0 then m.set b.toNat (over (rd_T76 m b) o (putL big (sizev ptr kind).toNat p' n' b' o')) else m) : X.length < 4398046511104 ∧ ∀ x ∈ X, x.f1.length < 3518437208883 := by
  have ht' := ht
  unfold thereB mayS at ht'
  rw [if_pos rfl, Bool.and_eq_true, decide_eq_true_eq, decide_eq_true_eq] at ht'
  obtain ⟨⟨_, _, ⟨b0, _⟩, ⟨o0, o1⟩, _⟩, b1⟩ := ht'
  have hz := size_small ptr kind hp hk
  have hmm := mem_of m hm
  have hlen := put_len big (sizev ptr kind).toNat p' n' b' o'
  have hb : ∀ x ∈ m, x.f1.length < 3518437208883 := fun x hx => by have := (blk_of x (hmm.2 x hx)).1; omega
  subst hX
  by_cases w0 : wayV m b o (sizev ptr kind) = 0
  · have hf := fits ptr m b o kind p' n' b' o' hp hm hk hs w0
    rw [if_pos w0]
    refine ⟨by rw [List.length_set]; omega, fun x hx => ?_⟩
    rcases List.mem_or_eq_of_mem_set hx with hx | hx
    · exact hb x hx
    · rw [hx, over_len _ o _ o0 (by omega)]
      exact hb _ (rd_mem m b b0 b1)
  · rw [if_neg w0]
    exact ⟨by omega, hb⟩
end
section
variable (M : List (List S76)) (S : List S62) (N : List Int) (A : List S29)
variable (ms : List S29) (h1 : 1 ≤ ms.length) (h6 : ms.length ≤ 6) (i : Int) (m : List S76) (i0 : 0 ≤ i) (i1 : i < (M.length : Int)) (him : rd_L4 M i = m) (hml : m.length < 4398046511104) (hmb : ∀ b ∈ m, b.f1.length < 3518437208883)
variable (ps : List S62) (hps : ps.length ≤ 40) (x : Int) (x0 : 0 ≤ x) (x1 : x < (ps.length : Int))
include h1 h6 i0 i1 him hml hmb hps x0 x1
theorem vals_ev (kind : Int) (k0 : 0 ≤ kind) (k1 : kind ≤ 7) (big : Bool) (ptr : Int) (vs : List S62) (hvs : (vs.length : Int) ≤ 4398046511104) (nx : Ev (fun k => cellarlaw9_MemStores.l2 k ms i m (memOK m) ps x (kind + 1) M S N A) true) :
    ∀ j : Int, 0 ≤ j → j ≤ vs.length → Ev (fun k => cellarlaw9_MemStores.l3 k ms i m (memOK m) ps x kind vs j M S N A big ptr) true := by
  have _u1 := h1; have _u6 := h6; have _up := hps
  have E : ∀ j, Ev (fun k => cellarlaw9_MemStores.j5 k ms i m (memOK m) ps x kind vs j false M S N A big ptr) true := by
    intro j
    refine Ev.step (fun k => by rw [cellarlaw9_MemStores.j5]) (Ev.neg (by decide) ?_)
    rw [w64 (z := kind + 1) (by omega) (by omega)]
    exact nx
  refine down (Q := fun j => Ev (fun k => cellarlaw9_MemStores.l3 k ms i m (memOK m) ps x kind vs j M S N A big ptr) true) ?_ ?_
  · exact Ev.step (fun k => by rw [cellarlaw9_MemStores.l3]) (Ev.neg (by omega) (E _))
  intro j j0 j1 ih
  refine Ev.step (fun k => by rw [cellarlaw9_MemStores.l3]) (Ev.pos j1 ?_)
  by_cases c4 : j < 4
  case neg =>
    rw [decide_eq_false c4]
    exact E _
  rw [decide_eq_true c4]
  have self := eqs_self m hml hmb
  have J7 : ∀ (X : List S76) (bad e : Int), (e = 0 ∨ e = 1) → X.length < 4398046511104 → (∀ b ∈ X, b.f1.length < 3518437208883) → Ev (fun k => cellarlaw9_MemStores.j7 k ms i m (memOK m) ps x kind vs j X bad e e bad X M S N A big ptr) true := by
    intro X bad e he hX hXb
    refine Ev.step (fun k => by rw [cellarlaw9_MemStores.j7]) ?_
    refine Ev.bindS (show cellarlaw9_num.f e = some e by rcases he with rfl | rfl <;> rfl) (Ev.pos rfl (Ev.bind (eqs_self X hX hXb) (Ev.pos rfl (Ev.pos rfl (Ev.pos i0 (Ev.pos i1 ?_))))))
    rw [him]
    refine Ev.bind self ?_
    refine Ev.step (fun k => by rw [cellarlaw9_MemStores.j8]) ?_
    refine Ev.neg (by simp) ?_
    refine Ev.bindS rfl (Ev.pos i0 (Ev.pos i1 ?_))
    rw [him]
    refine Ev.bind self (Ev.pos rfl ?_)
    rw [w64 (z := j + 1) (by omega) (by omega)]
    exact ih
  have N7 : ∀ X bad e, X = [] → bad = 0 → e = 1 → Ev (fun k => cellarlaw9_MemStores.j6 k ms i m (memOK m) ps x kind vs j X bad e 1 0 ([] : List S76) false M S N A big ptr) true := by
    intro X bad e hX hbad he
    subst hX hbad he
    refine Ev.step (fun k => by rw [cellarlaw9_MemStores.j6]) (Ev.neg (by decide) ?_)
    exact J7 [] 0 1 (.inr rfl) (by simp) (fun b hb => by cases hb)
  refine Ev.step (fun k => by rw [cellarlaw9_MemStores.j5]) ?_
  refine Ev.pos rfl (Ev.pos x0 (Ev.pos x1 (Ev.pos j0 (Ev.pos j1 ?_))))
  generalize hs : rd_T62 ps x = s
  generalize hv : rd_T62 vs j = v
  have B := store_bad big ptr m s.f0 s.f1 s.f2 s.f3 kind v.f0 v.f1 v.f2 v.f3
  by_cases hm : memOK m = true
  case neg => exact Ev.bind (B (fun h => hm h.2.1)) (Ev.neg hm (N7 _ _ _ rfl rfl rfl))
  by_cases hp : ptr = 2 ∨ ptr = 4
  case neg => exact Ev.bind (B (fun h => hp h.1)) (Ev.pos hm (Ev.bindS (rabi _ _) (Ev.neg (by simpa using hp) (N7 _ _ _ rfl rfl rfl))))
  have hpa : decide (ptr = 2 ∨ ptr = 4) = true := decide_eq_true hp
  have rs : Ev (fun k => cellarref7_Scalar.f k kind v.f0 v.f1 v.f2 v.f3) (mayS kind v.f0 v.f1 v.f2 v.f3) := Ev.plus 2 fun k => ref_s k kind _ _ _ _
  by_cases hsc : mayS kind v.f0 v.f1 v.f2 v.f3 = true
  case neg => exact Ev.bind (B (fun h => hsc h.2.2.2)) (Ev.pos hm (Ev.bindS (rabi _ _) (Ev.pos hpa (Ev.bind rs (Ev.neg hsc (N7 _ _ _ rfl rfl rfl))))))
  have hk : 1 ≤ kind ∧ kind ≤ 7 := by rcases put_of kind _ _ _ _ hsc with ⟨e, _⟩ | ⟨e, _⟩ <;> omega
  by_cases ht : thereB m s.f0 s.f1 s.f2 s.f3 = true
  case neg =>
    refine Ev.bind (B (fun h => ht h.2.2.1)) (Ev.pos hm (Ev.bindS (rabi _ _) (Ev.pos hpa (Ev.bind rs (Ev.pos hsc (Ev.bind (ref_ptr m _ _ _ _) ?_))))))
    rw [Bool.eq_false_iff.2 ht]
    exact N7 _ _ _ rfl rfl rfl
  have st := store_ev big ptr m s.f0 s.f1 s.f2 s.f3 kind v.f0 v.f1 v.f2 v.f3 hp hm hk hsc ht
  have rt := rstore_ev big ptr m s.f0 s.f1 s.f2 s.f3 kind v.f0 v.f1 v.f2 v.f3 hp hm hk hsc ht
  have ln := store_lens big ptr m s.f0 s.f1 s.f2 s.f3 kind v.f0 v.f1 v.f2 v.f3 hp hm hk hsc ht _ rfl
  generalize (if wayV m s.f2 s.f3 (sizev ptr kind) = 0 then m.set s.f2.toNat (over (rd_T76 m s.f2) s.f3 (putL big (sizev ptr kind).toNat v.f0 v.f1 v.f2 v.f3)) else m) = X at st rt ln
  refine Ev.bind st (Ev.pos hm (Ev.bindS (rabi _ _) (Ev.pos hpa (Ev.bind rs (Ev.pos hsc (Ev.bind (ref_ptr m _ _ _ _) ?_))))))
  rw [ht]
  refine Ev.step (fun k => by rw [cellarlaw9_MemStores.j6]) (Ev.pos rfl (Ev.pos x0 (Ev.pos x1 (Ev.pos j0 (Ev.pos j1 ?_)))))
  rw [hs, hv]
  exact Ev.bind rt (J7 X _ 0 (.inl rfl) ln.1 ln.2)
variable (hS : S.length ≤ 4398046510976)
include hS
theorem kinds_ev (nx : Ev (fun k => cellarlaw9_MemStores.l1 k ms i m (memOK m) ps (x + 1) M S N A) true) :
    ∀ kind : Int, 0 ≤ kind → kind ≤ 8 → Ev (fun k => cellarlaw9_MemStores.l2 k ms i m (memOK m) ps x kind M S N A) true := by
  refine down (Q := fun kind => Ev (fun k => cellarlaw9_MemStores.l2 k ms i m (memOK m) ps x kind M S N A) true) ?_ ?_
  · refine Ev.step (fun k => by rw [cellarlaw9_MemStores.l2]) (Ev.neg (by omega) ?_)
    rw [w64 (z := x + 1) (by omega) (by omega)]
    exact nx
  intro kind k0 k1 ih
  have t0 : 0 ≤ Int.tmod (wrap64 (x + kind)) (ms.length : Int) := Int.tmod_nonneg _ (by rw [w64 (by omega) (by omega)]; omega)
  have t1 : Int.tmod (wrap64 (x + kind)) (ms.length : Int) < (ms.length : Int) := Int.tmod_lt_of_pos _ (by omega)
  have s0 : 0 ≤ Int.tmod (wrap64 (x + 1)) (ps.length : Int) := Int.tmod_nonneg _ (by rw [w64 (by omega) (by omega)]; omega)
  have s1 : Int.tmod (wrap64 (x + 1)) (ps.length : Int) < (ps.length : Int) := Int.tmod_lt_of_pos _ (by omega)
  refine Ev.step (fun k => by rw [cellarlaw9_MemStores.l2]) ?_
  refine Ev.pos (by omega) (Ev.neg (by omega) (Ev.pos t0 (Ev.pos t1 (Ev.neg (by omega) (Ev.pos s0 (Ev.pos s1 (Ev.bindS rfl (Ev.pos ?_ ?_))))))))
  · show 2 + S.length < 4398046511104
    omega
  exact vals_ev M S N A ms h1 h6 i m i0 i1 him hml hmb ps hps x x0 x1 kind k0 (by omega) _ _ _ (by rw [List.length_append]; show ((2 + S.length : Nat) : Int) ≤ _; omega) ih 0 (by omega) (by omega)
end
section
variable (M : List (List S76)) (S : List S62) (N : List Int) (A : List S29)
variable (ms : List S29) (h1 : 1 ≤ ms.length) (h6 : ms.length ≤ 6)
include h1 h6
theorem wakes_ev : Ev (fun k => cellarlaw9_wakes.f k) true := by
  have _uh1 := h1; have _uh6 := h6
  refine Ev.plus 40 fun k => ?_
  kernel_rfl
variable (hM : M.length ≤ 140737488351232) (hMm : ∀ m ∈ M, m.length < 4398046511104 ∧ ∀ b ∈ m, b.f1.length < 3518437208883) (hS : S.length ≤ 4398046510976) (hN : N.length ≤ 140737488351232) (hA : A.length ≤ 8796093021952)
include hM hMm hS hN hA
theorem all_ev : ∀ i : Int, 0 ≤ i → i ≤ M.length → Ev (fun k => cellarlaw9_MemStores.l0 k ms i M S N A) true := by
  have fin : ∀ i, Ev (fun k => cellarlaw9_MemStores.j1 k ms i false M S N A) true := by
    intro i
    refine Ev.step (fun k => by rw [cellarlaw9_MemStores.j1]) ?_
    exact Ev.neg (by decide) (Ev.bind (wakes_ev ms h1 h6) (Ev.now _))
  refine down (Q := fun i => Ev (fun k => cellarlaw9_MemStores.l0 k ms i M S N A) true) ?_ ?_
  · exact Ev.step (fun k => by rw [cellarlaw9_MemStores.l0]) (Ev.neg (by omega) (fin _))
  intro i i0 i1 ih
  refine Ev.step (fun k => by rw [cellarlaw9_MemStores.l0]) ?_
  refine Ev.pos i1 ?_
  by_cases c : i < 5
  case neg =>
    rw [decide_eq_false c]
    exact fin _
  rw [decide_eq_true c]
  have hb : (rd_L4 M i).length < 4398046511104 ∧ ∀ b ∈ rd_L4 M i, b.f1.length < 3518437208883 := by
    obtain ⟨n, rfl⟩ := Int.eq_ofNat_of_zero_le i0
    rw [rd_getL M n (by omega)]
    exact hMm _ (List.getElem_mem _)
  generalize hm : rd_L4 M i = m at hb
  obtain ⟨ps, hps, hpl⟩ := ptrs_ev M S N A hM hMm hS hN hA m
  refine Ev.step (fun k => by rw [cellarlaw9_MemStores.j1]) ?_
  refine Ev.pos rfl (Ev.pos i0 (Ev.pos i1 ?_))
  rw [hm]
  refine Ev.bind (copy_blks m hb.1 hb.2) (Ev.bind (ref_mem m (by omega)) (Ev.bind hps ?_))
  have L1 : ∀ x : Int, 0 ≤ x → x ≤ ps.length → Ev (fun k => cellarlaw9_MemStores.l1 k ms i m (memOK m) ps x M S N A) true := by
    refine down (Q := fun x => Ev (fun k => cellarlaw9_MemStores.l1 k ms i m (memOK m) ps x M S N A) true) ?_ ?_
    · refine Ev.step (fun k => by rw [cellarlaw9_MemStores.l1]) (Ev.neg (by omega) ?_)
      rw [w64 (z := i + 1) (by omega) (by omega)]
      exact ih
    intro x x0 x1 ihx
    refine Ev.step (fun k => by rw [cellarlaw9_MemStores.l1]) ?_
    refine Ev.pos x1 ?_
    exact kinds_ev M S N A ms h1 h6 i m i0 i1 hm hb.1 hb.2 ps hpl x x0 x1 hS ihx 0 (by omega) (by omega)
  exact L1 0 (by omega) (by omega)
end
theorem stores_true (M : List (List S76)) (S : List S62) (N : List Int) (A : List S29) (hM : M.length ≤ 140737488351232) (hMm : ∀ m ∈ M, m.length < 4398046511104 ∧ ∀ b ∈ m, b.f1.length < 3518437208883) (hS : S.length ≤ 4398046510976) (hN : N.length ≤ 140737488351232) (hA : A.length ≤ 8796093021952) :
    Ev (fun k => cellarlaw9_MemStores.f k M S N A) true := by
  unfold cellarlaw9_MemStores.f
  obtain ⟨b, hb⟩ := heavy_ev M S N A hM hMm hS hN hA
  refine Ev.bind hb ?_
  cases b with
  | true => exact Ev.pos rfl (Ev.now _)
  | false =>
    refine Ev.neg (by decide) ?_
    obtain ⟨ms, hms, h1, h6⟩ := machines_of M S N A hM hMm hS hN hA
    exact Ev.bindS hms (all_ev M S N A ms h1 h6 hM hMm hS hN hA 0 (by omega) (by omega))
end Go.Proofs.Ytjoplkillkhiaaa.St
/- The pure statement of MemStores: over plain lists and numbers, for every argument in range the law's function answers true. -/
namespace Go.Proofs.Ytjoplkillkhiaaa.PureSt
open Go.RowKit Go.Proofs.YtjoplkillkhiaaaW.PrintWords Go.Proofs.Ytjoplkillkhiaaa.Evs Go.Proofs.Ytjoplkillkhiaaa.St
theorem MemStores (l0 : List (List S76)) (l1 : List S62) (l2 : List Int) (l3 : List S29) (h : Arg54 l0 l1 l2 l3) : ∃ k, cellarlaw9_MemStores.f k l0 l1 l2 l3 = some true :=
  Ev.at_ (stores_true l0 l1 l2 l3 (by have := h.1.1; omega) (fun m hm => by
    have a := h.1.2 m hm
    refine ⟨by have := a.1; omega, fun b hb => ?_⟩
    have c := (a.2 b hb).2.1
    omega) (by have := h.2.1.1; omega) (by have := h.2.2.1.1; omega) (by have := h.2.2.2.1; omega))
end Go.Proofs.Ytjoplkillkhiaaa.PureSt
