/- The arguments of this part's laws, opened: each slice as a list in the print's words, its length and its numbers in range. -/
import Derived.Test.YtjoplkillkhiaaaYOpen
import Derived.Test.YtjoplkillkhiaaaQ2x0
import Derived.Test.YtjoplkillkhiaaaQ2yz
import Derived.Test.YtjoplkillkhiaaaYFn
import Derived.Test.YtjoplkillkhiaaaYMore
import Derived.Test.YtjoplkillkhiaaaYEvs
namespace Go.Proofs.Ytjoplkillkhiaaa.Q2
open Go.RowKit Go.Proofs.YtjoplkillkhiaaaW.PrintWords Go.Proofs.Ytjoplkillkhiaaa.Op
set_option linter.unusedVariables false
set_option linter.unusedSimpArgs false
/-- In the range of i64. -/
def I_i64 (n : Int) : Prop := -9223372036854775808 ≤ n ∧ n ≤ 9223372036854775807
theorem opens_i64 {P : Program} {t : TypeId} (ht : P.underlying t = some (.int .i64)) (hc : P.cellsOf t = 1) : Opens P t (Kd.int .i64) I_i64 where
  cells := hc
  opens := by
    intro H enc w base spare held fuel cs x h hw
    obtain ⟨n, hK, hg⟩ := (opens_int ht hc).opens h hw
    refine ⟨n, hK, ?_⟩
    unfold I_i64
    simp [Lit.wf, IntKind.min, IntKind.max, IntKind.signed, IntKind.bits] at hg
    omega
/-- In the range of u8. -/
def I_u8 (n : Int) : Prop := 0 ≤ n ∧ n ≤ 255
theorem opens_u8 {P : Program} {t : TypeId} (ht : P.underlying t = some (.int .u8)) (hc : P.cellsOf t = 1) : Opens P t (Kd.int .u8) I_u8 where
  cells := hc
  opens := by
    intro H enc w base spare held fuel cs x h hw
    obtain ⟨n, hK, hg⟩ := (opens_int ht hc).opens h hw
    refine ⟨n, hK, ?_⟩
    unfold I_u8
    simp [Lit.wf, IntKind.min, IntKind.max, IntKind.signed, IntKind.bits] at hg
    omega
/-- A string that there is. -/
def GoodS (s : ByteArray) : Prop := s.size ≤ 140737488351232
theorem opens_str {P : Program} {t : TypeId} (ht : P.underlying t = some .string) (hc : P.cellsOf t = 1) : Opens P t Kd.string GoodS := opens_string ht hc
/-- A slice that there is: its elements of B bytes. -/
def GoodL {α : Type} (B : Nat) (good : α → Prop) (l : List α) : Prop := l.length * B ≤ 140737488351232 ∧ ∀ x ∈ l, good x
theorem opens_list {α : Type} {P : Program} {t e : TypeId} {d : Kd α} {good : α → Prop} {B : Nat} (ht : P.underlying t = some (.slice e)) (hc : P.cellsOf t = 1) (hB : P.bytesOf e = B) (he : Opens P e d good) : Opens P t (Kd.slice e d) (GoodL B good) := opens_slice ht hc hB he
def Good74 (x : S74) : Prop := I_i64 x.f0 ∧ I_i64 x.f1 ∧ I_i64 x.f2 ∧ I_i64 x.f3 ∧ I_i64 x.f4
theorem opens_74 : Opens Try.prog 74 k74 Good74 :=
  opens_struct (fun x : S74 => (x.f0, x.f1, x.f2, x.f3, x.f4)) (fun a => ⟨a.1, a.2.1, a.2.2.1, a.2.2.2.1, a.2.2.2.2⟩) (fun _ => rfl) Try.underlying74 (by kernel_rfl) (opensF_cons rfl (opens_i64 Try.underlying3 (by kernel_rfl)) (opensF_cons rfl (opens_i64 Try.underlying3 (by kernel_rfl)) (opensF_cons rfl (opens_i64 Try.underlying3 (by kernel_rfl)) (opensF_cons rfl (opens_i64 Try.underlying3 (by kernel_rfl)) (opensF_one rfl (opens_i64 Try.underlying3 (by kernel_rfl)))))))
def Good76 (x : S76) : Prop := I_i64 x.f0 ∧ (GoodL 40 Good74) x.f1
theorem opens_76 : Opens Try.prog 76 k76 Good76 :=
  opens_struct (fun x : S76 => (x.f0, x.f1)) (fun a => ⟨a.1, a.2⟩) (fun _ => rfl) Try.underlying76 (by kernel_rfl) (opensF_cons rfl (opens_i64 Try.underlying3 (by kernel_rfl)) (opensF_one rfl (opens_list Try.underlying72 (by kernel_rfl) (by kernel_rfl) opens_74)))
def Good62 (x : S62) : Prop := (fun _ : Bool => True) x.f0 ∧ I_i64 x.f1 ∧ I_i64 x.f2 ∧ I_i64 x.f3
theorem opens_62 : Opens Try.prog 62 k62 Good62 :=
  opens_struct (fun x : S62 => (x.f0, x.f1, x.f2, x.f3)) (fun a => ⟨a.1, a.2.1, a.2.2.1, a.2.2.2⟩) (fun _ => rfl) Try.underlying62 (by kernel_rfl) (opensF_cons rfl (opens_bool Try.underlying4 (by kernel_rfl)) (opensF_cons rfl (opens_i64 Try.underlying3 (by kernel_rfl)) (opensF_cons rfl (opens_i64 Try.underlying3 (by kernel_rfl)) (opensF_one rfl (opens_i64 Try.underlying3 (by kernel_rfl))))))
def Good29 (x : S29) : Prop := (fun _ : Bool => True) x.f0 ∧ I_i64 x.f1
theorem opens_29 : Opens Try.prog 29 k29 Good29 :=
  opens_struct (fun x : S29 => (x.f0, x.f1)) (fun a => ⟨a.1, a.2⟩) (fun _ => rfl) Try.underlying29 (by kernel_rfl) (opensF_cons rfl (opens_bool Try.underlying4 (by kernel_rfl)) (opensF_one rfl (opens_i64 Try.underlying3 (by kernel_rfl))))
/-- What is known of an argument of type 54 (cellar/cellarlaw9.Ask). -/
def Arg54 (l0_0 : (List (List S76))) (l0_1 : (List S62)) (l0_2 : (List Int)) (l0_3 : (List S29)) : Prop := ((GoodL 24 (GoodL 32 Good76)) l0_0 ∧ (GoodL 32 Good62) l0_1 ∧ (GoodL 8 I_i64) l0_2 ∧ (GoodL 16 Good29) l0_3)
set_option maxRecDepth 100000 in
theorem open_54 {H : Type} {enc : TypeId × Value → H} {W : World} {r : Reach} {b0 : Nat} {base : Nat} {spare : Nat → Bool} {held : Bool} {v : Value} {dd : DataW H} {ps : List MemPlace}
    (hv : Value.okWide Try.prog W r b0 54 v) (hd : DataW.Trod enc Try.prog W base spare held 54 v dd ps) (hw : ∀ n ∈ dd.weights Try.prog 54, n ≤ reachBytes) :
    ∃ (A0 : Option Addr) (c0 : Nat) (l0_0 : (List (List S76))) (A1 : Option Addr) (c1 : Nat) (l0_1 : (List S62)) (A2 : Option Addr) (c2 : Nat) (l0_2 : (List Int)) (A3 : Option Addr) (c3 : Nat) (l0_3 : (List S29)), v = .agg #[.slice A0 l0_0.length c0, .slice A1 l0_1.length c1, .slice A2 l0_2.length c2, .slice A3 l0_3.length c3] ∧ Kd.C (Kd.slice 76 k76) W A0 l0_0.length l0_0 ∧ l0_0.length ≤ c0 ∧ Kd.C k62 W A1 l0_1.length l0_1 ∧ l0_1.length ≤ c1 ∧ Kd.C (Kd.int .i64) W A2 l0_2.length l0_2 ∧ l0_2.length ≤ c2 ∧ Kd.C k29 W A3 l0_3.length l0_3 ∧ l0_3.length ≤ c3 ∧ Arg54 l0_0 l0_1 l0_2 l0_3 := by
  obtain ⟨cs, ⟨l0_0, l0_1, l0_2, l0_3⟩, rfl, hK, hg⟩ := open_arg (d := (Kd.pair (Kd.slice 57 (Kd.slice 76 k76)) (Kd.pair (Kd.slice 62 k62) (Kd.pair (Kd.slice 3 (Kd.int .i64)) (Kd.slice 29 k29))))) (good := fun x : ((List (List S76)) × (List S62) × (List Int) × (List S29)) => ((GoodL 24 (GoodL 32 Good76)) x.1 ∧ (GoodL 32 Good62) x.2.1 ∧ (GoodL 8 I_i64) x.2.2.1 ∧ (GoodL 16 Good29) x.2.2.2)) Try.underlying54 (by kernel_rfl) (opensF_cons rfl (opens_list Try.underlying51 (by kernel_rfl) (by kernel_rfl) (opens_list Try.underlying57 (by kernel_rfl) (by kernel_rfl) opens_76)) (opensF_cons rfl (opens_list Try.underlying52 (by kernel_rfl) (by kernel_rfl) opens_62) (opensF_cons rfl (opens_list Try.underlying25 (by kernel_rfl) (by kernel_rfl) (opens_i64 Try.underlying3 (by kernel_rfl))) (opensF_one rfl (opens_list Try.underlying22 (by kernel_rfl) (by kernel_rfl) opens_29))))) hv hd hw
  obtain ⟨_, _, hcs, ⟨A0, c0, rfl, hc0, hr0⟩, ⟨_, _, rfl, ⟨A1, c1, rfl, hc1, hr1⟩, ⟨_, _, rfl, ⟨A2, c2, rfl, hc2, hr2⟩, ⟨A3, c3, rfl, hc3, hr3⟩⟩⟩⟩ := hK
  refine ⟨A0, c0, l0_0, A1, c1, l0_1, A2, c2, l0_2, A3, c3, l0_3, ?_, hr0, hc0, hr1, hc1, hr2, hc2, hr3, hc3, hg⟩
  congr 1
  apply Array.ext'
  exact hcs
end Go.Proofs.Ytjoplkillkhiaaa.Q2
/- What was stored is loaded, and all else is as it was; what was moved there and back is the same. No Go and no memory in it. -/
namespace Go.Proofs.Ytjoplkillkhiaaa.Q2
open Go.RowKit Go.Proofs.Ytjoplkillkhiaaa.Fn Go.Proofs.YtjoplkillkhiaaaW.PrintWords Go.Proofs.YtjoplkillkhiaaaW.PrintLast Go.Proofs.YtjoplkillkhiaaaW.PrintMore Go.Proofs.Ytjoplkillkhiaaa.Evs
set_option linter.unusedVariables false
set_option linter.unusedSimpArgs false
theorem mask_nat (n : Int) (j : Nat) : ((BitVec.ofInt 64 n).toNat &&& (2 ^ j - 1) : Nat) = (n % 18446744073709551616).toNat % 2 ^ j := by
  rw [Nat.and_two_pow_sub_one_eq_mod, BitVec.toNat_ofInt]
  rfl
theorem mask_i64 (n : Int) (j : Nat) (m : Nat) (hm : m = 2 ^ j - 1) (hj : j ≤ 32) : Go.bits .and .i64 n (m : Int) = (((n % 18446744073709551616).toNat % 2 ^ j : Nat) : Int) := by
  have hp : 2 ^ j ≤ 2 ^ 32 := Nat.pow_le_pow_right (by decide) hj
  have h0 : 0 < 2 ^ j := Nat.two_pow_pos j
  have h1 : (n % 18446744073709551616).toNat % 2 ^ j < 2 ^ 32 := Nat.lt_of_lt_of_le (Nat.mod_lt _ h0) hp
  have e : (BitVec.ofInt 64 (m : Int)).toNat = m := by
    rw [BitVec.ofInt_natCast, BitVec.toNat_ofNat]
    exact Nat.mod_eq_of_lt (by omega)
  show IntKind.i64.wrap ((BitVec.ofInt 64 n &&& BitVec.ofInt 64 (m : Int)).toNat : Int) = _
  rw [BitVec.toNat_and, e, hm, mask_nat, IntKind.wrap_i64]
  omega
theorem mask8 (n : Int) : Go.bits .and .i64 n 255 = n % 256 := by
  have h := mask_i64 n 8 255 (by decide) (by decide)
  have e : ((255 : Nat) : Int) = 255 := rfl
  rw [e] at h
  rw [h]
  omega
theorem mask16 (n : Int) : Go.bits .and .i64 n 65535 = n % 65536 := by
  have h := mask_i64 n 16 65535 (by decide) (by decide)
  have e : ((65535 : Nat) : Int) = 65535 := rfl
  rw [e] at h
  rw [h]
  omega
theorem mask32 (n : Int) : Go.bits .and .i64 n 4294967295 = n % 4294967296 := by
  have h := mask_i64 n 32 4294967295 (by decide) (by decide)
  have e : ((4294967295 : Nat) : Int) = 4294967295 := rfl
  rw [e] at h
  rw [h]
  omega
/-- What is known of a kind of numbers: its width w, half of its numbers h, all of them P, its bytes b. -/
structure KD (kind w h P b : Int) : Prop where
  of : word_Of.f kind = some w
  isk : word_IsKind.f kind = some true
  w1 : 8 ≤ w
  w2 : w ≤ 32
  s1 : shl .i64 1 w = P
  s2 : shl .i64 1 (w - 1) = h
  PP : P = 2 * h
  h1 : 128 ≤ h
  h2 : h ≤ 2147483648
  msk : ∀ n, Go.bits .and .i64 n (P - 1) = n % P
  wb : wrap64 (Int.tdiv w 8) = b
  bb : (b = 1 ∧ P = 256) ∨ (b = 2 ∧ P = 65536) ∨ (b = 4 ∧ P = 4294967296)
  k7 : 1 ≤ kind ∧ kind ≤ 6
theorem kd_of (kind : Int) (h0 : 1 ≤ kind) (h1 : kind ≤ 6) : ∃ w h P b, KD kind w h P b := by
  have : kind = 1 ∨ kind = 2 ∨ kind = 3 ∨ kind = 4 ∨ kind = 5 ∨ kind = 6 := by omega
  rcases this with rfl | rfl | rfl | rfl | rfl | rfl
  · exact ⟨8, 128, 256, 1, by decide +kernel, by decide +kernel, by decide, by decide, by decide +kernel, by decide +kernel, by decide, by decide, by decide, mask8, by decide +kernel, .inl ⟨rfl, rfl⟩, by decide⟩
  · exact ⟨8, 128, 256, 1, by decide +kernel, by decide +kernel, by decide, by decide, by decide +kernel, by decide +kernel, by decide, by decide, by decide, mask8, by decide +kernel, .inl ⟨rfl, rfl⟩, by decide⟩
  · exact ⟨16, 32768, 65536, 2, by decide +kernel, by decide +kernel, by decide, by decide, by decide +kernel, by decide +kernel, by decide, by decide, by decide, mask16, by decide +kernel, .inr (.inl ⟨rfl, rfl⟩), by decide⟩
  · exact ⟨16, 32768, 65536, 2, by decide +kernel, by decide +kernel, by decide, by decide, by decide +kernel, by decide +kernel, by decide, by decide, by decide, mask16, by decide +kernel, .inr (.inl ⟨rfl, rfl⟩), by decide⟩
  · exact ⟨32, 2147483648, 4294967296, 4, by decide +kernel, by decide +kernel, by decide, by decide, by decide +kernel, by decide +kernel, by decide, by decide, by decide, mask32, by decide +kernel, .inr (.inr ⟨rfl, rfl⟩), by decide⟩
  · exact ⟨32, 2147483648, 4294967296, 4, by decide +kernel, by decide +kernel, by decide, by decide, by decide +kernel, by decide +kernel, by decide, by decide, by decide, mask32, by decide +kernel, .inr (.inr ⟨rfl, rfl⟩), by decide⟩
theorem no_isk (kind : Int) (h : kind < 1 ∨ 6 < kind) : word_IsKind.f kind = some false := by
  unfold word_IsKind.f
  by_cases h1 : kind ≥ 1
  · rw [if_pos h1]
    simp
    omega
  · rw [if_neg h1]
section
variable {kind w h P b : Int} (K : KD kind w h P b)
include K
theorem KD.pm : wrap64 (P - 1) = P - 1 := by have := K.PP; have := K.h1; have := K.h2; exact w64 (by omega) (by omega)
theorem KD.w0 : 0 ≤ w := by have := K.w1; omega
theorem KD.most : word_Most.f w = some (P - 1) := by
  unfold word_Most.f
  rw [if_pos K.w0, K.s1, K.pm]
theorem KD.is (n : Int) : word_Is.f n w = some (decide (0 ≤ n ∧ n < P)) := by
  unfold word_Is.f
  by_cases hn : n ≥ 0
  · rw [if_pos hn, K.most, Option.bind_some]
    congr 1
    rw [decide_eq_decide]
    omega
  · rw [if_neg hn]
    congr 1
    symm
    rw [decide_eq_false_iff_not]
    omega
end
theorem amay (b : Bool) (p : Int) : word_May.f b p = some (decide (p = 2 ∨ p = 4)) := by
  unfold word_May.f
  by_cases c : p = 2
  · simp [c]
  · by_cases d : p = 4
    · simp [d]
    · simp [c, d]
theorem num_le (n m : Int) : bytes_up.f n m = some (decide (0 ≤ n ∧ n ≤ m)) := by
  unfold bytes_up.f
  by_cases c : n ≥ 0
  · rw [if_pos c]
    congr 1
    rw [decide_eq_decide]
    omega
  · rw [if_neg c]
    congr 1
    symm
    rw [decide_eq_false_iff_not]
    omega
theorem up_le (n m : Int) : bytes_up.f n m = some (decide (0 ≤ n ∧ n ≤ m)) := num_le n m
/-- How many bytes a scalar has. -/
theorem ascalar (kind : Int) : word_IsScalar.f kind = some (decide (1 ≤ kind ∧ kind ≤ 7)) := by
  unfold word_IsScalar.f
  by_cases h : kind ≥ 1
  · rw [if_pos h]
    congr 1
    rw [decide_eq_decide]
    omega
  · rw [if_neg h]
    congr 1
    symm
    rw [decide_eq_false_iff_not]
    omega
def sizev (p kind : Int) : Int := if kind = 7 then p else wrap64 (Int.tdiv ((word_Of.f kind).getD 0) 8)
theorem abytes (b : Bool) (p kind : Int) (h : 1 ≤ kind ∧ kind ≤ 7) : word_Bytes.f b p kind = some (sizev p kind) := by
  unfold word_Bytes.f sizev
  by_cases e : kind = 7
  · rw [if_pos e, if_pos e]
  · obtain ⟨w, hh, P, s, K⟩ := kd_of kind (by omega) (by omega)
    rw [if_neg e, if_neg e, K.of]
    rfl
theorem size_small (p kind : Int) (hp : p = 2 ∨ p = 4) (h : 1 ≤ kind ∧ kind ≤ 7) : sizev p kind = 1 ∨ sizev p kind = 2 ∨ sizev p kind = 4 := by
  unfold sizev
  by_cases e : kind = 7
  · rw [if_pos e]
    omega
  · obtain ⟨w, hh, P, s, K⟩ := kd_of kind (by omega) (by omega)
    rw [if_neg e, K.of]
    show wrap64 (Int.tdiv w 8) = 1 ∨ wrap64 (Int.tdiv w 8) = 2 ∨ wrap64 (Int.tdiv w 8) = 4
    rw [K.wb]
    rcases K.bb with ⟨h, _⟩ | ⟨h, _⟩ | ⟨h, _⟩ <;> simp [h]
theorem KD.size {kind w h P b : Int} (K : KD kind w h P b) (p : Int) : sizev p kind = b := by
  have := K.k7
  unfold sizev
  rw [if_neg (by omega), K.of]
  exact K.wb
def isB (x : S74) : Bool := decide ((x.f0 = 0 ∧ x.f1 = 0 ∧ x.f2 = 0 ∧ x.f3 = 0 ∧ x.f4 = 0) ∨ (x.f0 = 1 ∧ (0 ≤ x.f1 ∧ x.f1 ≤ 255) ∧ x.f2 = 0 ∧ x.f3 = 0 ∧ x.f4 = 0) ∨ (x.f0 = 2 ∧ x.f1 = 0 ∧ (1 ≤ x.f2 ∧ x.f2 ≤ 32) ∧ (0 ≤ x.f3 ∧ x.f3 ≤ 32) ∧ 0 ≤ x.f4 ∧ x.f4 ≤ 3))
theorem is_b (x : S74) : bytes_Is.f x.f0 x.f1 x.f2 x.f3 x.f4 = some (isB x) := by
  unfold bytes_Is.f isB
  simp only [up_le, Option.bind_some]
  by_cases h0 : x.f0 = 0
  · rw [if_pos h0]
    congr 1
    rw [Bool.eq_iff_iff]
    simp [h0]
  · rw [if_neg h0]
    by_cases h1 : x.f0 = 1
    · rw [if_pos h1]
      by_cases c : 0 ≤ x.f1 ∧ x.f1 ≤ 255
      · rw [if_pos (decide_eq_true c)]
        congr 1
        rw [Bool.eq_iff_iff]
        simp [h1, c]
      · rw [if_neg (by simpa using c)]
        congr 1
        symm
        rw [decide_eq_false_iff_not]
        omega
    · rw [if_neg h1]
      by_cases h2 : x.f0 = 2
      · rw [if_pos h2]
        by_cases c1 : x.f1 = 0
        · rw [if_pos c1]
          by_cases c2 : x.f2 ≥ 1
          · rw [if_pos c2]
            by_cases c3 : x.f2 ≤ 32
            · rw [if_pos c3]
              by_cases c4 : 0 ≤ x.f3 ∧ x.f3 ≤ 32
              · rw [if_pos (decide_eq_true c4)]
                congr 1
                rw [decide_eq_decide]
                omega
              · rw [if_neg (by simpa using c4)]
                congr 1
                symm
                rw [decide_eq_false_iff_not]
                omega
            · rw [if_neg c3]
              congr 1
              symm
              rw [decide_eq_false_iff_not]
              omega
          · rw [if_neg c2]
            congr 1
            symm
            rw [decide_eq_false_iff_not]
            omega
        · rw [if_neg c1]
          congr 1
          symm
          rw [decide_eq_false_iff_not]
          omega
      · rw [if_neg h2]
        congr 1
        symm
        rw [decide_eq_false_iff_not]
        omega
def mayS (kind : Int) (p : Bool) (n b o : Int) : Bool :=
  if kind = 7 then decide (p = true ∧ n = 0 ∧ (0 ≤ b ∧ b ≤ 32) ∧ (0 ≤ o ∧ o ≤ 32) ∧ (0 < b ∨ o = 0))
  else decide ((1 ≤ kind ∧ kind ≤ 6) ∧ p = false ∧ (0 ≤ n ∧ n < shl .i64 1 ((word_Of.f kind).getD 0)) ∧ b = 0 ∧ o = 0)
theorem may_s (kind : Int) (p : Bool) (n b o : Int) : bytes_May.f kind p n b o = some (mayS kind p n b o) := by
  unfold bytes_May.f mayS
  by_cases hk : 1 ≤ kind ∧ kind ≤ 6
  · obtain ⟨w, hh, P, s, K⟩ := kd_of kind hk.1 hk.2
    rw [K.isk, Option.bind_some, if_pos rfl, if_neg (show ¬ kind = 7 by omega), K.of]
    cases p with
    | true => simp
    | false =>
      rw [if_neg (by decide), Option.bind_some, K.is, Option.bind_some]
      simp only [Option.getD_some, K.s1]
      by_cases c : 0 ≤ n ∧ n < P
      · rw [if_pos (decide_eq_true c)]
        by_cases d : b = 0
        · rw [if_pos d]
          congr 1
          rw [Bool.eq_iff_iff]
          simp [hk, c, d]
        · rw [if_neg d]
          congr 1
          symm
          rw [decide_eq_false_iff_not]
          omega
      · rw [if_neg (by simpa using c)]
        congr 1
        symm
        rw [decide_eq_false_iff_not]
        omega
  · rw [no_isk kind (by omega), Option.bind_some, if_neg (by decide)]
    simp only [up_le, Option.bind_some]
    by_cases h7 : kind = 7
    · rw [if_pos h7, if_pos h7]
      cases p with
      | true =>
        rw [if_pos rfl]
        by_cases c1 : n = 0
        · rw [if_pos c1]
          by_cases c2 : 0 ≤ b ∧ b ≤ 32
          · rw [if_pos (decide_eq_true c2)]
            by_cases c3 : 0 ≤ o ∧ o ≤ 32
            · rw [if_pos (decide_eq_true c3)]
              by_cases c4 : b > 0
              · rw [if_pos c4]
                congr 1
                symm
                rw [decide_eq_true_iff]
                exact ⟨rfl, c1, c2, c3, .inl c4⟩
              · rw [if_neg c4]
                congr 1
                rw [Bool.eq_iff_iff]
                simp [c1, c2, c3]
                omega
            · rw [if_neg (by simpa using c3)]
              congr 1
              symm
              rw [decide_eq_false_iff_not]
              omega
          · rw [if_neg (by simpa using c2)]
            congr 1
            symm
            rw [decide_eq_false_iff_not]
            omega
        · rw [if_neg c1]
          congr 1
          symm
          rw [decide_eq_false_iff_not]
          omega
      | false => simp
    · rw [if_neg h7, if_neg h7]
      congr 1
      symm
      rw [decide_eq_false_iff_not]
      omega
theorem set_mid {α : Type} (A B : List α) (z v : α) (i : Nat) (h : A.length = i) : (A ++ z :: B).set i v = A ++ v :: B := by
  subst h
  rw [List.set_append_right _ _ (Nat.le_refl _), Nat.sub_self]
  rfl
/-- The first i of n are told by g, the others are nothing yet. -/
def fillL (g : Nat → S74) (i n : Nat) : List S74 := (List.range i).map g ++ List.replicate (n - i) z74
theorem fill_len (g : Nat → S74) (i n : Nat) (h : i ≤ n) : (fillL g i n).length = n := by simp [fillL]; omega
theorem fill_set (g : Nat → S74) (i n : Nat) (h : i < n) : (fillL g i n).set i (g i) = fillL g (i + 1) n := by
  unfold fillL
  rw [show n - i = (n - (i + 1)) + 1 by omega, List.replicate_succ, set_mid _ _ _ _ _ (by simp), List.range_succ, List.map_append, List.append_assoc]
  rfl
theorem fill_all (g : Nat → S74) (n : Nat) : fillL g n n = (List.range n).map g := by simp [fillL]
theorem fill_none (g : Nat → S74) (n : Nat) : fillL g 0 n = List.replicate n z74 := by simp [fillL]
theorem rd_get (l : List S74) (i : Nat) (h : i < l.length) : rd_T74 l (i : Int) = l[i] := by
  unfold rd_T74
  simp [List.getD_eq_getElem?_getD, List.getElem?_eq_getElem h]
theorem ne_b (x : S74) (a b c d e : Int) : (!(x.f0 == a) || (!(x.f1 == b) || (!(x.f2 == c) || (!(x.f3 == d) || (!(x.f4 == e)))))) = true ↔ ¬ x = ⟨a, b, c, d, e⟩ := by
  obtain ⟨x0, x1, x2, x3, x4⟩ := x
  simp only [S74.mk.injEq, Bool.or_eq_true, Bool.not_eq_true', beq_eq_false_iff_ne, ne_eq]
  constructor
  · rintro h ⟨h0, h1, h2, h3, h4⟩
    rcases h with h | h | h | h | h
    · exact h h0
    · exact h h1
    · exact h h2
    · exact h h3
    · exact h h4
  · intro h
    by_cases h0 : x0 = a
    · by_cases h1 : x1 = b
      · by_cases h2 : x2 = c
        · by_cases h3 : x3 = d
          · exact .inr (.inr (.inr (.inr fun h4 => h ⟨h0, h1, h2, h3, h4⟩)))
          · exact .inr (.inr (.inr (.inl h3)))
        · exact .inr (.inr (.inl h2))
      · exact .inr (.inl h1)
    · exact .inl h0
def bt8 (n k : Int) : Int := Go.bits .and .i64 (shr .i64 n (wrap64 (8 * k))) 255
theorem bt8_range (n k : Int) : 0 ≤ bt8 n k ∧ bt8 n k ≤ 255 := by
  unfold bt8
  rw [mask8]
  omega
theorem bt8_zero (k : Int) : bt8 0 k = 0 := by
  unfold bt8 shr
  rw [mask8, Int.zero_ediv]
  rfl
theorem bt8_at (n : Int) (k : Nat) (hk : k < 4) : bt8 n k = n / 256 ^ k % 256 := by
  unfold bt8 shr
  rw [mask8]
  have : k = 0 ∨ k = 1 ∨ k = 2 ∨ k = 3 := by omega
  rcases this with rfl | rfl | rfl | rfl
  · rw [show wrap64 (8 * ((0 : Nat) : Int)) = 0 by decide +kernel]
    rfl
  · rw [show wrap64 (8 * ((1 : Nat) : Int)) = 8 by decide +kernel]
    rfl
  · rw [show wrap64 (8 * ((2 : Nat) : Int)) = 16 by decide +kernel]
    rfl
  · rw [show wrap64 (8 * ((3 : Nat) : Int)) = 24 by decide +kernel]
    rfl
/-- A scalar's bytes. -/
def putL (big : Bool) (sz : Nat) (p : Bool) (n b o : Int) : List S74 :=
  (List.range sz).map fun (i : Nat) => if p = true then (if b > 0 then ⟨2, 0, b, o, (i : Int)⟩ else ⟨1, 0, 0, 0, 0⟩) else ⟨1, bt8 n (if big = true then Int.ofNat (sz - 1 - i) else (i : Int)), 0, 0, 0⟩
theorem rev_some (k : Nat) (l : List S74) (h : l.length = 1 ∨ l.length = 2 ∨ l.length = 4) : api_Byte_118.f (k + 3) l = some l.reverse := by
  have e1 : wrap64 (0 + 1) = 1 := by decide +kernel
  have e2 : wrap64 (3 - 1) = 2 := by decide +kernel
  have e3 : wrap64 (1 + 1) = 2 := by decide +kernel
  have e4 : wrap64 (2 - 1) = 1 := by decide +kernel
  have e5 : wrap64 (1 - 1) = 0 := by decide +kernel
  have e6 : wrap64 (4 - 1) = 3 := by decide +kernel
  have e7 : wrap64 0 = 0 := by decide +kernel
  have e8 : wrap64 1 = 1 := by decide +kernel
  have e9 : wrap64 2 = 2 := by decide +kernel
  unfold api_Byte_118.f
  rcases h with h | h | h
  · obtain ⟨a, rfl⟩ : ∃ a, l = [a] := by
      match l, h with
      | [a], _ => exact ⟨a, rfl⟩
    simp only [List.length_cons, List.length_nil]
    rw [show wrap64 (((0 + 1 : Nat) : Int) - 1) = 0 from e5]
    simp [api_Byte_118.l0]
  · obtain ⟨a, b, rfl⟩ : ∃ a b, l = [a, b] := by
      match l, h with
      | [a, b], _ => exact ⟨a, b, rfl⟩
    simp only [List.length_cons, List.length_nil]
    rw [show wrap64 (((0 + 1 + 1 : Nat) : Int) - 1) = 1 from e4]
    simp [api_Byte_118.l0, rd_T74, e5, e7, e8]
  · obtain ⟨a, b, c, d, rfl⟩ : ∃ a b c d, l = [a, b, c, d] := by
      match l, h with
      | [a, b, c, d], _ => exact ⟨a, b, c, d, rfl⟩
    simp only [List.length_cons, List.length_nil]
    rw [show wrap64 (((0 + 1 + 1 + 1 + 1 : Nat) : Int) - 1) = 3 from e6]
    simp [api_Byte_118.l0, rd_T74, e1, e2, e3, e4, e7, e8, e9]
theorem put_of (kind : Int) (p : Bool) (n b o : Int) (h : mayS kind p n b o = true) : (kind = 7 ∧ p = true ∧ n = 0 ∧ 0 ≤ b ∧ b ≤ 32 ∧ 0 ≤ o ∧ o ≤ 32 ∧ (0 < b ∨ o = 0)) ∨ ((1 ≤ kind ∧ kind ≤ 6) ∧ p = false ∧ b = 0 ∧ o = 0 ∧ ∃ w hh P c, KD kind w hh P c ∧ 0 ≤ n ∧ n < P) := by
  unfold mayS at h
  by_cases e : kind = 7
  · rw [if_pos e, decide_eq_true_eq] at h
    exact .inl ⟨e, h.1, h.2.1, h.2.2.1.1, h.2.2.1.2, h.2.2.2.1.1, h.2.2.2.1.2, h.2.2.2.2⟩
  · rw [if_neg e, decide_eq_true_eq] at h
    obtain ⟨hk, hp, hn, hb, ho⟩ := h
    obtain ⟨w, hh, P, c, K⟩ := kd_of kind hk.1 hk.2
    rw [K.of, Option.getD_some, K.s1] at hn
    exact .inr ⟨hk, hp, hb, ho, w, hh, P, c, K, hn⟩
theorem spell_ev (big : Bool) (ptr kind : Int) (p : Bool) (n b o : Int) (hp : ptr = 2 ∨ ptr = 4) (h : mayS kind p n b o = true) :
    Ev (fun k => bytes_Spell.f k big ptr kind p n b o) (putL big (sizev ptr kind).toNat p n b o) := by
  have hk : 1 ≤ kind ∧ kind ≤ 7 := by rcases put_of kind p n b o h with ⟨e, _⟩ | ⟨e, _⟩ <;> omega
  have hs := size_small ptr kind hp hk
  have ab := abytes big ptr kind hk
  unfold bytes_Spell.f
  generalize sizev ptr kind = sz at hs ab ⊢
  obtain ⟨m, rfl⟩ : ∃ m : Nat, sz = m := ⟨sz.toNat, by omega⟩
  rw [Int.toNat_natCast]
  have hm : m = 1 ∨ m = 2 ∨ m = 4 := by omega
  -- the loop
  have key : ∀ (g : Nat → S74) (r : List S74), (∀ i : Nat, i < m → g i = if b > 0 then ⟨2, 0, b, o, (i : Int)⟩ else ⟨1, bt8 n i, 0, 0, 0⟩) → (kind = 7 → r = (List.range m).map g) → (¬ kind = 7 → r = if big = true then ((List.range m).map g).reverse else (List.range m).map g) →
      Ev (fun k => bytes_Spell.l0 k kind (List.replicate m z74) m 0 big ptr p n b o) r := by
    intro g r hg hr7 hr
    suffices H : ∀ i : Int, 0 ≤ i → i ≤ m → Ev (fun k => bytes_Spell.l0 k kind (fillL g i.toNat m) m i big ptr p n b o) r by
      have := H 0 (by omega) (by omega)
      rwa [show (0 : Int).toNat = 0 from rfl, fill_none] at this
    refine down (Q := fun i => Ev (fun k => bytes_Spell.l0 k kind (fillL g i.toNat m) m i big ptr p n b o) r) ?_ ?_
    · refine Ev.step (fun k => by rw [bytes_Spell.l0]) ?_
      refine Ev.neg (by omega) ?_
      rw [Int.toNat_natCast, fill_all]
      by_cases e : kind = 7
      · refine Ev.pos e ?_
        rw [hr7 e]
        exact Ev.now _
      · refine Ev.neg e ?_
        rw [hr e]
        cases big with
        | true =>
          refine Ev.pos rfl ?_
          rw [if_pos rfl]
          exact Ev.bind (Ev.plus 3 fun k => rev_some k _ (by simpa using hm)) (Ev.now _)
        | false => exact Ev.neg (by decide) (Ev.now _)
    intro i i0 i1 ih
    obtain ⟨j, rfl⟩ := Int.eq_ofNat_of_zero_le i0
    have hj : j < m := by omega
    rw [show ((j : Int) + 1).toNat = j + 1 by omega, ← fill_set g j m hj, hg j hj] at ih
    have hlen := fill_len g j m (by omega)
    refine Ev.step (fun k => by rw [bytes_Spell.l0]) ?_
    refine Ev.pos i1 ?_
    rw [Int.toNat_natCast]
    by_cases c : b > 0
    · rw [if_pos c] at ih
      refine Ev.pos c (Ev.pos i0 ?_)
      refine Ev.pos (by rw [hlen]; exact i1) ?_
      rw [w64 (z := (j : Int) + 1) (by omega) (by omega)]
      exact ih
    · rw [if_neg c] at ih
      refine Ev.neg c ?_
      refine Ev.pos (by rw [w64 (by omega) (by omega)]; omega) (Ev.pos i0 ?_)
      refine Ev.pos (by rw [hlen]; exact i1) ?_
      rw [w64 (z := (j : Int) + 1) (by omega) (by omega)]
      exact ih
  refine Ev.bindS ab ?_
  refine Ev.pos (by omega) (Ev.pos (by omega) ?_)
  refine Ev.bindS rfl ?_
  rw [List.length_replicate, Int.toNat_natCast]
  have ho := put_of kind p n b o h
  refine key (fun i => if b > 0 then ⟨2, 0, b, o, (i : Int)⟩ else ⟨1, bt8 n i, 0, 0, 0⟩) _ (fun i hi => rfl) ?_ ?_
  · intro e
    rcases ho with ⟨_, rfl, rfl, _⟩ | ⟨e', _⟩
    · unfold putL
      refine List.map_congr_left fun i _ => ?_
      rw [if_pos rfl]
      by_cases c : b > 0
      · rw [if_pos c, if_pos c]
      · rw [if_neg c, if_neg c, bt8_zero]
    · omega
  · intro e
    rcases ho with ⟨e', _⟩ | ⟨_, rfl, rfl, rfl, _⟩
    · exact absurd e' e
    · unfold putL
      cases big with
      | false => rfl
      | true =>
        rw [if_pos rfl]
        rcases hm with rfl | rfl | rfl
        · rfl
        · rfl
        · rfl
theorem put_len (big : Bool) (sz : Nat) (p : Bool) (n b o : Int) : (putL big sz p n b o).length = sz := by simp [putL]
theorem state_b (l : List S74) (n : Int) : bytes_state.f l n = some (l.any fun x => x.f0 == n) := any_some (fun _ => rfl) l
section
variable (l : List S74) (hl : l.length ≤ 4)
include hl
/-- What a pointer's byte must be. -/
def want (B O : Int) (i : Nat) : S74 := if B > 0 then ⟨2, 0, B, O, (i : Int)⟩ else ⟨1, 0, 0, 0, 0⟩
theorem pointer_at (h0 : 0 < l.length) (r : Bool × Int × Int × Int × Int) (hy : (∀ (i : Nat) (h : i < l.length), l[i] = want l[0].f2 l[0].f3 i) → r = ((true, 0, l[0].f2, l[0].f3, 0) : Bool × Int × Int × Int × Int)) (hn : (∃ (i : Nat) (h : i < l.length), ¬ l[i] = want l[0].f2 l[0].f3 i) → r = (false, 0, 0, 0, 8)) : Ev (fun k => bytes_pointer.f k l) r := by
  unfold bytes_pointer.f
  refine Ev.pos (by omega) ?_
  rw [show rd_T74 l 0 = l[0] from rd_get l 0 h0]
  generalize hB : l[0].f2 = B at hy hn ⊢
  generalize hO : l[0].f3 = O at hy hn ⊢
  have key : ∀ i : Int, 0 ≤ i → i ≤ l.length → (∀ (j : Nat) (h : j < l.length), (j : Int) < i → l[j] = want B O j) → Ev (fun k => bytes_pointer.l0 k l l.length i true 0 B O) r := by
    refine down (Q := fun i => (∀ (j : Nat) (h : j < l.length), (j : Int) < i → l[j] = want B O j) → Ev (fun k => bytes_pointer.l0 k l l.length i true 0 B O) r) ?_ ?_
    · intro hall
      refine Ev.step (fun k => by rw [bytes_pointer.l0]) ?_
      refine Ev.neg (by omega) ?_
      rw [hy fun i h => hall i h (by omega)]
      exact Ev.now _
    intro i i0 i1 ih hall
    obtain ⟨n, rfl⟩ := Int.eq_ofNat_of_zero_le i0
    have hn' : n < l.length := by omega
    have J : ∀ a b c d e : Int, want B O n = ⟨a, b, c, d, e⟩ → Ev (fun k => bytes_pointer.j1 k l l.length n true 0 B O l[n].f0 l[n].f1 l[n].f2 l[n].f3 l[n].f4 a b c d e) r := by
      intro a b c d e hw
      refine Ev.step (fun k => by rw [bytes_pointer.j1]) ?_
      by_cases q : l[n] = ⟨a, b, c, d, e⟩
      · refine Ev.neg (fun h => (ne_b _ _ _ _ _ _).1 h q) ?_
        rw [w64 (z := (n : Int) + 1) (by omega) (by omega)]
        refine ih fun j hj hlt => ?_
        rcases Nat.lt_or_ge j n with h | h
        · exact hall j hj (by omega)
        · obtain rfl : j = n := by omega
          rw [q, hw]
      · refine Ev.pos ((ne_b _ _ _ _ _ _).2 q) ?_
        rw [hn ⟨n, hn', by rw [hw]; exact q⟩]
        exact Ev.now _
    refine Ev.step (fun k => by rw [bytes_pointer.l0]) ?_
    refine Ev.pos i1 (Ev.pos i0 (Ev.pos i1 ?_))
    rw [rd_get l n hn']
    by_cases c : B > 0
    · exact Ev.pos c (J _ _ _ _ _ (by unfold want; rw [if_pos c]))
    · exact Ev.neg c (J _ _ _ _ _ (by unfold want; rw [if_neg c]))
  exact key 0 (by omega) (by omega) (fun j _ h => by omega)
end
theorem or_byte (x y : Int) (x0 : 0 ≤ x) (x1 : x ≤ 16777215) (y0 : 0 ≤ y) (y1 : y < 256) : Go.bits .or .i64 (wrap64 (x * 256)) y = x * 256 + y := by
  rw [w64 (z := x * 256) (by omega) (by omega)]
  obtain ⟨a, rfl⟩ := Int.eq_ofNat_of_zero_le x0
  obtain ⟨b, rfl⟩ := Int.eq_ofNat_of_zero_le y0
  have e : (BitVec.ofInt 64 ((a : Int) * 256)).toNat = a * 256 := by
    rw [show ((a : Int) * 256) = ((a * 256 : Nat) : Int) by omega, BitVec.ofInt_natCast, BitVec.toNat_ofNat]
    exact Nat.mod_eq_of_lt (by omega)
  have e' : (BitVec.ofInt 64 (b : Int)).toNat = b := by
    rw [BitVec.ofInt_natCast, BitVec.toNat_ofNat]
    exact Nat.mod_eq_of_lt (by omega)
  have o : (a * 256 ||| b : Nat) = a * 256 + b := by
    have := Nat.shiftLeft_add_eq_or_of_lt (i := 8) (b := b) (by omega) a
    rw [Nat.shiftLeft_eq] at this
    exact this.symm
  show IntKind.i64.wrap ((BitVec.ofInt 64 ((a : Int) * 256) ||| BitVec.ofInt 64 (b : Int)).toNat : Int) = _
  rw [BitVec.toNat_or, e, e', o, IntKind.wrap_i64]
  omega
theorem put_get (big : Bool) (sz : Nat) (p : Bool) (n b o : Int) (i : Nat) (h : i < (putL big sz p n b o).length) :
    (putL big sz p n b o)[i] = if p = true then (if b > 0 then ⟨2, 0, b, o, (i : Int)⟩ else ⟨1, 0, 0, 0, 0⟩) else ⟨1, bt8 n (if big = true then Int.ofNat (sz - 1 - i) else (i : Int)), 0, 0, 0⟩ := by
  simp [putL]
theorem put_isB (big : Bool) (ptr kind : Int) (p : Bool) (n b o : Int) (hp : ptr = 2 ∨ ptr = 4) (h : mayS kind p n b o = true) : ∀ x ∈ putL big (sizev ptr kind).toNat p n b o, isB x = true ∧ (p = true → x.f0 = if b > 0 then 2 else 1) ∧ (p = false → x.f0 = 1) ∧ (p = true → b ≤ 0 → x = ⟨1, 0, 0, 0, 0⟩) := by
  have hk : 1 ≤ kind ∧ kind ≤ 7 := by rcases put_of kind p n b o h with ⟨e, _⟩ | ⟨e, _⟩ <;> omega
  have hs := size_small ptr kind hp hk
  intro x hx
  obtain ⟨i, hi, rfl⟩ := List.getElem_of_mem hx
  have hi' := hi
  rw [put_len] at hi'
  rw [put_get]
  rcases put_of kind p n b o h with ⟨_, rfl, _, h1, h2, h3, h4, _⟩ | ⟨_, rfl, _⟩
  · rw [if_pos rfl]
    by_cases c : b > 0
    · rw [if_pos c]
      refine ⟨?_, fun _ => (if_pos c).symm, fun e => absurd e (by decide), fun _ e => by omega⟩
      unfold isB
      rw [decide_eq_true_eq]
      refine .inr (.inr ⟨rfl, rfl, ⟨by show 1 ≤ b; omega, h2⟩, ⟨h3, h4⟩, by show 0 ≤ (i : Int); omega, ?_⟩)
      show (i : Int) ≤ 3
      omega
    · rw [if_neg c]
      exact ⟨rfl, fun _ => (if_neg c).symm, fun e => absurd e (by decide), fun _ _ => rfl⟩
  · rw [if_neg (by decide)]
    refine ⟨?_, fun e => absurd e (by decide), fun _ => rfl, fun e => absurd e (by decide)⟩
    unfold isB
    rw [decide_eq_true_eq]
    exact .inr (.inl ⟨rfl, bt8_range _ _, rfl, rfl, rfl⟩)
theorem state_no (l : List S74) (n : Int) (h : ∀ x ∈ l, x.f0 ≠ n) : bytes_state.f l n = some false := by
  rw [state_b]
  congr 1
  rw [List.any_eq_false]
  intro x hx
  simpa using h x hx
theorem read_step (big : Bool) (ptr : Int) (l : List S74) (x i y : Int) (r : Bool × Int × Int × Int × Int) (hl : l.length ≤ 4) (i0 : 0 ≤ i) (i1 : i < l.length) (hy : (rd_T74 l (if big = true then i else (l.length : Int) - 1 - i)).f1 = y) (y0 : 0 ≤ y) (y1 : y < 256) (x0 : 0 ≤ x) (x1 : x ≤ 16777215)
    (nx : Ev (fun k => bytes_Read.l0 k l (x * 256 + y) l.length (i + 1) big ptr) r) : Ev (fun k => bytes_Read.l0 k l x l.length i big ptr) r := by
  have e : wrap64 ((wrap64 ((l.length : Int) - 1)) - i) = (l.length : Int) - 1 - i := by rw [w64 (z := (l.length : Int) - 1) (by omega) (by omega), w64 (by omega) (by omega)]
  have J : ∀ a b c d : Int, Ev (fun k => bytes_Read.j1 k l x l.length i big ptr a y b c d) r := by
    intro a b c d
    refine Ev.step (fun k => by rw [bytes_Read.j1]) ?_
    rw [or_byte x y x0 x1 y0 y1, w64 (z := i + 1) (by omega) (by omega)]
    exact nx
  refine Ev.step (fun k => by rw [bytes_Read.l0]) ?_
  rw [e]
  refine Ev.pos i1 (Ev.pos (by omega) (Ev.pos (by omega) ?_))
  cases big with
  | true =>
    rw [if_pos rfl] at hy
    refine Ev.pos rfl (Ev.pos i0 (Ev.pos i1 ?_))
    rw [hy]
    exact J _ _ _ _
  | false =>
    rw [if_neg (by decide)] at hy
    refine Ev.neg (by decide) ?_
    rw [hy]
    exact J _ _ _ _
theorem read_end (big : Bool) (ptr : Int) (l : List S74) (x : Int) : Ev (fun k => bytes_Read.l0 k l x l.length l.length big ptr) (false, x, 0, 0, 0) :=
  Ev.step (fun k => by rw [bytes_Read.l0]) (Ev.neg (by omega) (Ev.now _))
theorem read_num (big : Bool) (ptr : Int) (m : Nat) (n b o : Int) (hm : (m = 1 ∧ n < 256) ∨ (m = 2 ∧ n < 65536) ∨ (m = 4 ∧ n < 4294967296)) (n0 : 0 ≤ n) :
    Ev (fun k => bytes_Read.l0 k (putL big m false n b o) 0 (putL big m false n b o).length 0 big ptr) (false, n, 0, 0, 0) := by
  have hlen := put_len big m false n b o
  have hy : ∀ j : Nat, j < m → (rd_T74 (putL big m false n b o) (if big = true then (j : Int) else ((putL big m false n b o).length : Int) - 1 - (j : Int))).f1 = n / 256 ^ (m - 1 - j) % 256 := by
    intro j hj
    cases big with
    | true =>
      rw [if_pos rfl, rd_get _ j (by omega), put_get, if_neg (by decide), if_pos rfl]
      exact bt8_at n (m - 1 - j) (by omega)
    | false =>
      rw [if_neg (by decide), show ((putL false m false n b o).length : Int) - 1 - (j : Int) = ((m - 1 - j : Nat) : Int) by omega, rd_get _ (m - 1 - j) (by omega), put_get, if_neg (by decide), if_neg (by decide)]
      exact bt8_at n (m - 1 - j) (by omega)
  generalize putL big m false n b o = l at hlen hy
  have fin : ∀ x i : Int, i = l.length → x = n → Ev (fun k => bytes_Read.l0 k l x l.length i big ptr) (false, n, 0, 0, 0) := by
    intro x i hi hx
    subst hi hx
    exact read_end big ptr l _
  rcases hm with ⟨rfl, hn⟩ | ⟨rfl, hn⟩ | ⟨rfl, hn⟩
  · have h0 := hy 0 (by omega)
    refine read_step big ptr l 0 0 _ _ (by omega) (by omega) (by omega) h0 (by omega) (by omega) (by omega) (by omega) (fin _ _ (by omega) ?_)
    simp only [show 1 - 1 - 0 = 0 from rfl, Int.pow_zero]
    omega
  · have h0 := hy 0 (by omega)
    have h1 := hy 1 (by omega)
    refine read_step big ptr l 0 0 _ _ (by omega) (by omega) (by omega) h0 (by omega) (by omega) (by omega) (by omega) ?_
    refine read_step big ptr l _ (0 + 1) _ _ (by omega) (by omega) (by omega) h1 (by omega) (by omega) (by omega) (by omega) (fin _ _ (by omega) ?_)
    simp only [show 2 - 1 - 0 = 1 from rfl, show 2 - 1 - 1 = 0 from rfl, Int.pow_zero, Int.pow_one]
    omega
  · have h0 := hy 0 (by omega)
    have h1 := hy 1 (by omega)
    have h2 := hy 2 (by omega)
    have h3 := hy 3 (by omega)
    simp only [show 4 - 1 - 0 = 3 from rfl, show 4 - 1 - 1 = 2 from rfl, show 4 - 1 - 2 = 1 from rfl, show 4 - 1 - 3 = 0 from rfl, show (256 : Int) ^ 3 = 16777216 by decide, show (256 : Int) ^ 2 = 65536 by decide, Int.pow_zero, Int.pow_one] at h0 h1 h2 h3
    refine read_step big ptr l 0 0 _ _ (by omega) (by omega) (by omega) h0 (by omega) (by omega) (by omega) (by omega) ?_
    refine read_step big ptr l _ (0 + 1) _ _ (by omega) (by omega) (by omega) h1 (by omega) (by omega) (by omega) (by omega) ?_
    refine read_step big ptr l _ (0 + 1 + 1) _ _ (by omega) (by omega) (by omega) h2 (by omega) (by omega) (by omega) (by omega) ?_
    refine read_step big ptr l _ (0 + 1 + 1 + 1) _ _ (by omega) (by omega) (by omega) h3 (by omega) (by omega) (by omega) (by omega) (fin _ _ (by omega) ?_)
    omega
theorem read_back (big : Bool) (ptr kind : Int) (p : Bool) (n b o : Int) (hp : ptr = 2 ∨ ptr = 4) (h : mayS kind p n b o = true) : Ev (fun k => bytes_Read.f k big ptr kind (putL big (sizev ptr kind).toNat p n b o)) (p, n, b, o, 0) := by
  have hk : 1 ≤ kind ∧ kind ≤ 7 := by rcases put_of kind p n b o h with ⟨e, _⟩ | ⟨e, _⟩ <;> omega
  have hs := size_small ptr kind hp hk
  have hall := put_isB big ptr kind p n b o hp h
  have hlen := put_len big (sizev ptr kind).toNat p n b o
  unfold bytes_Read.f
  refine Ev.bindS (state_no _ 0 fun x hx => ?_) (Ev.neg (by decide) ?_)
  · have a := hall x hx
    cases p with
    | true =>
      have := a.2.1 rfl
      split at this <;> omega
    | false =>
      have := a.2.2.1 rfl
      omega
  rcases put_of kind p n b o h with ⟨rfl, rfl, rfl, h1, h2, h3, h4, h5⟩ | ⟨hk6, rfl, rfl, rfl, w, hh, P, c, K, n0, n1⟩
  · refine Ev.pos rfl (Ev.bind (pointer_at (l := putL big (sizev ptr 7).toNat true 0 b o) (by omega) (by omega) (true, 0, b, o, 0) ?_ ?_) (Ev.now _))
    · intro _
      have hb : ((putL big (sizev ptr 7).toNat true 0 b o)[0]'(by omega)).f2 = b ∧ ((putL big (sizev ptr 7).toNat true 0 b o)[0]'(by omega)).f3 = o := by
        rw [put_get, if_pos rfl]
        by_cases c : b > 0
        · rw [if_pos c]
          exact ⟨rfl, rfl⟩
        · rw [if_neg c]
          exact ⟨by show (0 : Int) = b; omega, by show (0 : Int) = o; omega⟩
      rw [hb.1, hb.2]
    · rintro ⟨i, hi, hne⟩
      refine absurd ?_ hne
      have hb : ((putL big (sizev ptr 7).toNat true 0 b o)[0]'(by omega)).f2 = b ∧ ((putL big (sizev ptr 7).toNat true 0 b o)[0]'(by omega)).f3 = o := by
        rw [put_get, if_pos rfl]
        by_cases c : b > 0
        · rw [if_pos c]
          exact ⟨rfl, rfl⟩
        · rw [if_neg c]
          exact ⟨by show (0 : Int) = b; omega, by show (0 : Int) = o; omega⟩
      rw [hb.1, hb.2, put_get, if_pos rfl]
      unfold want
      rfl
  · refine Ev.neg (by omega) (Ev.bindS (state_no _ 2 fun x hx => ?_) (Ev.neg (by decide) ?_))
    · have := (hall x hx).2.2.1 rfl
      omega
    · refine read_num big ptr _ n 0 0 ?_ n0
      have := K.size ptr
      rcases K.bb with ⟨e1, e2⟩ | ⟨e1, e2⟩ | ⟨e1, e2⟩
      · exact .inl ⟨by omega, by omega⟩
      · exact .inr (.inl ⟨by omega, by omega⟩)
      · exact .inr (.inr ⟨by omega, by omega⟩)
def blkOK (b : S76) : Bool := decide (0 ≤ b.f0 ∧ b.f0 ≤ 3 ∧ b.f1.length ≤ 32 ∧ (b.f0 = 1 ∨ b.f1.length = 0)) && b.f1.all isB
theorem any_not (l : List S74) : api_Byte_122.f l 123 = some (!(l.all isB)) := by
  unfold api_Byte_122.f
  rw [if_pos rfl, any_some (f := fun x => !isB x) (fun x => by unfold mem_block_1.f; rw [is_b]; rfl)]
  congr 1
  rw [List.not_all_eq_any_not]
theorem block_f (b : S76) : mem_block.f b.f0 b.f1 = some (blkOK b) := by
  unfold mem_block.f blkOK
  rw [any_not]
  simp only [Option.bind_some, Bool.not_not]
  by_cases a : b.f0 < 0
  · rw [if_pos a, decide_eq_false (by omega), Bool.false_and]
  rw [if_neg a]
  by_cases c : b.f0 > 3
  · rw [if_pos c, decide_eq_false (by omega), Bool.false_and]
  rw [if_neg c]
  by_cases d : (b.f1.length : Int) > 32
  · rw [if_pos d, decide_eq_false (by omega), Bool.false_and]
  rw [if_neg d]
  by_cases e : b.f0 = 1
  · rw [if_pos e, decide_eq_true (by omega), Bool.true_and]
  rw [if_neg e]
  by_cases g : (b.f1.length : Int) > 0
  · rw [if_pos g, decide_eq_false (by omega), Bool.false_and]
  · rw [if_neg g, decide_eq_true (by omega), Bool.true_and]
def memOK (m : List S76) : Bool := decide (1 ≤ m.length ∧ m.length ≤ 33 ∧ (rd_T76 m 0).f0 = 0) && m.all blkOK
theorem may_m (m : List S76) : mem_May.f m = some (memOK m) := by
  unfold mem_May.f memOK
  by_cases a : (m.length : Int) < 1
  · rw [if_pos a, decide_eq_false (by omega), Bool.false_and]
  rw [if_neg a]
  by_cases c : (m.length : Int) > 33
  · rw [if_pos c, decide_eq_false (by omega), Bool.false_and]
  rw [if_neg c, if_pos (by omega)]
  by_cases d : (rd_T76 m 0).f0 = 0
  · rw [if_pos d, decide_eq_true (by omega), Bool.true_and]
    unfold api_Block_107.f
    rw [if_pos rfl, any_some (f := fun x => !blkOK x) (fun x => by unfold mem_May_1.f; rw [block_f]; rfl), Option.bind_some, ← List.not_all_eq_any_not, Bool.not_not]
  · rw [if_neg d, decide_eq_false (by omega), Bool.false_and]
theorem check_m (m : List S76) : mem_Check.f m = some (if memOK m = true then 0 else 1) := by
  unfold mem_Check.f
  rw [may_m, Option.bind_some]
  split <;> rfl
theorem rd_getT (l : List S76) (i : Nat) (h : i < l.length) : rd_T76 l (i : Int) = l[i] := by
  unfold rd_T76
  simp [List.getD_eq_getElem?_getD, List.getElem?_eq_getElem h]
def thereB (m : List S76) (p : Bool) (n b o : Int) : Bool := mayS 7 p n b o && decide (b < (m.length : Int))
theorem there_f (m : List S76) (p : Bool) (n b o : Int) : mem_there.f m p n b o = some (thereB m p n b o) := by
  unfold mem_there.f thereB
  rw [may_s, Option.bind_some]
  cases mayS 7 p n b o with
  | true => rfl
  | false => rfl
theorem asked_f (big : Bool) (ptr : Int) (m : List S76) (p : Bool) (n b o kind : Int) :
    mem_asked.f big ptr m p n b o kind = some (decide (ptr = 2 ∨ ptr = 4) && (memOK m && (thereB m p n b o && decide (1 ≤ kind ∧ kind ≤ 7)))) := by
  unfold mem_asked.f
  rw [amay, may_m, there_f, ascalar]
  simp only [Option.bind_some]
  cases decide (ptr = 2 ∨ ptr = 4) <;> cases memOK m <;> cases thereB m p n b o <;> rfl
theorem eqb_self (l : List S74) (hl : l.length < 3518437208883) : Ev (fun k => cellarref0_EqBytes.f k l l) true := by
  have key : ∀ i : Int, 0 ≤ i → i ≤ l.length → Ev (fun k => cellarref0_EqBytes.l0 k l l i) true := by
    refine down (Q := fun i => Ev (fun k => cellarref0_EqBytes.l0 k l l i) true) ?_ ?_
    · refine Ev.step (fun k => by rw [cellarref0_EqBytes.l0]) ?_
      exact Ev.neg (by omega) (Ev.now _)
    intro i i0 i1 ih
    refine Ev.step (fun k => by rw [cellarref0_EqBytes.l0]) ?_
    refine Ev.pos i1 (Ev.pos i0 (Ev.pos i1 (Ev.neg (by simp) ?_)))
    rw [w64 (z := i + 1) (by omega) (by omega)]
    exact ih
  unfold cellarref0_EqBytes.f
  exact Ev.pos rfl (key 0 (by omega) (by omega))
theorem eqs_self (m : List S76) (hl : m.length < 4398046511104) (hb : ∀ b ∈ m, b.f1.length < 3518437208883) : Ev (fun k => cellarref0_EqBlocks.f k m m) true := by
  have key : ∀ i : Int, 0 ≤ i → i ≤ m.length → Ev (fun k => cellarref0_EqBlocks.l0 k m m i) true := by
    refine down (Q := fun i => Ev (fun k => cellarref0_EqBlocks.l0 k m m i) true) ?_ ?_
    · refine Ev.step (fun k => by rw [cellarref0_EqBlocks.l0]) ?_
      exact Ev.neg (by omega) (Ev.now _)
    intro i i0 i1 ih
    obtain ⟨n, rfl⟩ := Int.eq_ofNat_of_zero_le i0
    have hn : n < m.length := by omega
    refine Ev.step (fun k => by rw [cellarref0_EqBlocks.l0]) ?_
    refine Ev.pos i1 (Ev.pos i0 (Ev.pos i1 ?_))
    rw [rd_getT m n hn]
    have heb : Ev (fun k => cellarref0_EqBlock.f k m[n].f0 m[n].f1 m[n].f0 m[n].f1) true := by
      unfold cellarref0_EqBlock.f
      exact Ev.pos rfl (Ev.bind (eqb_self _ (hb _ (List.getElem_mem hn))) (Ev.now _))
    refine Ev.bind heb (Ev.pos rfl ?_)
    rw [w64 (z := (n : Int) + 1) (by omega) (by omega)]
    exact ih
  unfold cellarref0_EqBlocks.f
  exact Ev.pos rfl (key 0 (by omega) (by omega))
theorem weight_ev (m : List S76) (hl : m.length < 4398046511104) (hb : ∀ b ∈ m, b.f1.length < 3518437208883) : ∃ r, Ev (fun k => cellarlaw0_BlocksWeight.f k m) r ∧ 0 ≤ r ∧ r ≤ 1000000000000000 := by
  have key : ∀ i : Int, 0 ≤ i → i ≤ m.length → ∀ x : Int, 0 ≤ x → x ≤ 1000000000000000 → ∃ r, Ev (fun k => cellarlaw0_BlocksWeight.l0 k m x i) r ∧ 0 ≤ r ∧ r ≤ 1000000000000000 := by
    refine down (Q := fun i => ∀ x : Int, 0 ≤ x → x ≤ 1000000000000000 → ∃ r, Ev (fun k => cellarlaw0_BlocksWeight.l0 k m x i) r ∧ 0 ≤ r ∧ r ≤ 1000000000000000) ?_ ?_
    · intro x x0 x1
      exact ⟨x, Ev.step (fun k => by rw [cellarlaw0_BlocksWeight.l0]) (Ev.neg (by omega) (Ev.now _)), x0, x1⟩
    intro i i0 i1 ih x x0 x1
    by_cases c : x < 1048576
    · obtain ⟨n, rfl⟩ := Int.eq_ofNat_of_zero_le i0
      have hn : n < m.length := by omega
      have h1 := hb _ (List.getElem_mem hn)
      obtain ⟨r, h, r0, r1⟩ := ih (x + (m[n].f1.length : Int)) (by omega) (by omega)
      refine ⟨r, Ev.step (fun k => by rw [cellarlaw0_BlocksWeight.l0]) (Ev.pos i1 (Ev.pos c (Ev.pos i0 ?_))), r0, r1⟩
      rw [rd_getT m n hn, w64 (z := (n : Int) + 1) (by omega) (by omega), w64 (z := x + (m[n].f1.length : Int)) (by omega) (by omega)]
      exact h
    · exact ⟨x, Ev.step (fun k => by rw [cellarlaw0_BlocksWeight.l0]) (Ev.pos i1 (Ev.neg c (Ev.now _))), x0, x1⟩
  exact key 0 (by omega) (by omega) _ (by omega) (by omega)
theorem rd_getL (l : List (List S76)) (i : Nat) (h : i < l.length) : rd_L4 l (i : Int) = l[i] := by
  unfold rd_L4
  simp [List.getD_eq_getElem?_getD, List.getElem?_eq_getElem h]
section
variable (M : List (List S76)) (S : List S62) (N : List Int) (A : List S29) (hM : M.length ≤ 140737488351232) (hMm : ∀ m ∈ M, m.length < 4398046511104 ∧ ∀ b ∈ m, b.f1.length < 3518437208883) (hS : S.length ≤ 4398046510976) (hN : N.length ≤ 140737488351232) (hA : A.length ≤ 8796093021952)
include hM hMm hS hN hA
theorem heavy_ev : ∃ b, Ev (fun k => cellarlaw9_Heavy.f k M S N A) b := by
  have key : ∀ i : Int, 0 ≤ i → i ≤ M.length → ∀ x : Int, 0 ≤ x → x ≤ 4000000000000000 → ∃ r, Ev (fun k => cellarlaw9_Heavy.l0 k x i M S N A) r := by
    refine down (Q := fun i => ∀ x : Int, 0 ≤ x → x ≤ 4000000000000000 → ∃ r, Ev (fun k => cellarlaw9_Heavy.l0 k x i M S N A) r) ?_ ?_
    · intro x x0 x1
      exact ⟨_, Ev.step (fun k => by rw [cellarlaw9_Heavy.l0]) (Ev.neg (by omega) (Ev.now _))⟩
    intro i i0 i1 ih x x0 x1
    by_cases c : x < 1048576
    · obtain ⟨n, rfl⟩ := Int.eq_ofNat_of_zero_le i0
      have hn : n < M.length := by omega
      have h1 := hMm _ (List.getElem_mem hn)
      obtain ⟨t, ht, t0, t1⟩ := weight_ev M[n] h1.1 h1.2
      obtain ⟨r, h⟩ := ih (x + t) (by omega) (by omega)
      refine ⟨r, Ev.step (fun k => by rw [cellarlaw9_Heavy.l0]) (Ev.pos i1 (Ev.pos c (Ev.pos i0 ?_)))⟩
      rw [rd_getL M n hn]
      refine Ev.bind ht ?_
      rw [w64 (z := (n : Int) + 1) (by omega) (by omega), w64 (z := x + t) (by omega) (by omega)]
      exact h
    · exact ⟨_, Ev.step (fun k => by rw [cellarlaw9_Heavy.l0]) (Ev.pos i1 (Ev.neg c (Ev.now _)))⟩
  unfold cellarlaw9_Heavy.f
  rw [w64 (z := (S.length : Int) + N.length) (by omega) (by omega), w64 (by omega) (by omega)]
  exact key 0 (by omega) (by omega) _ (by omega) (by omega)
theorem ptrs_ev (m : List S76) : ∃ L, Ev (fun k => cellarlaw9_pointers.f k M S N A m) L ∧ L.length ≤ 40 := by
  have _uhM := hM; have _uhMm := hMm; have _uhN := hN; have _uhA := hA
  have key : ∀ i : Int, 1 ≤ i → i ≤ 7 → ∀ L : List S62, (L.length : Int) ≤ 4 + 3 * i → ∃ L', Ev (fun k => cellarlaw9_pointers.l0 k m L i M S N A) L' ∧ L'.length ≤ 40 := by
    refine down (Q := fun i => ∀ L : List S62, (L.length : Int) ≤ 4 + 3 * i → ∃ L', Ev (fun k => cellarlaw9_pointers.l0 k m L i M S N A) L' ∧ L'.length ≤ 40) ?_ ?_
    · intro L hL
      refine ⟨L, Ev.step (fun k => by rw [cellarlaw9_pointers.l0]) ?_, by omega⟩
      exact Ev.cond (fun _ => Ev.neg (by omega) (Ev.now _)) (fun _ => Ev.now _)
    intro i i0 i1 ih L hL
    by_cases c : i < (m.length : Int)
    · obtain ⟨L', h, hl⟩ := ih (L ++ ([(⟨true, 0, i, 0⟩ : S62), (⟨true, 0, i, mn (((rd_T76 m i).f1).length : Int) 32⟩ : S62), (⟨true, 0, i, Int.tmod (wrap64 ((wrap64 (i * 3)) + (N.length : Int))) 9⟩ : S62)] : List S62)) (by rw [List.length_append]; simp; omega)
      refine ⟨L', ?_, hl⟩
      refine Ev.step (fun k => by rw [cellarlaw9_pointers.l0]) ?_
      refine Ev.pos c (Ev.pos i1 (Ev.pos (by omega) (Ev.bindS rfl (Ev.pos ?_ ?_))))
      · show L.length + 3 < 4398046511104
        omega
      rw [w64 (z := i + 1) (by omega) (by omega)]
      exact h
    · exact ⟨L, Ev.step (fun k => by rw [cellarlaw9_pointers.l0]) (Ev.neg c (Ev.now _)), by omega⟩
  have J : ∀ L : List S62, L.length ≤ 7 → ∃ L', Ev (fun k => cellarlaw9_pointers.j0 k m L M S N A) L' ∧ L'.length ≤ 40 := by
    intro L hL
    obtain ⟨L', h, hl⟩ := key 1 (by omega) (by omega) L (by omega)
    exact ⟨L', Ev.step (fun k => by rw [cellarlaw9_pointers.j0]) h, hl⟩
  unfold cellarlaw9_pointers.f
  by_cases c : ((([(⟨true, 0, 0, 0⟩ : S62), (⟨true, 0, 50, 0⟩ : S62)] : List S62) ++ S).length : Int) > 7
  · obtain ⟨L', h, hl⟩ := J ((([(⟨true, 0, 0, 0⟩ : S62), (⟨true, 0, 50, 0⟩ : S62)] : List S62) ++ S).take (7 : Int).toNat) (by rw [List.length_take]; omega)
    refine ⟨L', ?_, hl⟩
    refine Ev.bindS rfl (Ev.pos ?_ (Ev.bindS rfl (Ev.pos c (Ev.pos (by omega) h))))
    show 2 + S.length < 4398046511104
    omega
  · obtain ⟨L', h, hl⟩ := J (([(⟨true, 0, 0, 0⟩ : S62), (⟨true, 0, 50, 0⟩ : S62)] : List S62) ++ S) (by omega)
    refine ⟨L', ?_, hl⟩
    refine Ev.bindS rfl (Ev.pos ?_ (Ev.bindS rfl (Ev.neg c h)))
    show 2 + S.length < 4398046511104
    omega
end
theorem is32 (n : Int) : word_Is.f n 32 = some (decide (0 ≤ n ∧ n ≤ 4294967295)) := by
  unfold word_Is.f
  rw [show word_Most.f 32 = some 4294967295 by kernel_rfl, Option.bind_some]
  by_cases h : n ≥ 0
  · rw [if_pos h]
    congr 1
    rw [decide_eq_decide]
    omega
  · rw [if_neg h]
    congr 1
    symm
    rw [decide_eq_false_iff_not]
    omega
/-- A number of four bytes, seen signed. -/
def view32 (n : Int) : Int := if n ≥ 2147483648 then wrap64 (n - 4294967296) else n
theorem look32 (n : Int) : word_Look.f n 32 = some (view32 n) := by
  unfold word_Look.f view32
  rw [show wrap64 (32 - 1) = 31 by kernel_rfl, if_pos (by decide), show shl .i64 1 31 = 2147483648 by kernel_rfl, show shl .i64 1 32 = 4294967296 by kernel_rfl]
  by_cases h : n ≥ 2147483648
  · rw [if_pos h, if_pos h, if_pos (by decide)]
  · rw [if_neg h, if_neg h]
theorem view_range (n : Int) (h0 : 0 ≤ n) (h1 : n ≤ 4294967295) : -2147483648 ≤ view32 n ∧ view32 n < 2147483648 ∧ (view32 n = 0 ↔ n = 0) := by
  unfold view32
  split
  · rw [w64 (by omega) (by omega)]
    omega
  · omega
theorem there_of (m : List S76) (p : Bool) (n b o : Int) (h : thereB m p n b o = true) : p = true ∧ 0 ≤ b ∧ b ≤ 32 ∧ b < (m.length : Int) ∧ 0 ≤ o ∧ o ≤ 32 := by
  unfold thereB at h
  rw [Bool.and_eq_true, decide_eq_true_eq] at h
  rcases put_of 7 p n b o h.1 with h' | h'
  · exact ⟨h'.2.1, h'.2.2.2.1, h'.2.2.2.2.1, h.2, h'.2.2.2.2.2.1, h'.2.2.2.2.2.2.1⟩
  · omega
/-- How far two places are apart. -/
def apartV (b o b' o' : Int) : Int × Int := if b = b' then (Go.bits .and .i64 (wrap64 (o - o')) 4294967295, 0) else (0, 9)
theorem less (p : Bool) (n b o : Int) (p' : Bool) (n' b' o' : Int) : mem_Less.f p n b o p' n' b' o' = some (apartV b o b' o') := by
  unfold mem_Less.f apartV
  by_cases h : b = b'
  · rw [if_pos h, if_pos h]
    unfold word_Cut.f
    rw [show word_Most.f 32 = some 4294967295 by kernel_rfl]
    rfl
  · rw [if_neg h, if_neg h]
theorem apart_f (m : List S76) (p : Bool) (n b o : Int) (p' : Bool) (n' b' o' : Int) : mem_Apart.f m p n b o p' n' b' o' = some (if ((memOK m && thereB m p n b o) && thereB m p' n' b' o') = true then ((apartV b o b' o').1, (apartV b o b' o').2, 0) else (0, 0, 1)) := by
  unfold mem_Apart.f
  rw [may_m, Option.bind_some]
  cases memOK m with
  | false => rfl
  | true =>
    rw [if_pos rfl, there_f, Option.bind_some]
    cases thereB m p n b o with
    | false => rfl
    | true =>
      rw [if_pos rfl, there_f, Option.bind_some]
      cases thereB m p' n' b' o' with
      | false => rfl
      | true =>
        rw [if_pos rfl, less]
        rfl
theorem rsizeQ (big : Bool) (ptr kind : Int) (h : 1 ≤ kind ∧ kind ≤ 7) : ∀ k, cellarref1_Size.f (k + 2) big ptr kind = some (sizev ptr kind) := by
  have : kind = 1 ∨ kind = 2 ∨ kind = 3 ∨ kind = 4 ∨ kind = 5 ∨ kind = 6 ∨ kind = 7 := by omega
  rcases this with rfl | rfl | rfl | rfl | rfl | rfl | rfl
  · intro k; kernel_rfl
  · intro k; kernel_rfl
  · intro k; kernel_rfl
  · intro k; kernel_rfl
  · intro k; kernel_rfl
  · intro k; kernel_rfl
  · exact fun k => rfl
/-- What goes wrong where a scalar is. -/
def wayV (m : List S76) (b o sz : Int) : Int := if (rd_T76 m b).f0 = 1 then (if o + sz > ((rd_T76 m b).f1.length : Int) then 1 else if Int.tmod o sz = 0 then 0 else 3) else 2
theorem way_q (big : Bool) (ptr : Int) (m : List S76) (p : Bool) (n b o kind : Int) (hp : ptr = 2 ∨ ptr = 4) (hk : 1 ≤ kind ∧ kind ≤ 7) (b0 : 0 ≤ b) (b1 : b < (m.length : Int)) (o0 : 0 ≤ o) (o1 : o ≤ 32) :
    mem_Way.f big ptr m p n b o kind = some (wayV m b o (sizev ptr kind)) := by
  have hs := size_small ptr kind hp hk
  have e : wrap64 (o + sizev ptr kind) = o + sizev ptr kind := w64 (by omega) (by omega)
  unfold mem_Way.f wayV
  simp only [abytes big ptr kind hk, Option.bind_some, if_pos b0, if_pos b1, e]
  by_cases a : (rd_T76 m b).f0 = 1
  · simp only [if_pos a]
    by_cases c : o + sizev ptr kind > ((rd_T76 m b).f1.length : Int)
    · simp only [if_pos c]
    · simp only [if_neg c, if_neg (show ¬ sizev ptr kind = 0 by omega)]
      by_cases d : Int.tmod o (sizev ptr kind) = 0
      · simp only [if_pos d]
      · simp only [if_neg d]
  · simp only [if_neg a]
/-- What is known of memory that may be. -/
theorem mem_of (m : List S76) (h : memOK m = true) : (1 ≤ m.length ∧ m.length ≤ 33 ∧ (rd_T76 m 0).f0 = 0) ∧ ∀ x ∈ m, blkOK x = true := by
  unfold memOK at h
  rw [Bool.and_eq_true, List.all_eq_true] at h
  exact ⟨of_decide_eq_true h.1, h.2⟩
theorem blk_of (x : S76) (h : blkOK x = true) : (0 ≤ x.f0 ∧ x.f0 ≤ 3 ∧ x.f1.length ≤ 32 ∧ (x.f0 = 1 ∨ x.f1.length = 0)) ∧ ∀ y ∈ x.f1, isB y = true := by
  unfold blkOK at h
  rw [Bool.and_eq_true, List.all_eq_true] at h
  exact ⟨of_decide_eq_true h.1, h.2⟩
theorem rd_mem (m : List S76) (b : Int) (b0 : 0 ≤ b) (b1 : b < (m.length : Int)) : rd_T76 m b ∈ m := by
  obtain ⟨i, rfl⟩ := Int.eq_ofNat_of_zero_le b0
  rw [rd_getT m i (by omega)]
  exact List.getElem_mem _
/-- A block written over. -/
def over (x : S76) (o : Int) (Y : List S74) : S76 := ⟨x.f0, x.f1.take o.toNat ++ Y ++ x.f1.drop (o.toNat + Y.length)⟩
theorem rd_set (m : List S76) (b c : Int) (v : S76) (b0 : 0 ≤ b) (b1 : b < (m.length : Int)) (c0 : 0 ≤ c) : rd_T76 (m.set b.toNat v) c = if c = b then v else rd_T76 m c := by
  obtain ⟨i, rfl⟩ := Int.eq_ofNat_of_zero_le b0
  obtain ⟨j, rfl⟩ := Int.eq_ofNat_of_zero_le c0
  unfold rd_T76
  rw [List.getD_eq_getElem?_getD, List.getD_eq_getElem?_getD, Int.toNat_natCast, Int.toNat_natCast]
  by_cases e : (j : Int) = (i : Int)
  · have e' : j = i := by omega
    subst e'
    rw [if_pos rfl, List.getElem?_set_self (by omega)]
    rfl
  · rw [if_neg e, List.getElem?_set_ne (by omega)]
section
variable (x : S76) (o : Int) (Y : List S74) (o0 : 0 ≤ o) (o1 : o + (Y.length : Int) ≤ (x.f1.length : Int))
include o0 o1
theorem over_len : (over x o Y).f1.length = x.f1.length := by
  unfold over
  simp only [List.length_append, List.length_take, List.length_drop]
  omega
theorem over_mid : (((over x o Y).f1).take (o + (Y.length : Int)).toNat).drop o.toNat = Y := by
  have e : (x.f1.take o.toNat).length = o.toNat := by rw [List.length_take]; omega
  unfold over
  rw [show (o + (Y.length : Int)).toNat = (x.f1.take o.toNat ++ Y).length by rw [List.length_append, e]; omega, List.take_left']
  · rw [List.drop_left' e]
  · rfl
theorem over_get (q : Int) (q0 : 0 ≤ q) (h : q < o ∨ o + (Y.length : Int) ≤ q) : rd_T74 (over x o Y).f1 q = rd_T74 x.f1 q := by
  have e : (x.f1.take o.toNat).length = o.toNat := by rw [List.length_take]; omega
  obtain ⟨j, rfl⟩ := Int.eq_ofNat_of_zero_le q0
  unfold over rd_T74
  rw [List.getD_eq_getElem?_getD, List.getD_eq_getElem?_getD, Int.toNat_natCast]
  congr 1
  rcases h with h | h
  · rw [List.append_assoc, List.getElem?_append_left (by omega), List.getElem?_take, if_pos (by omega)]
  · rw [List.getElem?_append_right (by rw [List.length_append, e]; omega), List.getElem?_drop, List.length_append, e]
    congr 1
    omega
end
section
variable (big : Bool) (ptr : Int) (m : List S76) (p : Bool) (n b o kind : Int) (p' : Bool) (n' b' o' : Int)
  (hp : ptr = 2 ∨ ptr = 4) (hm : memOK m = true) (hk : 1 ≤ kind ∧ kind ≤ 7) (hs : mayS kind p' n' b' o' = true)
include hp hm hk hs
theorem store_no (ht : ¬ thereB m p n b o = true) : Ev (fun k => mem_Store.f k big ptr m p n b o kind p' n' b' o') ([], 0, 1) := by
  have _uh := hs; have _uh2 := hk
  unfold mem_Store.f
  refine Ev.bindS (asked_f big ptr m p n b o kind) (Ev.neg ?_ (Ev.now _))
  rw [decide_eq_true hp, hm, Bool.eq_false_iff.2 ht]
  simp
theorem store_ev (ht : thereB m p n b o = true) : Ev (fun k => mem_Store.f k big ptr m p n b o kind p' n' b' o')
    (if wayV m b o (sizev ptr kind) = 0 then m.set b.toNat (over (rd_T76 m b) o (putL big (sizev ptr kind).toNat p' n' b' o')) else m, wayV m b o (sizev ptr kind), 0) := by
  obtain ⟨_, b0, _, b2, o0, o1⟩ := there_of m p n b o ht
  have hz := size_small ptr kind hp hk
  have hmm := mem_of m hm
  have hlen := put_len big (sizev ptr kind).toNat p' n' b' o'
  unfold mem_Store.f
  refine Ev.bindS (asked_f big ptr m p n b o kind) (Ev.pos ?_ (Ev.bindS (may_s kind p' n' b' o') (Ev.pos hs (Ev.pos (by omega) (Ev.pos ?_ ?_)))))
  · rw [decide_eq_true hp, hm, ht, decide_eq_true hk]
    rfl
  · rw [List.all_eq_true]
    intro x hx
    have := (blk_of x (hmm.2 x hx)).1
    exact decide_eq_true (by omega)
  have L : Ev (fun k => mem_Lay.f k big ptr m p n b o kind p' n' b' o') (if wayV m b o (sizev ptr kind) = 0 then m.set b.toNat (over (rd_T76 m b) o (putL big (sizev ptr kind).toNat p' n' b' o')) else m, wayV m b o (sizev ptr kind)) := by
    unfold mem_Lay.f
    refine Ev.bindS (way_q big ptr m p n b o kind hp hk b0 b2 o0 o1) ?_
    by_cases w : wayV m b o (sizev ptr kind) = 0
    · simp only [if_pos w]
      have w' := w
      unfold wayV at w'
      have hw : o + sizev ptr kind ≤ ((rd_T76 m b).f1.length : Int) := by
        split at w'
        · split at w'
          · omega
          · omega
        · omega
      refine Ev.pos b0 (Ev.pos b2 (Ev.pos o0 (Ev.bind (spell_ev big ptr kind p' n' b' o' hp hs) (Ev.pos (by omega) (Ev.pos (by omega) ?_)))))
      exact Ev.now _
    · simp only [if_neg w]
      exact Ev.now _
  exact Ev.bind L (Ev.now _)
theorem load_back (ht : thereB m p n b o = true) (hw : wayV m b o (sizev ptr kind) = 0) : (rd_T76 m b).f0 = 1 ∧ o + sizev ptr kind ≤ ((rd_T76 m b).f1.length : Int) ∧
    Ev (fun k => mem_Load.f k big ptr (m.set b.toNat (over (rd_T76 m b) o (putL big (sizev ptr kind).toNat p' n' b' o'))) p n b o kind) (p', n', b', o', 0, 0) := by
  obtain ⟨_, b0, _, b2, o0, o1⟩ := there_of m p n b o ht
  have hz := size_small ptr kind hp hk
  have hmm := mem_of m hm
  have hlen := put_len big (sizev ptr kind).toNat p' n' b' o'
  have hput := put_isB big ptr kind p' n' b' o' hp hs
  have hrb := read_back big ptr kind p' n' b' o' hp hs
  have hw' := hw
  unfold wayV at hw'
  have h1 : (rd_T76 m b).f0 = 1 := by
    split at hw'
    · assumption
    · omega
  rw [if_pos h1] at hw'
  have h2 : o + sizev ptr kind ≤ ((rd_T76 m b).f1.length : Int) := by
    split at hw'
    · omega
    · omega
  refine ⟨h1, h2, ?_⟩
  generalize putL big (sizev ptr kind).toNat p' n' b' o' = Y at hlen hput hrb ⊢
  have hY : o + (Y.length : Int) ≤ ((rd_T76 m b).f1.length : Int) := by omega
  have hbm := blk_of _ (hmm.2 _ (rd_mem m b b0 b2))
  have hol := over_len (rd_T76 m b) o Y o0 hY
  have hom := over_mid (rd_T76 m b) o Y o0 hY
  have hbn : b ≠ 0 := by
    rintro rfl
    omega
  have hblk : blkOK (over (rd_T76 m b) o Y) = true := by
    unfold blkOK
    rw [Bool.and_eq_true, List.all_eq_true, hol]
    refine ⟨decide_eq_true hbm.1, fun y hy => ?_⟩
    unfold over at hy
    rw [List.mem_append, List.mem_append] at hy
    rcases hy with (hy | hy) | hy
    · exact hbm.2 _ (List.mem_of_mem_take hy)
    · exact (hput y hy).1
    · exact hbm.2 _ (List.mem_of_mem_drop hy)
  have hmem : memOK (m.set b.toNat (over (rd_T76 m b) o Y)) = true := by
    unfold memOK
    rw [Bool.and_eq_true, List.all_eq_true, List.length_set, rd_set m b 0 _ b0 b2 (by omega), if_neg (fun e => hbn e.symm)]
    refine ⟨decide_eq_true hmm.1, fun y hy => ?_⟩
    rcases List.mem_or_eq_of_mem_set hy with hy | hy
    · exact hmm.2 _ hy
    · rw [hy]
      exact hblk
  have ht' : thereB (m.set b.toNat (over (rd_T76 m b) o Y)) p n b o = true := by
    unfold thereB at ht ⊢
    rw [List.length_set]
    exact ht
  have hr : rd_T76 (m.set b.toNat (over (rd_T76 m b) o Y)) b = over (rd_T76 m b) o Y := by rw [rd_set m b b _ b0 b2 b0, if_pos rfl]
  have hwv : wayV (m.set b.toNat (over (rd_T76 m b) o Y)) b o (sizev ptr kind) = 0 := by
    rw [← hw]
    unfold wayV
    rw [hr, hol]
    rfl
  have hln : b < ((m.set b.toNat (over (rd_T76 m b) o Y)).length : Int) := by rw [List.length_set]; exact b2
  have e : wrap64 (o + sizev ptr kind) = o + sizev ptr kind := w64 (by omega) (by omega)
  unfold mem_Load.f
  refine Ev.bindS (asked_f big ptr _ p n b o kind) (Ev.pos ?_ ?_)
  · rw [decide_eq_true hp, hmem, ht', decide_eq_true hk]
    rfl
  have T : Ev (fun k => mem_Take.f k big ptr (m.set b.toNat (over (rd_T76 m b) o Y)) p n b o kind) (p', n', b', o', 0) := by
    unfold mem_Take.f
    refine Ev.bindS (way_q big ptr _ p n b o kind hp hk b0 hln o0 o1) (Ev.pos hwv (Ev.pos b0 (Ev.pos hln (Ev.bindS (abytes big ptr kind hk) ?_))))
    rw [e, hr, hol, show o + sizev ptr kind = o + (Y.length : Int) by omega, hom]
    exact Ev.pos o0 (Ev.pos (by omega) (Ev.pos (by omega) (Ev.bind hrb (Ev.now _))))
  exact Ev.bind T (Ev.now _)
end
theorem scal_ok (kind : Int) (h : 1 ≤ kind ∧ kind ≤ 6) : mayS kind false (wrap64 (93 + kind)) 0 0 = true := by
  have : kind = 1 ∨ kind = 2 ∨ kind = 3 ∨ kind = 4 ∨ kind = 5 ∨ kind = 6 := by omega
  rcases this with rfl | rfl | rfl | rfl | rfl | rfl <;> decide +kernel
theorem ptr_ok : mayS 7 true 0 1 (Int.tmod 7 3) = true := by kernel_rfl
theorem go_q (m : List S76) (p : Bool) (n b o a : Int) (hm : memOK m = true) (ht : thereB m p n b o = true) (ha : a = 1 ∨ a = 4294967295) :
    Ev (fun k => mem_Move.f k m p n b o a) (if (rd_T76 m b).f0 = 1 then (if 0 ≤ o + view32 a ∧ o + view32 a ≤ ((rd_T76 m b).f1.length : Int) then (p, n, b, o + view32 a, 0, 0) else (false, 0, 0, 0, 1, 0)) else (false, 0, 0, 0, 2, 0)) := by
  obtain ⟨_, b0, _, b2, o0, o1⟩ := there_of m p n b o ht
  obtain ⟨v0, v1, _⟩ := view_range a (by omega) (by omega)
  have e : wrap64 (o + view32 a) = o + view32 a := w64 (by omega) (by omega)
  have J : Ev (fun k => mem_Go.j0 k m (o + view32 a) false p n b o) (if (rd_T76 m b).f0 = 1 then (if 0 ≤ o + view32 a ∧ o + view32 a ≤ ((rd_T76 m b).f1.length : Int) then (p, n, b, o + view32 a, 0) else (false, 0, 0, 0, 1)) else (false, 0, 0, 0, 2)) := by
    refine Ev.step (fun k => by rw [mem_Go.j0]) (Ev.neg (by decide) (Ev.pos b0 (Ev.pos b2 ?_)))
    by_cases s : (rd_T76 m b).f0 = 1
    · simp only [if_pos s]
      by_cases i : 0 ≤ o + view32 a ∧ o + view32 a ≤ ((rd_T76 m b).f1.length : Int)
      · rw [if_pos i]
        exact Ev.neg (by omega) (Ev.neg (by omega) (Ev.now _))
      · rw [if_neg i]
        exact Ev.cond (fun _ => Ev.now _) (fun c => Ev.pos (by omega) (Ev.now _))
    · simp only [if_neg s]
      exact Ev.now _
  have G : Ev (fun k => mem_Go.f k m p n b o a) (if (rd_T76 m b).f0 = 1 then (if 0 ≤ o + view32 a ∧ o + view32 a ≤ ((rd_T76 m b).f1.length : Int) then (p, n, b, o + view32 a, 0) else (false, 0, 0, 0, 1)) else (false, 0, 0, 0, 2)) := by
    unfold mem_Go.f
    refine Ev.bindS (look32 a) ?_
    rw [e, show (a == 0) = false by rw [beq_eq_false_iff_ne]; omega]
    exact Ev.cond (fun _ => J) (fun _ => J)
  unfold mem_Move.f
  refine Ev.bindS (may_m m) (Ev.pos hm (Ev.bindS (there_f m p n b o) (Ev.pos ht (Ev.bindS (is32 a) (Ev.pos (decide_eq_true (by omega)) (Ev.bind G ?_))))))
  by_cases s : (rd_T76 m b).f0 = 1
  · simp only [if_pos s]
    by_cases i : 0 ≤ o + view32 a ∧ o + view32 a ≤ ((rd_T76 m b).f1.length : Int)
    · simp only [if_pos i]
      exact Ev.now _
    · simp only [if_neg i]
      exact Ev.now _
  · simp only [if_neg s]
    exact Ev.now _
theorem go_no (m : List S76) (p : Bool) (n b o a : Int) (hm : memOK m = true) (ht : ¬ thereB m p n b o = true) : Ev (fun k => mem_Move.f k m p n b o a) (false, 0, 0, 0, 0, 1) := by
  unfold mem_Move.f
  exact Ev.bindS (may_m m) (Ev.pos hm (Ev.bindS (there_f m p n b o) (Ev.neg ht (Ev.now _))))
section
variable (M : List (List S76)) (S : List S62) (N : List Int) (A : List S29) (hM : M.length ≤ 140737488351232) (hMm : ∀ m ∈ M, m.length < 4398046511104 ∧ ∀ b ∈ m, b.f1.length < 3518437208883) (hS : S.length ≤ 4398046510976) (hN : N.length ≤ 140737488351232) (hA : A.length ≤ 8796093021952)
section
variable (L : List S62) (c t : Int) (m : List S76) (c0 : 0 ≤ c) (c1 : c < (M.length : Int)) (hmc : rd_L4 M c = m) (hm : memOK m = true) (t0 : 0 ≤ t) (t1 : t < (L.length : Int))
  (big : Bool) (ptr : Int) (hp : ptr = 2 ∨ ptr = 4)
section
variable (kind : Int) (hk : 1 ≤ kind ∧ kind ≤ 7) (nx : Ev (fun k => cellarlaw9_MemBack.l2 k c L t (kind + 1) M S N A big ptr) true)
include c0 c1 hmc hm t0 t1 hp hk nx
theorem l3_ev (Y : List S74) (hY : (Y.length : Int) = sizev ptr kind) (b0 : 0 ≤ (rd_T62 L t).f2) (b1 : (rd_T62 L t).f2 < (m.length : Int)) (o0 : 0 ≤ (rd_T62 L t).f3) (o1 : (rd_T62 L t).f3 ≤ 32) (ho : (rd_T62 L t).f3 + (Y.length : Int) ≤ ((rd_T76 m (rd_T62 L t).f2).f1.length : Int)) :
    ∀ i : Int, 0 ≤ i → i ≤ (m.length : Int) → Ev (fun k => cellarlaw9_MemBack.l3 k c L t kind (m.set (rd_T62 L t).f2.toNat (over (rd_T76 m (rd_T62 L t).f2) (rd_T62 L t).f3 Y)) (sizev ptr kind) i M S N A big ptr) true := by
  have hz := size_small ptr kind hp hk
  have hmm := mem_of m hm
  have hX : (m.set (rd_T62 L t).f2.toNat (over (rd_T76 m (rd_T62 L t).f2) (rd_T62 L t).f3 Y)).length = m.length := List.length_set
  have hr : ∀ i : Int, 0 ≤ i → rd_T76 (m.set (rd_T62 L t).f2.toNat (over (rd_T76 m (rd_T62 L t).f2) (rd_T62 L t).f3 Y)) i = if i = (rd_T62 L t).f2 then over (rd_T76 m (rd_T62 L t).f2) (rd_T62 L t).f3 Y else rd_T76 m i := fun i i0 => rd_set m _ i _ b0 b1 i0
  have hol := over_len (rd_T76 m (rd_T62 L t).f2) (rd_T62 L t).f3 Y o0 ho
  have hog := over_get (rd_T76 m (rd_T62 L t).f2) (rd_T62 L t).f3 Y o0 ho
  generalize m.set (rd_T62 L t).f2.toNat (over (rd_T76 m (rd_T62 L t).f2) (rd_T62 L t).f3 Y) = X at hX hr ⊢
  refine down (Q := fun i => Ev (fun k => cellarlaw9_MemBack.l3 k c L t kind X (sizev ptr kind) i M S N A big ptr) true) ?_ ?_
  · refine Ev.step (fun k => by rw [cellarlaw9_MemBack.l3]) ?_
    refine Ev.neg (by omega) ?_
    rw [w64 (z := kind + 1) (by omega) (by omega)]
    exact nx
  intro i i0 i1 ih
  have hlen : (rd_T76 X i).f1.length = (rd_T76 m i).f1.length := by
    rw [hr i i0]
    split
    · rename_i e
      rw [hol, e]
    · rfl
  have hst : (rd_T76 X i).f0 = (rd_T76 m i).f0 := by
    rw [hr i i0]
    split
    · rename_i e
      rw [e]
      rfl
    · rfl
  have h32 : (rd_T76 m i).f1.length ≤ 32 := (blk_of _ (hmm.2 _ (rd_mem m i i0 i1))).1.2.2.1
  refine Ev.step (fun k => by rw [cellarlaw9_MemBack.l3]) (Ev.pos (by omega) (Ev.pos i0 (Ev.pos c0 (Ev.pos c1 ?_))))
  rw [hmc]
  refine Ev.pos i1 (Ev.pos (by omega) ?_)
  refine Ev.step (fun k => by rw [cellarlaw9_MemBack.j8]) (Ev.neg (by rw [hst]; simp) ?_)
  have key : ∀ j : Int, 0 ≤ j → j ≤ ((rd_T76 X i).f1.length : Int) → Ev (fun k => cellarlaw9_MemBack.l4 k c L t kind X (sizev ptr kind) i j M S N A big ptr) true := by
    refine down (Q := fun j => Ev (fun k => cellarlaw9_MemBack.l4 k c L t kind X (sizev ptr kind) i j M S N A big ptr) true) ?_ ?_
    · refine Ev.step (fun k => by rw [cellarlaw9_MemBack.l4]) (Ev.pos i0 (Ev.pos (by omega) (Ev.neg (by omega) ?_)))
      rw [w64 (z := i + 1) (by omega) (by omega)]
      exact ih
    intro j j0 j1 ihj
    have J : ∀ f : Bool, (f = false → rd_T74 (rd_T76 X i).f1 j = rd_T74 (rd_T76 m i).f1 j) → Ev (fun k => cellarlaw9_MemBack.j10 k c L t kind X (sizev ptr kind) i j f M S N A big ptr) true := by
      intro f hf
      refine Ev.step (fun k => by rw [cellarlaw9_MemBack.j10]) ?_
      rw [w64 (z := j + 1) (by omega) (by omega)]
      cases f with
      | true => exact Ev.pos rfl ihj
      | false =>
        refine Ev.neg (by decide) (Ev.pos i0 (Ev.pos (by omega) (Ev.pos j0 (Ev.pos j1 (Ev.pos c0 (Ev.pos c1 ?_))))))
        rw [hmc, hf rfl]
        exact Ev.pos i1 (Ev.pos (by omega) (Ev.neg (by simp) ihj))
    refine Ev.step (fun k => by rw [cellarlaw9_MemBack.l4]) (Ev.pos i0 (Ev.pos (by omega) (Ev.pos j1 (Ev.pos t0 (Ev.pos t1 ?_)))))
    rw [w64 (z := (rd_T62 L t).f3 + sizev ptr kind) (by omega) (by omega)]
    by_cases e : i = (rd_T62 L t).f2
    · refine Ev.pos e ?_
      by_cases d : j ≥ (rd_T62 L t).f3
      · refine Ev.pos d (J _ fun hf => ?_)
        rw [hr i i0, if_pos e, e]
        exact hog j j0 (.inr (by have := of_decide_eq_false hf; omega))
      · refine Ev.neg d (J _ fun _ => ?_)
        rw [hr i i0, if_pos e, e]
        exact hog j j0 (.inl (by omega))
    · refine Ev.neg e (J _ fun _ => ?_)
      rw [hr i i0, if_neg e]
  exact key 0 (by omega) (by omega)
theorem j4_ev (p' : Bool) (n' b' o' : Int) (hs : mayS kind p' n' b' o' = true) (hl : m.length < 4398046511104) (hb : ∀ b ∈ m, b.f1.length < 3518437208883) : Ev (fun k => cellarlaw9_MemBack.j4 k c L t kind M S N A big ptr p' n' b' o') true := by
  have hz := size_small ptr kind hp hk
  have hmm := mem_of m hm
  have nx' : Ev (fun k => cellarlaw9_MemBack.l2 k c L t (wrap64 (kind + 1)) M S N A big ptr) true := by
    rw [w64 (z := kind + 1) (by omega) (by omega)]
    exact nx
  refine Ev.step (fun k => by rw [cellarlaw9_MemBack.j4]) (Ev.pos c0 (Ev.pos c1 (Ev.pos t0 (Ev.pos t1 ?_))))
  rw [hmc]
  by_cases ht : thereB m (rd_T62 L t).f0 (rd_T62 L t).f1 (rd_T62 L t).f2 (rd_T62 L t).f3 = true
  case neg =>
    refine Ev.bind (store_no big ptr m _ _ _ _ kind p' n' b' o' hp hm hk hs ht) ?_
    refine Ev.bindS (show cellarlaw9_num.f 1 = some 1 from rfl) (Ev.neg (by decide) ?_)
    refine Ev.step (fun k => by rw [cellarlaw9_MemBack.j5]) ?_
    exact Ev.pos rfl (Ev.bindS (show cellarlaw9_num.f 1 = some 1 from rfl) (Ev.neg (by decide) nx'))
  have hst := store_ev big ptr m _ _ _ _ kind p' n' b' o' hp hm hk hs ht
  obtain ⟨_, b0, _, b2, o0, o1⟩ := there_of m _ _ _ _ ht
  by_cases w : wayV m (rd_T62 L t).f2 (rd_T62 L t).f3 (sizev ptr kind) = 0
  case neg =>
    simp only [if_neg w] at hst
    refine Ev.bind hst (Ev.bindS (show cellarlaw9_num.f 0 = some 0 from rfl) (Ev.pos rfl ?_))
    refine Ev.step (fun k => by rw [cellarlaw9_MemBack.j5]) ?_
    refine Ev.pos (by rw [bne_iff_ne]; exact w) (Ev.bindS (show cellarlaw9_num.f 0 = some 0 from rfl) (Ev.pos rfl (Ev.pos c0 (Ev.pos c1 ?_))))
    rw [hmc]
    exact Ev.bind (eqs_self m hl hb) (Ev.pos rfl nx')
  simp only [if_pos w] at hst
  obtain ⟨h1, h2, hld⟩ := load_back big ptr m _ _ _ _ kind p' n' b' o' hp hm hk hs ht w
  have hlen := put_len big (sizev ptr kind).toNat p' n' b' o'
  have h3 := l3_ev M S N A L c t m c0 c1 hmc hm t0 t1 big ptr hp kind hk nx (putL big (sizev ptr kind).toNat p' n' b' o') (by omega) b0 b2 o0 o1 (by omega) 0 (by omega) (by omega)
  generalize hX : m.set (rd_T62 L t).f2.toNat (over (rd_T76 m (rd_T62 L t).f2) (rd_T62 L t).f3 (putL big (sizev ptr kind).toNat p' n' b' o')) = X at hst hld h3
  have hXl : X.length = m.length := by rw [← hX, List.length_set]
  refine Ev.bind hst (Ev.bindS (show cellarlaw9_num.f 0 = some 0 from rfl) (Ev.pos rfl ?_))
  refine Ev.step (fun k => by rw [cellarlaw9_MemBack.j5]) ?_
  refine Ev.neg (by simp [w]) (Ev.pos t0 (Ev.pos t1 (Ev.bind hld ?_)))
  refine Ev.bindS (show cellarlaw9_num.f 0 = some 0 from rfl) (Ev.pos rfl (Ev.pos rfl (Ev.neg (by simp) (Ev.pos c0 (Ev.pos c1 ?_)))))
  rw [hmc]
  refine Ev.step (fun k => by rw [cellarlaw9_MemBack.j6]) ?_
  refine Ev.neg (by rw [hXl]; simp) (Ev.bind (Ev.plus 2 (rsizeQ big ptr kind hk)) h3)
end
include c0 c1 hmc hm t0 t1 hp
theorem l2_ev (hl : m.length < 4398046511104) (hb : ∀ b ∈ m, b.f1.length < 3518437208883) (nx : Ev (fun k => cellarlaw9_MemBack.l1 k c L (t + 1) M S N A) true) (tt : t < 100) : Ev (fun k => cellarlaw9_MemBack.l2 k c L t 1 M S N A big ptr) true := by
  have nx' : Ev (fun k => cellarlaw9_MemBack.l1 k c L (wrap64 (t + 1)) M S N A) true := by
    rw [w64 (z := t + 1) (by omega) (by omega)]
    exact nx
  have fin : ∀ (p : Bool) (n b o : Int), Ev (fun k => cellarlaw9_MemBack.j11 k c L t false M S N A p n b o) true := by
    intro p n b o
    refine Ev.step (fun k => by rw [cellarlaw9_MemBack.j11]) ?_
    exact Ev.neg (by decide) nx'
  have key : ∀ kind : Int, 1 ≤ kind → kind ≤ 8 → Ev (fun k => cellarlaw9_MemBack.l2 k c L t kind M S N A big ptr) true := by
    refine down (Q := fun kind => Ev (fun k => cellarlaw9_MemBack.l2 k c L t kind M S N A big ptr) true) ?_ ?_
    · refine Ev.step (fun k => by rw [cellarlaw9_MemBack.l2]) (Ev.neg (by decide) (Ev.pos c0 (Ev.pos c1 (Ev.pos t0 (Ev.pos t1 ?_)))))
      rw [hmc]
      by_cases ht : thereB m (rd_T62 L t).f0 (rd_T62 L t).f1 (rd_T62 L t).f2 (rd_T62 L t).f3 = true
      case neg => exact Ev.bind (go_no m _ _ _ _ 1 hm ht) (Ev.bindS (show cellarlaw9_num.f 1 = some 1 from rfl) (Ev.neg (by decide) (fin _ _ _ _)))
      have hg := go_q m _ _ _ _ 1 hm ht (.inl rfl)
      obtain ⟨hpt, b0, b32, b2, o0, o1⟩ := there_of m _ _ _ _ ht
      have hmm := mem_of m hm
      have h32 : (rd_T76 m (rd_T62 L t).f2).f1.length ≤ 32 := (blk_of _ (hmm.2 _ (rd_mem m _ b0 b2))).1.2.2.1
      rw [show view32 1 = 1 by kernel_rfl] at hg
      by_cases s : (rd_T76 m (rd_T62 L t).f2).f0 = 1
      case neg =>
        simp only [if_neg s] at hg
        exact Ev.bind hg (Ev.bindS (show cellarlaw9_num.f 0 = some 0 from rfl) (Ev.pos rfl (fin _ _ _ _)))
      simp only [if_pos s] at hg
      by_cases d : 0 ≤ (rd_T62 L t).f3 + 1 ∧ (rd_T62 L t).f3 + 1 ≤ ((rd_T76 m (rd_T62 L t).f2).f1.length : Int)
      case neg =>
        simp only [if_neg d] at hg
        exact Ev.bind hg (Ev.bindS (show cellarlaw9_num.f 0 = some 0 from rfl) (Ev.pos rfl (fin _ _ _ _)))
      simp only [if_pos d] at hg
      refine Ev.bind hg (Ev.bindS (show cellarlaw9_num.f 0 = some 0 from rfl) (Ev.pos rfl ?_))
      refine Ev.step (fun k => by rw [cellarlaw9_MemBack.j11]) ?_
      refine Ev.pos rfl (Ev.pos c0 (Ev.pos c1 ?_))
      rw [hmc]
      have ht2 : thereB m (rd_T62 L t).f0 (rd_T62 L t).f1 (rd_T62 L t).f2 ((rd_T62 L t).f3 + 1) = true := by
        have ht' := ht
        unfold thereB mayS at ht' ⊢
        rw [if_pos rfl, Bool.and_eq_true, decide_eq_true_eq, decide_eq_true_eq] at ht' ⊢
        have hb0 : (rd_T62 L t).f2 ≠ 0 := by
          intro e
          rw [e] at s
          omega
        exact ⟨⟨ht'.1.1, ht'.1.2.1, ht'.1.2.2.1, by omega, by omega⟩, ht'.2⟩
      have hg2 := go_q m _ _ _ _ 4294967295 hm ht2 (.inr rfl)
      rw [show view32 4294967295 = -1 by kernel_rfl, if_pos s, if_pos (by omega), show (rd_T62 L t).f3 + 1 + -1 = (rd_T62 L t).f3 by omega] at hg2
      have ha := apart_f m (rd_T62 L t).f0 (rd_T62 L t).f1 (rd_T62 L t).f2 ((rd_T62 L t).f3 + 1) (rd_T62 L t).f0 (rd_T62 L t).f1 (rd_T62 L t).f2 (rd_T62 L t).f3
      rw [hm, ht, ht2, if_pos (show (true && true && true) = true from rfl)] at ha
      unfold apartV at ha
      rw [if_pos rfl, show (rd_T62 L t).f3 + 1 - (rd_T62 L t).f3 = 1 by omega, show Go.bits .and .i64 (wrap64 1) 4294967295 = 1 by kernel_rfl] at ha
      refine Ev.bind hg2 (Ev.pos t0 (Ev.pos t1 (Ev.bindS ha ?_)))
      refine Ev.bindS (show cellarlaw9_num.f 0 = some 0 from rfl) (Ev.pos rfl (Ev.bindS (show cellarlaw9_num.f 0 = some 0 from rfl) (Ev.pos rfl (Ev.pos rfl (Ev.pos rfl (Ev.neg (by simp) ?_))))))
      refine Ev.step (fun k => by rw [cellarlaw9_MemBack.j12]) ?_
      exact Ev.neg (by decide) nx'
    intro kind k0 k1 ih
    refine Ev.step (fun k => by rw [cellarlaw9_MemBack.l2]) (Ev.pos (by omega) ?_)
    by_cases e : kind = 7
    · subst e
      exact Ev.pos rfl (j4_ev M S N A L c t m c0 c1 hmc hm t0 t1 big ptr hp 7 (by decide) ih true 0 1 (Int.tmod 7 3) ptr_ok hl hb)
    · exact Ev.neg e (j4_ev M S N A L c t m c0 c1 hmc hm t0 t1 big ptr hp kind (by omega) ih false (wrap64 (93 + kind)) 0 0 (scal_ok kind (by omega)) hl hb)
  exact key 1 (by omega) (by omega)
end
include hM hMm hS hN hA
theorem back_true : Ev (fun k => cellarlaw9_MemBack.f k M S N A) true := by
  have wakes_ev : Ev (fun k => cellarlaw9_wakes.f k) true := by
    refine Ev.plus 40 fun k => ?_
    kernel_rfl
  have fin : ∀ c, Ev (fun k => cellarlaw9_MemBack.j1 k c false M S N A) true := by
    intro c
    refine Ev.step (fun k => by rw [cellarlaw9_MemBack.j1]) ?_
    exact Ev.neg (by decide) (Ev.bind wakes_ev (Ev.now _))
  have key : ∀ c : Int, 0 ≤ c → c ≤ M.length → Ev (fun k => cellarlaw9_MemBack.l0 k c M S N A) true := by
    refine down (Q := fun c => Ev (fun k => cellarlaw9_MemBack.l0 k c M S N A) true) ?_ ?_
    · refine Ev.step (fun k => by rw [cellarlaw9_MemBack.l0]) ?_
      exact Ev.neg (by omega) (fin _)
    intro c c0 c1 ih
    refine Ev.step (fun k => by rw [cellarlaw9_MemBack.l0]) (Ev.pos c1 ?_)
    by_cases d : c < 5
    case neg =>
      rw [decide_eq_false d]
      exact fin _
    rw [decide_eq_true d]
    have hb : (rd_L4 M c).length < 4398046511104 ∧ ∀ b ∈ rd_L4 M c, b.f1.length < 3518437208883 := by
      obtain ⟨n, rfl⟩ := Int.eq_ofNat_of_zero_le c0
      rw [rd_getL M n (by omega)]
      exact hMm _ (List.getElem_mem _)
    generalize hmc : rd_L4 M c = m at hb
    have ih' : Ev (fun k => cellarlaw9_MemBack.l0 k (wrap64 (c + 1)) M S N A) true := by
      rw [w64 (z := c + 1) (by omega) (by omega)]
      exact ih
    refine Ev.step (fun k => by rw [cellarlaw9_MemBack.j1]) (Ev.pos rfl (Ev.pos c0 (Ev.pos c1 ?_)))
    rw [hmc]
    refine Ev.bindS (check_m m) ?_
    by_cases hm : memOK m = true
    case neg =>
      rw [if_neg hm]
      exact Ev.bindS (show cellarlaw9_num.f 1 = some 1 from rfl) (Ev.neg (by decide) ih')
    rw [if_pos hm]
    obtain ⟨L, hL, hLl⟩ := ptrs_ev M S N A hM hMm hS hN hA m
    refine Ev.bindS (show cellarlaw9_num.f 0 = some 0 from rfl) (Ev.pos rfl (Ev.bind hL ?_))
    have hp : wrap64 (2 + (wrap64 (2 * (Int.tmod c 2)))) = 2 ∨ wrap64 (2 + (wrap64 (2 * (Int.tmod c 2)))) = 4 := by
      have : c = 0 ∨ c = 1 ∨ c = 2 ∨ c = 3 ∨ c = 4 := by omega
      rcases this with rfl | rfl | rfl | rfl | rfl <;> decide +kernel
    have key : ∀ t : Int, 0 ≤ t → t ≤ L.length → Ev (fun k => cellarlaw9_MemBack.l1 k c L t M S N A) true := by
      refine down (Q := fun t => Ev (fun k => cellarlaw9_MemBack.l1 k c L t M S N A) true) ?_ ?_
      · refine Ev.step (fun k => by rw [cellarlaw9_MemBack.l1]) ?_
        exact Ev.neg (by omega) ih'
      intro t t0 t1 iht
      refine Ev.step (fun k => by rw [cellarlaw9_MemBack.l1]) (Ev.pos t1 ?_)
      exact l2_ev M S N A L c t m c0 c1 hmc hm t0 t1 _ _ hp hb.1 hb.2 iht (by omega)
    exact key 0 (by omega) (by omega)
  unfold cellarlaw9_MemBack.f
  obtain ⟨b, hb⟩ := heavy_ev M S N A hM hMm hS hN hA
  refine Ev.bind hb ?_
  cases b with
  | true => exact Ev.pos rfl (Ev.now _)
  | false => exact Ev.neg (by decide) (key 0 (by omega) (by omega))
end
end Go.Proofs.Ytjoplkillkhiaaa.Q2
/- The pure statement of MemBack: over plain lists and numbers, for every argument in range the law's function answers true. -/
namespace Go.Proofs.Ytjoplkillkhiaaa.PureQ2
open Go.RowKit Go.Proofs.YtjoplkillkhiaaaW.PrintWords Go.Proofs.Ytjoplkillkhiaaa.Evs Go.Proofs.Ytjoplkillkhiaaa.Q2
theorem MemBack (l0 : List (List S76)) (l1 : List S62) (l2 : List Int) (l3 : List S29) (h : Arg54 l0 l1 l2 l3) : ∃ k, cellarlaw9_MemBack.f k l0 l1 l2 l3 = some true :=
  Ev.at_ (back_true l0 l1 l2 l3 (by have := h.1.1; omega) (fun m hm => by
    have a := h.1.2 m hm
    refine ⟨by have := a.1; omega, fun b hb => ?_⟩
    have c := (a.2 b hb).2.1
    omega) (by have := h.2.1.1; omega) (by have := h.2.2.1.1; omega) (by have := h.2.2.2.1; omega))
end Go.Proofs.Ytjoplkillkhiaaa.PureQ2
