/- What the program's memory tells of moving a place, and of two places, is what the reference tells. No Go and no memory in it. -/
import Derived.Test.YtjoplkillkhiaaaMx14
import Derived.Test.YtjoplkillkhiaaaFn
import Derived.Test.YtjoplkillkhiaaaVMore
import Derived.Test.YtjoplkillkhiaaaEvs
namespace Go.Proofs.Ytjoplkillkhiaaa.M
open Go.RowKit Go.Proofs.Ytjoplkillkhiaaa.Fn Go.Proofs.YtjoplkillkhiaaaW.PrintWords Go.Proofs.YtjoplkillkhiaaaW.PrintLast Go.Proofs.YtjoplkillkhiaaaW.PrintMore Go.Proofs.Ytjoplkillkhiaaa.Evs
set_option linter.unusedVariables false
set_option linter.unusedSimpArgs false
theorem mask_nat (n : Int) (j : Nat) : ((BitVec.ofInt 64 n).toNat &&& (2 ^ j - 1) : Nat) = (n % 18446744073709551616).toNat % 2 ^ j := by
  rw [Nat.and_two_pow_sub_one_eq_mod, BitVec.toNat_ofInt]
  rfl
theorem mask_i64 (n : Int) (j : Nat) (m : Nat) (hm : m = 2 ^ j - 1) (hj : j ≤ 32) : Go.bits .and .i64 n (m : Int) = (((n % 18446744073709551616).toNat % 2 ^ j : Nat) : Int) := by
  have hp : 2 ^ j ≤ 2 ^ 32 := Nat.pow_le_pow_right (by decide) hj
  have h0 : 0 < 2 ^ j := Nat.two_pow_pos j
  have h1 : (n % 18446744073709551616).toNat % 2 ^ j < 2 ^ 32 := Nat.lt_of_lt_of_le (Nat.mod_lt _ h0) hp
  have e : (BitVec.ofInt 64 (m : Int)).toNat = m := by
    rw [BitVec.ofInt_natCast, BitVec.toNat_ofNat]
    exact Nat.mod_eq_of_lt (by omega)
  show IntKind.i64.wrap ((BitVec.ofInt 64 n &&& BitVec.ofInt 64 (m : Int)).toNat : Int) = _
  rw [BitVec.toNat_and, e, hm, mask_nat, IntKind.wrap_i64]
  omega
theorem mask8 (n : Int) : Go.bits .and .i64 n 255 = n % 256 := by
  have h := mask_i64 n 8 255 (by decide) (by decide)
  have e : ((255 : Nat) : Int) = 255 := rfl
  rw [e] at h
  rw [h]
  omega
theorem mask16 (n : Int) : Go.bits .and .i64 n 65535 = n % 65536 := by
  have h := mask_i64 n 16 65535 (by decide) (by decide)
  have e : ((65535 : Nat) : Int) = 65535 := rfl
  rw [e] at h
  rw [h]
  omega
theorem mask32 (n : Int) : Go.bits .and .i64 n 4294967295 = n % 4294967296 := by
  have h := mask_i64 n 32 4294967295 (by decide) (by decide)
  have e : ((4294967295 : Nat) : Int) = 4294967295 := rfl
  rw [e] at h
  rw [h]
  omega
/-- What is known of a kind of numbers: its width w, half of its numbers h, all of them P, its bytes b. -/
structure KD (kind w h P b : Int) : Prop where
  of : word_Of.f kind = some w
  wd : ∀ k, cellarref1_Width.f (k + 2) kind = some w
  isk : word_IsKind.f kind = some true
  w1 : 8 ≤ w
  w2 : w ≤ 32
  s1 : shl .i64 1 w = P
  s2 : shl .i64 1 (w - 1) = h
  PP : P = 2 * h
  h1 : 128 ≤ h
  h2 : h ≤ 2147483648
  msk : ∀ n, Go.bits .and .i64 n (P - 1) = n % P
  wb : wrap64 (Int.tdiv w 8) = b
  bb : (b = 1 ∧ P = 256) ∨ (b = 2 ∧ P = 65536) ∨ (b = 4 ∧ P = 4294967296)
  k7 : 1 ≤ kind ∧ kind ≤ 6
theorem kd_of (kind : Int) (h0 : 1 ≤ kind) (h1 : kind ≤ 6) : ∃ w h P b, KD kind w h P b := by
  have : kind = 1 ∨ kind = 2 ∨ kind = 3 ∨ kind = 4 ∨ kind = 5 ∨ kind = 6 := by omega
  rcases this with rfl | rfl | rfl | rfl | rfl | rfl
  · exact ⟨8, 128, 256, 1, by decide +kernel, fun k => rfl, by decide +kernel, by decide, by decide, by decide +kernel, by decide +kernel, by decide, by decide, by decide, mask8, by decide +kernel, .inl ⟨rfl, rfl⟩, by decide⟩
  · exact ⟨8, 128, 256, 1, by decide +kernel, fun k => rfl, by decide +kernel, by decide, by decide, by decide +kernel, by decide +kernel, by decide, by decide, by decide, mask8, by decide +kernel, .inl ⟨rfl, rfl⟩, by decide⟩
  · exact ⟨16, 32768, 65536, 2, by decide +kernel, fun k => rfl, by decide +kernel, by decide, by decide, by decide +kernel, by decide +kernel, by decide, by decide, by decide, mask16, by decide +kernel, .inr (.inl ⟨rfl, rfl⟩), by decide⟩
  · exact ⟨16, 32768, 65536, 2, by decide +kernel, fun k => rfl, by decide +kernel, by decide, by decide, by decide +kernel, by decide +kernel, by decide, by decide, by decide, mask16, by decide +kernel, .inr (.inl ⟨rfl, rfl⟩), by decide⟩
  · exact ⟨32, 2147483648, 4294967296, 4, by decide +kernel, fun k => rfl, by decide +kernel, by decide, by decide, by decide +kernel, by decide +kernel, by decide, by decide, by decide, mask32, by decide +kernel, .inr (.inr ⟨rfl, rfl⟩), by decide⟩
  · exact ⟨32, 2147483648, 4294967296, 4, by decide +kernel, fun k => rfl, by decide +kernel, by decide, by decide, by decide +kernel, by decide +kernel, by decide, by decide, by decide, mask32, by decide +kernel, .inr (.inr ⟨rfl, rfl⟩), by decide⟩
theorem no_kind (kind : Int) (h : kind < 1 ∨ 6 < kind) (k : Nat) : cellarref1_Width.f (k + 2) kind = some 0 := by
  unfold cellarref1_Width.f
  rw [if_neg (by omega)]
  simp only [cellarref1_Width.j0]
  rw [if_neg (by simp; omega), if_neg (by omega)]
  simp only [cellarref1_Width.j1]
  rw [if_neg (by simp; omega), if_neg (by omega), if_neg (by omega)]
theorem no_isk (kind : Int) (h : kind < 1 ∨ 6 < kind) : word_IsKind.f kind = some false := by
  unfold word_IsKind.f
  by_cases h1 : kind ≥ 1
  · rw [if_pos h1]
    simp
    omega
  · rw [if_neg h1]
section
variable {kind w h P b : Int} (K : KD kind w h P b)
include K
theorem KD.pm : wrap64 (P - 1) = P - 1 := by have := K.PP; have := K.h1; have := K.h2; exact w64 (by omega) (by omega)
theorem KD.w0 : 0 ≤ w := by have := K.w1; omega
theorem KD.most : word_Most.f w = some (P - 1) := by
  unfold word_Most.f
  rw [if_pos K.w0, K.s1, K.pm]
theorem KD.is (n : Int) : word_Is.f n w = some (decide (0 ≤ n ∧ n < P)) := by
  unfold word_Is.f
  by_cases hn : n ≥ 0
  · rw [if_pos hn, K.most, Option.bind_some]
    congr 1
    rw [decide_eq_decide]
    omega
  · rw [if_neg hn]
    congr 1
    symm
    rw [decide_eq_false_iff_not]
    omega
theorem KD.number (n : Int) : cellarref1_Number.f n w = some (decide (0 ≤ n ∧ n < P)) := by
  unfold cellarref1_Number.f cellarref0_Num.f
  rw [if_pos K.w0, K.s1, K.pm]
  by_cases hn : n ≥ 0
  · rw [if_pos hn, Option.bind_some]
    congr 1
    rw [decide_eq_decide]
    omega
  · rw [if_neg hn, Option.bind_some]
    congr 1
    symm
    rw [decide_eq_false_iff_not]
    omega
end
theorem num_le (n m : Int) : cellarref0_Num.f n m = some (decide (0 ≤ n ∧ n ≤ m)) := by
  unfold cellarref0_Num.f
  by_cases c : n ≥ 0
  · rw [if_pos c]
    congr 1
    rw [decide_eq_decide]
    omega
  · rw [if_neg c]
    congr 1
    symm
    rw [decide_eq_false_iff_not]
    omega
theorem up_le (n m : Int) : bytes_up.f n m = some (decide (0 ≤ n ∧ n ≤ m)) := num_le n m
theorem btw (n a m : Int) : cellarref0_Between.f n a m = some (decide (a ≤ n ∧ n ≤ m)) := by
  unfold cellarref0_Between.f
  by_cases c : n ≥ a
  · rw [if_pos c]
    congr 1
    rw [decide_eq_decide]
    omega
  · rw [if_neg c]
    congr 1
    symm
    rw [decide_eq_false_iff_not]
    omega
def isB (x : S74) : Bool := decide ((x.f0 = 0 ∧ x.f1 = 0 ∧ x.f2 = 0 ∧ x.f3 = 0 ∧ x.f4 = 0) ∨ (x.f0 = 1 ∧ (0 ≤ x.f1 ∧ x.f1 ≤ 255) ∧ x.f2 = 0 ∧ x.f3 = 0 ∧ x.f4 = 0) ∨ (x.f0 = 2 ∧ x.f1 = 0 ∧ (1 ≤ x.f2 ∧ x.f2 ≤ 32) ∧ (0 ≤ x.f3 ∧ x.f3 ≤ 32) ∧ 0 ≤ x.f4 ∧ x.f4 ≤ 3))
theorem is_b (x : S74) : bytes_Is.f x.f0 x.f1 x.f2 x.f3 x.f4 = some (isB x) := by
  unfold bytes_Is.f isB
  simp only [up_le, Option.bind_some]
  by_cases h0 : x.f0 = 0
  · rw [if_pos h0]
    congr 1
    rw [Bool.eq_iff_iff]
    simp [h0]
  · rw [if_neg h0]
    by_cases h1 : x.f0 = 1
    · rw [if_pos h1]
      by_cases c : 0 ≤ x.f1 ∧ x.f1 ≤ 255
      · rw [if_pos (decide_eq_true c)]
        congr 1
        rw [Bool.eq_iff_iff]
        simp [h1, c]
      · rw [if_neg (by simpa using c)]
        congr 1
        symm
        rw [decide_eq_false_iff_not]
        omega
    · rw [if_neg h1]
      by_cases h2 : x.f0 = 2
      · rw [if_pos h2]
        by_cases c1 : x.f1 = 0
        · rw [if_pos c1]
          by_cases c2 : x.f2 ≥ 1
          · rw [if_pos c2]
            by_cases c3 : x.f2 ≤ 32
            · rw [if_pos c3]
              by_cases c4 : 0 ≤ x.f3 ∧ x.f3 ≤ 32
              · rw [if_pos (decide_eq_true c4)]
                congr 1
                rw [decide_eq_decide]
                omega
              · rw [if_neg (by simpa using c4)]
                congr 1
                symm
                rw [decide_eq_false_iff_not]
                omega
            · rw [if_neg c3]
              congr 1
              symm
              rw [decide_eq_false_iff_not]
              omega
          · rw [if_neg c2]
            congr 1
            symm
            rw [decide_eq_false_iff_not]
            omega
        · rw [if_neg c1]
          congr 1
          symm
          rw [decide_eq_false_iff_not]
          omega
      · rw [if_neg h2]
        congr 1
        symm
        rw [decide_eq_false_iff_not]
        omega
def mayS (kind : Int) (p : Bool) (n b o : Int) : Bool :=
  if kind = 7 then decide (p = true ∧ n = 0 ∧ (0 ≤ b ∧ b ≤ 32) ∧ (0 ≤ o ∧ o ≤ 32) ∧ (0 < b ∨ o = 0))
  else decide ((1 ≤ kind ∧ kind ≤ 6) ∧ p = false ∧ (0 ≤ n ∧ n < shl .i64 1 ((word_Of.f kind).getD 0)) ∧ b = 0 ∧ o = 0)
theorem may_s (kind : Int) (p : Bool) (n b o : Int) : bytes_May.f kind p n b o = some (mayS kind p n b o) := by
  unfold bytes_May.f mayS
  by_cases hk : 1 ≤ kind ∧ kind ≤ 6
  · obtain ⟨w, hh, P, s, K⟩ := kd_of kind hk.1 hk.2
    rw [K.isk, Option.bind_some, if_pos rfl, if_neg (show ¬ kind = 7 by omega), K.of]
    cases p with
    | true => simp
    | false =>
      rw [if_neg (by decide), Option.bind_some, K.is, Option.bind_some]
      simp only [Option.getD_some, K.s1]
      by_cases c : 0 ≤ n ∧ n < P
      · rw [if_pos (decide_eq_true c)]
        by_cases d : b = 0
        · rw [if_pos d]
          congr 1
          rw [Bool.eq_iff_iff]
          simp [hk, c, d]
        · rw [if_neg d]
          congr 1
          symm
          rw [decide_eq_false_iff_not]
          omega
      · rw [if_neg (by simpa using c)]
        congr 1
        symm
        rw [decide_eq_false_iff_not]
        omega
  · rw [no_isk kind (by omega), Option.bind_some, if_neg (by decide)]
    simp only [up_le, Option.bind_some]
    by_cases h7 : kind = 7
    · rw [if_pos h7, if_pos h7]
      cases p with
      | true =>
        rw [if_pos rfl]
        by_cases c1 : n = 0
        · rw [if_pos c1]
          by_cases c2 : 0 ≤ b ∧ b ≤ 32
          · rw [if_pos (decide_eq_true c2)]
            by_cases c3 : 0 ≤ o ∧ o ≤ 32
            · rw [if_pos (decide_eq_true c3)]
              by_cases c4 : b > 0
              · rw [if_pos c4]
                congr 1
                symm
                rw [decide_eq_true_iff]
                exact ⟨rfl, c1, c2, c3, .inl c4⟩
              · rw [if_neg c4]
                congr 1
                rw [Bool.eq_iff_iff]
                simp [c1, c2, c3]
                omega
            · rw [if_neg (by simpa using c3)]
              congr 1
              symm
              rw [decide_eq_false_iff_not]
              omega
          · rw [if_neg (by simpa using c2)]
            congr 1
            symm
            rw [decide_eq_false_iff_not]
            omega
        · rw [if_neg c1]
          congr 1
          symm
          rw [decide_eq_false_iff_not]
          omega
      | false => simp
    · rw [if_neg h7, if_neg h7]
      congr 1
      symm
      rw [decide_eq_false_iff_not]
      omega
theorem rd_get (l : List S74) (i : Nat) (h : i < l.length) : rd_T74 l (i : Int) = l[i] := by
  unfold rd_T74
  simp [List.getD_eq_getElem?_getD, List.getElem?_eq_getElem h]
theorem put_of (kind : Int) (p : Bool) (n b o : Int) (h : mayS kind p n b o = true) : (kind = 7 ∧ p = true ∧ n = 0 ∧ 0 ≤ b ∧ b ≤ 32 ∧ 0 ≤ o ∧ o ≤ 32 ∧ (0 < b ∨ o = 0)) ∨ ((1 ≤ kind ∧ kind ≤ 6) ∧ p = false ∧ b = 0 ∧ o = 0 ∧ ∃ w hh P c, KD kind w hh P c ∧ 0 ≤ n ∧ n < P) := by
  unfold mayS at h
  by_cases e : kind = 7
  · rw [if_pos e, decide_eq_true_eq] at h
    exact .inl ⟨e, h.1, h.2.1, h.2.2.1.1, h.2.2.1.2, h.2.2.2.1.1, h.2.2.2.1.2, h.2.2.2.2⟩
  · rw [if_neg e, decide_eq_true_eq] at h
    obtain ⟨hk, hp, hn, hb, ho⟩ := h
    obtain ⟨w, hh, P, c, K⟩ := kd_of kind hk.1 hk.2
    rw [K.of, Option.getD_some, K.s1] at hn
    exact .inr ⟨hk, hp, hb, ho, w, hh, P, c, K, hn⟩
theorem ref_b (x : S74) : cellarref7_Byte.f x.f0 x.f1 x.f2 x.f3 x.f4 = some (isB x) := by
  unfold cellarref7_Byte.f isB
  simp only [num_le, btw, Option.bind_some]
  by_cases h0 : x.f0 = 0
  · rw [if_pos h0]
    congr 1
    rw [Bool.eq_iff_iff]
    simp [h0]
  · rw [if_neg h0]
    by_cases h1 : x.f0 = 1
    · rw [if_pos h1]
      by_cases c : 0 ≤ x.f1 ∧ x.f1 ≤ 255
      · rw [if_pos (decide_eq_true c)]
        by_cases c2 : x.f2 = 0
        · rw [if_pos c2]
          by_cases c3 : x.f3 = 0
          · rw [if_pos c3]
            congr 1
            rw [Bool.eq_iff_iff]
            simp [h1, c, c2, c3]
          · rw [if_neg c3]
            congr 1
            symm
            rw [decide_eq_false_iff_not]
            omega
        · rw [if_neg c2]
          congr 1
          symm
          rw [decide_eq_false_iff_not]
          omega
      · rw [if_neg (by simpa using c)]
        congr 1
        symm
        rw [decide_eq_false_iff_not]
        omega
    · rw [if_neg h1]
      by_cases h2 : x.f0 = 2
      · rw [if_pos h2]
        by_cases c1 : x.f1 = 0
        · rw [if_pos c1]
          by_cases c2 : 1 ≤ x.f2 ∧ x.f2 ≤ 32
          · rw [if_pos (decide_eq_true c2)]
            by_cases c4 : 0 ≤ x.f3 ∧ x.f3 ≤ 32
            · rw [if_pos (decide_eq_true c4)]
              congr 1
              rw [decide_eq_decide]
              omega
            · rw [if_neg (by simpa using c4)]
              congr 1
              symm
              rw [decide_eq_false_iff_not]
              omega
          · rw [if_neg (by simpa using c2)]
            congr 1
            symm
            rw [decide_eq_false_iff_not]
            omega
        · rw [if_neg c1]
          congr 1
          symm
          rw [decide_eq_false_iff_not]
          omega
      · rw [if_neg h2]
        congr 1
        symm
        rw [decide_eq_false_iff_not]
        omega
theorem ref_s (k : Nat) (kind : Int) (p : Bool) (n b o : Int) : cellarref7_Scalar.f (k + 2) kind p n b o = some (mayS kind p n b o) := by
  unfold cellarref7_Scalar.f mayS
  simp only [num_le, Option.bind_some]
  by_cases h7 : kind = 7
  · rw [if_pos h7, if_pos h7]
    cases p with
    | true =>
      rw [if_pos rfl]
      by_cases c1 : n = 0
      · rw [if_pos c1]
        by_cases c2 : 0 ≤ b ∧ b ≤ 32
        · rw [if_pos (decide_eq_true c2)]
          by_cases c3 : 0 ≤ o ∧ o ≤ 32
          · rw [if_pos (decide_eq_true c3)]
            by_cases c4 : b > 0
            · rw [if_pos c4]
              congr 1
              symm
              rw [decide_eq_true_iff]
              exact ⟨rfl, c1, c2, c3, .inl c4⟩
            · rw [if_neg c4]
              congr 1
              rw [Bool.eq_iff_iff]
              simp [c1, c2, c3]
              omega
          · rw [if_neg (by simpa using c3)]
            congr 1
            symm
            rw [decide_eq_false_iff_not]
            omega
        · rw [if_neg (by simpa using c2)]
          congr 1
          symm
          rw [decide_eq_false_iff_not]
          omega
      · rw [if_neg c1]
        congr 1
        symm
        rw [decide_eq_false_iff_not]
        omega
    | false => simp
  · rw [if_neg h7, if_neg h7]
    by_cases hk : 1 ≤ kind ∧ kind ≤ 6
    · obtain ⟨w, hh, P, s, K⟩ := kd_of kind hk.1 hk.2
      have w1 := K.w1
      rw [K.wd, K.of, Option.bind_some, if_pos (by omega)]
      cases p with
      | true => simp
      | false =>
        rw [if_neg (by decide), Option.bind_some, K.number]
        simp only [Option.getD_some, K.s1]
        by_cases d : b = 0
        · rw [if_pos d]
          by_cases e : o = 0
          · rw [if_pos e, Option.bind_some]
            congr 1
            rw [decide_eq_decide]
            constructor
            · intro c
              exact ⟨hk, trivial, c, d, e⟩
            · intro c
              exact c.2.2.1
          · rw [if_neg e]
            congr 1
            symm
            rw [decide_eq_false_iff_not]
            omega
        · rw [if_neg d]
          congr 1
          symm
          rw [decide_eq_false_iff_not]
          omega
    · rw [no_kind kind (by omega), Option.bind_some, if_neg (by decide)]
      congr 1
      symm
      rw [decide_eq_false_iff_not]
      omega
def blkOK (b : S76) : Bool := decide (0 ≤ b.f0 ∧ b.f0 ≤ 3 ∧ b.f1.length ≤ 32 ∧ (b.f0 = 1 ∨ b.f1.length = 0)) && b.f1.all isB
theorem any_not (l : List S74) : api_Byte_122.f l 123 = some (!(l.all isB)) := by
  unfold api_Byte_122.f
  rw [if_pos rfl, any_some (f := fun x => !isB x) (fun x => by unfold mem_block_1.f; rw [is_b]; rfl)]
  congr 1
  rw [List.not_all_eq_any_not]
theorem block_f (b : S76) : mem_block.f b.f0 b.f1 = some (blkOK b) := by
  unfold mem_block.f blkOK
  rw [any_not]
  simp only [Option.bind_some, Bool.not_not]
  by_cases a : b.f0 < 0
  · rw [if_pos a, decide_eq_false (by omega), Bool.false_and]
  rw [if_neg a]
  by_cases c : b.f0 > 3
  · rw [if_pos c, decide_eq_false (by omega), Bool.false_and]
  rw [if_neg c]
  by_cases d : (b.f1.length : Int) > 32
  · rw [if_pos d, decide_eq_false (by omega), Bool.false_and]
  rw [if_neg d]
  by_cases e : b.f0 = 1
  · rw [if_pos e, decide_eq_true (by omega), Bool.true_and]
  rw [if_neg e]
  by_cases g : (b.f1.length : Int) > 0
  · rw [if_pos g, decide_eq_false (by omega), Bool.false_and]
  · rw [if_neg g, decide_eq_true (by omega), Bool.true_and]
def memOK (m : List S76) : Bool := decide (1 ≤ m.length ∧ m.length ≤ 33 ∧ (rd_T76 m 0).f0 = 0) && m.all blkOK
theorem may_m (m : List S76) : mem_May.f m = some (memOK m) := by
  unfold mem_May.f memOK
  by_cases a : (m.length : Int) < 1
  · rw [if_pos a, decide_eq_false (by omega), Bool.false_and]
  rw [if_neg a]
  by_cases c : (m.length : Int) > 33
  · rw [if_pos c, decide_eq_false (by omega), Bool.false_and]
  rw [if_neg c, if_pos (by omega)]
  by_cases d : (rd_T76 m 0).f0 = 0
  · rw [if_pos d, decide_eq_true (by omega), Bool.true_and]
    unfold api_Block_107.f
    rw [if_pos rfl, any_some (f := fun x => !blkOK x) (fun x => by unfold mem_May_1.f; rw [block_f]; rfl), Option.bind_some, ← List.not_all_eq_any_not, Bool.not_not]
  · rw [if_neg d, decide_eq_false (by omega), Bool.false_and]
theorem bytes_all (l : List S74) (hl : l.length ≤ 1000000) : Ev (fun k => cellarref7_Bytes.f k l) (l.all isB) := by
  have key : ∀ i : Int, 0 ≤ i → i ≤ l.length → Ev (fun k => cellarref7_Bytes.l0 k l i) ((l.drop i.toNat).all isB) := by
    refine down (Q := fun i => Ev (fun k => cellarref7_Bytes.l0 k l i) ((l.drop i.toNat).all isB)) ?_ ?_
    · refine Ev.step (fun k => by rw [cellarref7_Bytes.l0]) ?_
      rw [Int.toNat_natCast, List.drop_length]
      exact Ev.neg (by omega) (Ev.now _)
    intro i i0 i1 ih
    obtain ⟨n, rfl⟩ := Int.eq_ofNat_of_zero_le i0
    have hn : n < l.length := by omega
    rw [show ((n : Int) + 1).toNat = n + 1 by omega] at ih
    rw [Int.toNat_natCast, List.drop_eq_getElem_cons hn, List.all_cons]
    refine Ev.step (fun k => by rw [cellarref7_Bytes.l0]) ?_
    refine Ev.pos i1 (Ev.pos i0 ?_)
    rw [rd_get l n hn]
    refine Ev.bindS (ref_b _) ?_
    cases h : isB l[n] with
    | true =>
      refine Ev.pos rfl ?_
      rw [w64 (z := (n : Int) + 1) (by omega) (by omega), Bool.true_and]
      exact ih
    | false => exact Ev.neg (by decide) (Ev.now _)
  exact key 0 (by omega) (by omega)
theorem rd_getT (l : List S76) (i : Nat) (h : i < l.length) : rd_T76 l (i : Int) = l[i] := by
  unfold rd_T76
  simp [List.getD_eq_getElem?_getD, List.getElem?_eq_getElem h]
theorem ref_mem (m : List S76) (hl : m.length ≤ 1000000000000000000) : Ev (fun k => cellarref7_Mem.f k m) (memOK m) := by
  have key : ∀ i : Int, 0 ≤ i → i ≤ m.length → Ev (fun k => cellarref7_Mem.l0 k m i) ((m.drop i.toNat).all blkOK) := by
    refine down (Q := fun i => Ev (fun k => cellarref7_Mem.l0 k m i) ((m.drop i.toNat).all blkOK)) ?_ ?_
    · refine Ev.step (fun k => by rw [cellarref7_Mem.l0]) ?_
      rw [Int.toNat_natCast, List.drop_length]
      exact Ev.neg (by omega) (Ev.now _)
    intro i i0 i1 ih
    obtain ⟨n, rfl⟩ := Int.eq_ofNat_of_zero_le i0
    have hn : n < m.length := by omega
    rw [show ((n : Int) + 1).toNat = n + 1 by omega] at ih
    rw [Int.toNat_natCast, List.drop_eq_getElem_cons hn, List.all_cons]
    refine Ev.step (fun k => by rw [cellarref7_Mem.l0]) ?_
    refine Ev.pos i1 (Ev.pos i0 ?_)
    rw [rd_getT m n hn, w64 (z := (n : Int) + 1) (by omega) (by omega)]
    refine Ev.bindS (num_le _ _) ?_
    generalize m[n] = b
    unfold blkOK
    by_cases a : 0 ≤ b.f0 ∧ b.f0 ≤ 3
    · refine Ev.pos (decide_eq_true a) ?_
      by_cases d : (b.f1.length : Int) > 32
      · rw [decide_eq_false (by omega), Bool.false_and, Bool.false_and]
        exact Ev.pos d (Ev.now _)
      refine Ev.neg d ?_
      have J : ∀ q : Bool, q = true → Ev (fun k => (cellarref7_Bytes.f k b.f1).bind fun t => if t = true then cellarref7_Mem.l0 k m ((n : Int) + 1) else some false) (q && b.f1.all isB && (m.drop (n + 1)).all blkOK) := by
        rintro q rfl
        rw [Bool.true_and]
        refine Ev.bind (bytes_all b.f1 (by omega)) ?_
        cases b.f1.all isB with
        | true =>
          rw [Bool.true_and]
          exact Ev.pos rfl ih
        | false => exact Ev.neg (by decide) (Ev.now _)
      by_cases e : b.f0 = 1
      · exact Ev.pos e (J _ (decide_eq_true (by omega)))
      · refine Ev.neg e ?_
        by_cases g : (b.f1.length : Int) > 0
        · rw [decide_eq_false (by omega), Bool.false_and, Bool.false_and]
          exact Ev.pos g (Ev.now _)
        · exact Ev.neg g (J _ (decide_eq_true (by omega)))
    · rw [show decide (0 ≤ b.f0 ∧ b.f0 ≤ 3 ∧ b.f1.length ≤ 32 ∧ (b.f0 = 1 ∨ b.f1.length = 0)) = false from decide_eq_false (by omega), Bool.false_and, Bool.false_and]
      exact Ev.neg (by simpa using a) (Ev.now _)
  unfold cellarref7_Mem.f memOK
  refine Ev.bindS (btw _ _ _) ?_
  by_cases a : (1 : Int) ≤ m.length ∧ (m.length : Int) ≤ 33
  · refine Ev.pos (decide_eq_true a) (Ev.pos (by omega) ?_)
    refine Ev.step (fun k => by rw [cellarref7_Mem.j0]) ?_
    by_cases d : (rd_T76 m 0).f0 = 0
    · rw [decide_eq_true (by omega), Bool.true_and]
      exact Ev.neg (by rw [d]; decide) (key 0 (by omega) (by omega))
    · rw [decide_eq_false (by omega), Bool.false_and]
      exact Ev.pos (by simpa using d) (Ev.now _)
  · rw [show decide (1 ≤ m.length ∧ m.length ≤ 33 ∧ (rd_T76 m 0).f0 = 0) = false from decide_eq_false (by omega), Bool.false_and]
    refine Ev.neg (by simpa using a) ?_
    refine Ev.step (fun k => by rw [cellarref7_Mem.j0]) ?_
    exact Ev.pos rfl (Ev.now _)
def thereB (m : List S76) (p : Bool) (n b o : Int) : Bool := mayS 7 p n b o && decide (b < (m.length : Int))
theorem there_f (m : List S76) (p : Bool) (n b o : Int) : mem_there.f m p n b o = some (thereB m p n b o) := by
  unfold mem_there.f thereB
  rw [may_s, Option.bind_some]
  cases mayS 7 p n b o with
  | true => rfl
  | false => rfl
theorem ref_ptr (m : List S76) (p : Bool) (n b o : Int) : Ev (fun k => cellarref7_Pointer.f k m p n b o) (thereB m p n b o) := by
  unfold cellarref7_Pointer.f thereB
  refine Ev.bind (Ev.plus 2 fun k => ref_s k 7 p n b o) ?_
  cases mayS 7 p n b o with
  | true => exact Ev.pos rfl (Ev.now _)
  | false => exact Ev.neg (by decide) (Ev.now _)
theorem copy_ev (l : List S74) (hl : l.length < 3518437208883) : Ev (fun k => cellarref0_CopyBytes.f k l) l := by
  have key : ∀ i : Int, 0 ≤ i → i ≤ l.length → Ev (fun k => cellarref0_CopyBytes.l0 k l (l.take i.toNat) i) l := by
    refine down (Q := fun i => Ev (fun k => cellarref0_CopyBytes.l0 k l (l.take i.toNat) i) l) ?_ ?_
    · refine Ev.step (fun k => by rw [cellarref0_CopyBytes.l0]) ?_
      refine Ev.neg (by omega) (Ev.val ?_)
      rw [Int.toNat_natCast, List.take_length]
    intro i i0 i1 ih
    refine Ev.step (fun k => by rw [cellarref0_CopyBytes.l0]) ?_
    refine Ev.pos i1 (Ev.pos i0 ?_)
    refine Ev.pos (by rw [List.length_take]; omega) ?_
    obtain ⟨n, rfl⟩ := Int.eq_ofNat_of_zero_le i0
    have hn : n < l.length := by omega
    rw [show ((n : Int) + 1).toNat = n + 1 by omega] at ih
    rw [w64 (z := (n : Int) + 1) (by omega) (by omega), rd_get l n hn, Int.toNat_natCast, List.take_append_getElem hn]
    exact ih
  exact key 0 (by omega) (by omega)
theorem copy_blks (m : List S76) (hl : m.length < 4398046511104) (hb : ∀ b ∈ m, b.f1.length < 3518437208883) : Ev (fun k => cellarref0_CopyBlocks.f k m) m := by
  have key : ∀ i : Int, 0 ≤ i → i ≤ m.length → Ev (fun k => cellarref0_CopyBlocks.l0 k m (m.take i.toNat) i) m := by
    refine down (Q := fun i => Ev (fun k => cellarref0_CopyBlocks.l0 k m (m.take i.toNat) i) m) ?_ ?_
    · refine Ev.step (fun k => by rw [cellarref0_CopyBlocks.l0]) ?_
      refine Ev.neg (by omega) (Ev.val ?_)
      rw [Int.toNat_natCast, List.take_length]
    intro i i0 i1 ih
    obtain ⟨n, rfl⟩ := Int.eq_ofNat_of_zero_le i0
    have hn : n < m.length := by omega
    rw [show ((n : Int) + 1).toNat = n + 1 by omega] at ih
    refine Ev.step (fun k => by rw [cellarref0_CopyBlocks.l0]) ?_
    refine Ev.pos i1 (Ev.pos i0 ?_)
    rw [rd_getT m n hn, Int.toNat_natCast]
    have hcb : Ev (fun k => cellarref0_CopyBlock.f k m[n].f0 m[n].f1) (m[n].f0, m[n].f1) := by
      unfold cellarref0_CopyBlock.f
      exact Ev.bind (copy_ev _ (hb _ (List.getElem_mem hn))) (Ev.now _)
    refine Ev.bind hcb ?_
    refine Ev.pos (by rw [List.length_take]; omega) ?_
    rw [w64 (z := (n : Int) + 1) (by omega) (by omega), show m.take n ++ [(⟨(m[n].f0, m[n].f1).1, (m[n].f0, m[n].f1).2⟩ : S76)] = m.take (n + 1) from List.take_append_getElem hn]
    exact ih
  exact key 0 (by omega) (by omega)
theorem eqb_self (l : List S74) (hl : l.length < 3518437208883) : Ev (fun k => cellarref0_EqBytes.f k l l) true := by
  have key : ∀ i : Int, 0 ≤ i → i ≤ l.length → Ev (fun k => cellarref0_EqBytes.l0 k l l i) true := by
    refine down (Q := fun i => Ev (fun k => cellarref0_EqBytes.l0 k l l i) true) ?_ ?_
    · refine Ev.step (fun k => by rw [cellarref0_EqBytes.l0]) ?_
      exact Ev.neg (by omega) (Ev.now _)
    intro i i0 i1 ih
    refine Ev.step (fun k => by rw [cellarref0_EqBytes.l0]) ?_
    refine Ev.pos i1 (Ev.pos i0 (Ev.pos i1 (Ev.neg (by simp) ?_)))
    rw [w64 (z := i + 1) (by omega) (by omega)]
    exact ih
  unfold cellarref0_EqBytes.f
  exact Ev.pos rfl (key 0 (by omega) (by omega))
theorem eqs_self (m : List S76) (hl : m.length < 4398046511104) (hb : ∀ b ∈ m, b.f1.length < 3518437208883) : Ev (fun k => cellarref0_EqBlocks.f k m m) true := by
  have key : ∀ i : Int, 0 ≤ i → i ≤ m.length → Ev (fun k => cellarref0_EqBlocks.l0 k m m i) true := by
    refine down (Q := fun i => Ev (fun k => cellarref0_EqBlocks.l0 k m m i) true) ?_ ?_
    · refine Ev.step (fun k => by rw [cellarref0_EqBlocks.l0]) ?_
      exact Ev.neg (by omega) (Ev.now _)
    intro i i0 i1 ih
    obtain ⟨n, rfl⟩ := Int.eq_ofNat_of_zero_le i0
    have hn : n < m.length := by omega
    refine Ev.step (fun k => by rw [cellarref0_EqBlocks.l0]) ?_
    refine Ev.pos i1 (Ev.pos i0 (Ev.pos i1 ?_))
    rw [rd_getT m n hn]
    have heb : Ev (fun k => cellarref0_EqBlock.f k m[n].f0 m[n].f1 m[n].f0 m[n].f1) true := by
      unfold cellarref0_EqBlock.f
      exact Ev.pos rfl (Ev.bind (eqb_self _ (hb _ (List.getElem_mem hn))) (Ev.now _))
    refine Ev.bind heb (Ev.pos rfl ?_)
    rw [w64 (z := (n : Int) + 1) (by omega) (by omega)]
    exact ih
  unfold cellarref0_EqBlocks.f
  exact Ev.pos rfl (key 0 (by omega) (by omega))
theorem weight_ev (m : List S76) (hl : m.length < 4398046511104) (hb : ∀ b ∈ m, b.f1.length < 3518437208883) : ∃ r, Ev (fun k => cellarlaw0_BlocksWeight.f k m) r ∧ 0 ≤ r ∧ r ≤ 1000000000000000 := by
  have key : ∀ i : Int, 0 ≤ i → i ≤ m.length → ∀ x : Int, 0 ≤ x → x ≤ 1000000000000000 → ∃ r, Ev (fun k => cellarlaw0_BlocksWeight.l0 k m x i) r ∧ 0 ≤ r ∧ r ≤ 1000000000000000 := by
    refine down (Q := fun i => ∀ x : Int, 0 ≤ x → x ≤ 1000000000000000 → ∃ r, Ev (fun k => cellarlaw0_BlocksWeight.l0 k m x i) r ∧ 0 ≤ r ∧ r ≤ 1000000000000000) ?_ ?_
    · intro x x0 x1
      exact ⟨x, Ev.step (fun k => by rw [cellarlaw0_BlocksWeight.l0]) (Ev.neg (by omega) (Ev.now _)), x0, x1⟩
    intro i i0 i1 ih x x0 x1
    by_cases c : x < 1048576
    · obtain ⟨n, rfl⟩ := Int.eq_ofNat_of_zero_le i0
      have hn : n < m.length := by omega
      have h1 := hb _ (List.getElem_mem hn)
      obtain ⟨r, h, r0, r1⟩ := ih (x + (m[n].f1.length : Int)) (by omega) (by omega)
      refine ⟨r, Ev.step (fun k => by rw [cellarlaw0_BlocksWeight.l0]) (Ev.pos i1 (Ev.pos c (Ev.pos i0 ?_))), r0, r1⟩
      rw [rd_getT m n hn, w64 (z := (n : Int) + 1) (by omega) (by omega), w64 (z := x + (m[n].f1.length : Int)) (by omega) (by omega)]
      exact h
    · exact ⟨x, Ev.step (fun k => by rw [cellarlaw0_BlocksWeight.l0]) (Ev.pos i1 (Ev.neg c (Ev.now _))), x0, x1⟩
  exact key 0 (by omega) (by omega) _ (by omega) (by omega)
theorem rd_getL (l : List (List S76)) (i : Nat) (h : i < l.length) : rd_L4 l (i : Int) = l[i] := by
  unfold rd_L4
  simp [List.getD_eq_getElem?_getD, List.getElem?_eq_getElem h]
section
variable (M : List (List S76)) (S : List S62) (N : List Int) (A : List S29) (hM : M.length ≤ 140737488351232) (hMm : ∀ m ∈ M, m.length < 4398046511104 ∧ ∀ b ∈ m, b.f1.length < 3518437208883) (hS : S.length ≤ 4398046510976) (hN : N.length ≤ 140737488351232) (hA : A.length ≤ 8796093021952)
include hM hMm hS hN hA
theorem heavy_ev : ∃ b, Ev (fun k => cellarlaw9_Heavy.f k M S N A) b := by
  have key : ∀ i : Int, 0 ≤ i → i ≤ M.length → ∀ x : Int, 0 ≤ x → x ≤ 4000000000000000 → ∃ r, Ev (fun k => cellarlaw9_Heavy.l0 k x i M S N A) r := by
    refine down (Q := fun i => ∀ x : Int, 0 ≤ x → x ≤ 4000000000000000 → ∃ r, Ev (fun k => cellarlaw9_Heavy.l0 k x i M S N A) r) ?_ ?_
    · intro x x0 x1
      exact ⟨_, Ev.step (fun k => by rw [cellarlaw9_Heavy.l0]) (Ev.neg (by omega) (Ev.now _))⟩
    intro i i0 i1 ih x x0 x1
    by_cases c : x < 1048576
    · obtain ⟨n, rfl⟩ := Int.eq_ofNat_of_zero_le i0
      have hn : n < M.length := by omega
      have h1 := hMm _ (List.getElem_mem hn)
      obtain ⟨t, ht, t0, t1⟩ := weight_ev M[n] h1.1 h1.2
      obtain ⟨r, h⟩ := ih (x + t) (by omega) (by omega)
      refine ⟨r, Ev.step (fun k => by rw [cellarlaw9_Heavy.l0]) (Ev.pos i1 (Ev.pos c (Ev.pos i0 ?_)))⟩
      rw [rd_getL M n hn]
      refine Ev.bind ht ?_
      rw [w64 (z := (n : Int) + 1) (by omega) (by omega), w64 (z := x + t) (by omega) (by omega)]
      exact h
    · exact ⟨_, Ev.step (fun k => by rw [cellarlaw9_Heavy.l0]) (Ev.pos i1 (Ev.neg c (Ev.now _)))⟩
  unfold cellarlaw9_Heavy.f
  rw [w64 (z := (S.length : Int) + N.length) (by omega) (by omega), w64 (by omega) (by omega)]
  exact key 0 (by omega) (by omega) _ (by omega) (by omega)
theorem ptrs_ev (m : List S76) : ∃ L, Ev (fun k => cellarlaw9_pointers.f k M S N A m) L ∧ L.length ≤ 40 := by
  have _uhM := hM; have _uhMm := hMm; have _uhN := hN; have _uhA := hA
  have key : ∀ i : Int, 1 ≤ i → i ≤ 7 → ∀ L : List S62, (L.length : Int) ≤ 4 + 3 * i → ∃ L', Ev (fun k => cellarlaw9_pointers.l0 k m L i M S N A) L' ∧ L'.length ≤ 40 := by
    refine down (Q := fun i => ∀ L : List S62, (L.length : Int) ≤ 4 + 3 * i → ∃ L', Ev (fun k => cellarlaw9_pointers.l0 k m L i M S N A) L' ∧ L'.length ≤ 40) ?_ ?_
    · intro L hL
      refine ⟨L, Ev.step (fun k => by rw [cellarlaw9_pointers.l0]) ?_, by omega⟩
      exact Ev.cond (fun _ => Ev.neg (by omega) (Ev.now _)) (fun _ => Ev.now _)
    intro i i0 i1 ih L hL
    by_cases c : i < (m.length : Int)
    · obtain ⟨L', h, hl⟩ := ih (L ++ ([(⟨true, 0, i, 0⟩ : S62), (⟨true, 0, i, mn (((rd_T76 m i).f1).length : Int) 32⟩ : S62), (⟨true, 0, i, Int.tmod (wrap64 ((wrap64 (i * 3)) + (N.length : Int))) 9⟩ : S62)] : List S62)) (by rw [List.length_append]; simp; omega)
      refine ⟨L', ?_, hl⟩
      refine Ev.step (fun k => by rw [cellarlaw9_pointers.l0]) ?_
      refine Ev.pos c (Ev.pos i1 (Ev.pos (by omega) (Ev.bindS rfl (Ev.pos ?_ ?_))))
      · show L.length + 3 < 4398046511104
        omega
      rw [w64 (z := i + 1) (by omega) (by omega)]
      exact h
    · exact ⟨L, Ev.step (fun k => by rw [cellarlaw9_pointers.l0]) (Ev.neg c (Ev.now _)), by omega⟩
  have J : ∀ L : List S62, L.length ≤ 7 → ∃ L', Ev (fun k => cellarlaw9_pointers.j0 k m L M S N A) L' ∧ L'.length ≤ 40 := by
    intro L hL
    obtain ⟨L', h, hl⟩ := key 1 (by omega) (by omega) L (by omega)
    exact ⟨L', Ev.step (fun k => by rw [cellarlaw9_pointers.j0]) h, hl⟩
  unfold cellarlaw9_pointers.f
  by_cases c : ((([(⟨true, 0, 0, 0⟩ : S62), (⟨true, 0, 50, 0⟩ : S62)] : List S62) ++ S).length : Int) > 7
  · obtain ⟨L', h, hl⟩ := J ((([(⟨true, 0, 0, 0⟩ : S62), (⟨true, 0, 50, 0⟩ : S62)] : List S62) ++ S).take (7 : Int).toNat) (by rw [List.length_take]; omega)
    refine ⟨L', ?_, hl⟩
    refine Ev.bindS rfl (Ev.pos ?_ (Ev.bindS rfl (Ev.pos c (Ev.pos (by omega) h))))
    show 2 + S.length < 4398046511104
    omega
  · obtain ⟨L', h, hl⟩ := J (([(⟨true, 0, 0, 0⟩ : S62), (⟨true, 0, 50, 0⟩ : S62)] : List S62) ++ S) (by omega)
    refine ⟨L', ?_, hl⟩
    refine Ev.bindS rfl (Ev.pos ?_ (Ev.bindS rfl (Ev.neg c h)))
    show 2 + S.length < 4398046511104
    omega
end
theorem is32 (n : Int) : word_Is.f n 32 = some (decide (0 ≤ n ∧ n ≤ 4294967295)) := by
  unfold word_Is.f
  rw [show word_Most.f 32 = some 4294967295 by kernel_rfl, Option.bind_some]
  by_cases h : n ≥ 0
  · rw [if_pos h]
    congr 1
    rw [decide_eq_decide]
    omega
  · rw [if_neg h]
    congr 1
    symm
    rw [decide_eq_false_iff_not]
    omega
theorem number32 (n : Int) : cellarref1_Number.f n 32 = some (decide (0 ≤ n ∧ n ≤ 4294967295)) := by
  unfold cellarref1_Number.f
  rw [if_pos (by decide), show wrap64 ((shl .i64 1 32) - 1) = 4294967295 by kernel_rfl, num_le]
  rfl
/-- A number of four bytes, seen signed. -/
def view32 (n : Int) : Int := if n ≥ 2147483648 then wrap64 (n - 4294967296) else n
theorem look32 (n : Int) : word_Look.f n 32 = some (view32 n) := by
  unfold word_Look.f view32
  rw [show wrap64 (32 - 1) = 31 by kernel_rfl, if_pos (by decide), show shl .i64 1 31 = 2147483648 by kernel_rfl, show shl .i64 1 32 = 4294967296 by kernel_rfl]
  by_cases h : n ≥ 2147483648
  · rw [if_pos h, if_pos h, if_pos (by decide)]
  · rw [if_neg h, if_neg h]
theorem rview32 (n : Int) : cellarref1_View.f n 32 = some (view32 n) := look32 n
theorem view_range (n : Int) (h0 : 0 ≤ n) (h1 : n ≤ 4294967295) : -2147483648 ≤ view32 n ∧ view32 n < 2147483648 ∧ (view32 n = 0 ↔ n = 0) := by
  unfold view32
  split
  · rw [w64 (by omega) (by omega)]
    omega
  · omega
theorem there_of (m : List S76) (p : Bool) (n b o : Int) (h : thereB m p n b o = true) : p = true ∧ 0 ≤ b ∧ b ≤ 32 ∧ b < (m.length : Int) ∧ 0 ≤ o ∧ o ≤ 32 := by
  unfold thereB at h
  rw [Bool.and_eq_true, decide_eq_true_eq] at h
  rcases put_of 7 p n b o h.1 with h' | h'
  · exact ⟨h'.2.1, h'.2.2.2.1, h'.2.2.2.2.1, h.2, h'.2.2.2.2.2.1, h'.2.2.2.2.2.2.1⟩
  · omega
theorem go_ev (m : List S76) (p : Bool) (n b o a : Int) (ht : thereB m p n b o = true) (ha : 0 ≤ a ∧ a ≤ 4294967295) :
    ∃ r, Ev (fun k => mem_Go.f k m p n b o a) r ∧ Ev (fun k => cellarref7_Move.f k m p n b o a) r := by
  obtain ⟨_, b0, _, b2, o0, o1⟩ := there_of m p n b o ht
  obtain ⟨v0, v1, v2⟩ := view_range a ha.1 ha.2
  unfold mem_Go.f cellarref7_Move.f
  have e : wrap64 (o + view32 a) = o + view32 a := w64 (by omega) (by omega)
  have J : ∀ (c c' : Bool), c = c' → ∃ r, Ev (fun k => mem_Go.j0 k m (wrap64 (o + view32 a)) c p n b o) r ∧ Ev (fun k => cellarref7_Move.j0 k m (view32 a) c' p n b o) r := by
    intro c c' hc
    subst hc
    cases c with
    | true => exact ⟨_, Ev.step (fun k => by rw [mem_Go.j0]) (Ev.pos rfl (Ev.now _)), Ev.step (fun k => by rw [cellarref7_Move.j0]) (Ev.pos rfl (Ev.now _))⟩
    | false =>
      by_cases s : (rd_T76 m b).f0 = 1
      · by_cases i : 0 ≤ o + view32 a ∧ o + view32 a ≤ ((rd_T76 m b).f1.length : Int)
        · refine ⟨(p, n, b, o + view32 a, 0), Ev.step (fun k => by rw [mem_Go.j0]) (Ev.neg (by decide) (Ev.pos b0 (Ev.pos b2 (Ev.pos s ?_)))), Ev.step (fun k => by rw [cellarref7_Move.j0]) (Ev.neg (by decide) (Ev.pos b0 (Ev.pos b2 (Ev.pos s (Ev.bindS (num_le _ _) ?_)))))⟩
          · rw [e]
            exact Ev.neg (by omega) (Ev.neg (by omega) (Ev.now _))
          · rw [e]
            exact Ev.pos (decide_eq_true i) (Ev.now _)
        · refine ⟨(false, 0, 0, 0, 1), Ev.step (fun k => by rw [mem_Go.j0]) (Ev.neg (by decide) (Ev.pos b0 (Ev.pos b2 (Ev.pos s ?_)))), Ev.step (fun k => by rw [cellarref7_Move.j0]) (Ev.neg (by decide) (Ev.pos b0 (Ev.pos b2 (Ev.pos s (Ev.bindS (num_le _ _) ?_)))))⟩
          · rw [e]
            exact Ev.cond (fun _ => Ev.now _) (fun c => Ev.pos (by omega) (Ev.now _))
          · rw [e]
            exact Ev.neg (by rw [decide_eq_true_eq]; exact i) (Ev.now _)
      · exact ⟨(false, 0, 0, 0, 2), Ev.step (fun k => by rw [mem_Go.j0]) (Ev.neg (by decide) (Ev.pos b0 (Ev.pos b2 (Ev.neg s (Ev.now _))))), Ev.step (fun k => by rw [cellarref7_Move.j0]) (Ev.neg (by decide) (Ev.pos b0 (Ev.pos b2 (Ev.neg s (Ev.now _)))))⟩
  by_cases hb : b = 0
  · obtain ⟨r, h1, h2⟩ := J (a == 0) (view32 a == 0) (by rw [Bool.eq_iff_iff, beq_iff_eq, beq_iff_eq]; exact v2.symm)
    exact ⟨r, Ev.bindS (look32 a) (Ev.pos hb h1), Ev.bindS (rview32 a) (Ev.pos hb h2)⟩
  · obtain ⟨r, h1, h2⟩ := J false false rfl
    exact ⟨r, Ev.bindS (look32 a) (Ev.neg hb h1), Ev.bindS (rview32 a) (Ev.neg hb h2)⟩
theorem move_no (m : List S76) (p : Bool) (n b o a : Int) (h : (memOK m && (thereB m p n b o && decide (0 ≤ a ∧ a ≤ 4294967295))) = false) : Ev (fun k => mem_Move.f k m p n b o a) (false, 0, 0, 0, 0, 1) := by
  unfold mem_Move.f
  refine Ev.bindS (may_m m) ?_
  cases h1 : memOK m with
  | false => exact Ev.neg (by decide) (Ev.now _)
  | true =>
    refine Ev.pos rfl (Ev.bindS (there_f m p n b o) ?_)
    cases h2 : thereB m p n b o with
    | false => exact Ev.neg (by decide) (Ev.now _)
    | true =>
      refine Ev.pos rfl (Ev.bindS (is32 a) ?_)
      rw [h1, h2, Bool.true_and, Bool.true_and] at h
      rw [h]
      exact Ev.neg (by decide) (Ev.now _)
theorem move_yes (m : List S76) (p : Bool) (n b o a : Int) (h1 : memOK m = true) (h2 : thereB m p n b o = true) (h3 : 0 ≤ a ∧ a ≤ 4294967295) :
    ∃ r : Bool × Int × Int × Int × Int, Ev (fun k => mem_Move.f k m p n b o a) (r.1, r.2.1, r.2.2.1, r.2.2.2.1, r.2.2.2.2, 0) ∧ Ev (fun k => cellarref7_Move.f k m p n b o a) r := by
  obtain ⟨r, e1, e2⟩ := go_ev m p n b o a h2 h3
  refine ⟨r, ?_, e2⟩
  unfold mem_Move.f
  exact Ev.bindS (may_m m) (Ev.pos h1 (Ev.bindS (there_f m p n b o) (Ev.pos h2 (Ev.bindS (is32 a) (Ev.pos (decide_eq_true h3) (Ev.bind e1 (Ev.now _)))))))
/-- How far two places are apart. -/
def apartV (b o b' o' : Int) : Int × Int := if b = b' then (Go.bits .and .i64 (wrap64 (o - o')) 4294967295, 0) else (0, 9)
theorem rapart (p : Bool) (n b o : Int) (p' : Bool) (n' b' o' : Int) : cellarref7_Apart.f p n b o p' n' b' o' = some (apartV b o b' o') := by
  unfold cellarref7_Apart.f apartV
  by_cases h : b = b'
  · rw [if_pos h, if_pos h]
    unfold cellarref1_Wrap.f
    rw [if_pos (by decide), show wrap64 ((shl .i64 1 32) - 1) = 4294967295 by kernel_rfl]
    rfl
  · rw [if_neg h, if_neg h]
theorem less (p : Bool) (n b o : Int) (p' : Bool) (n' b' o' : Int) : mem_Less.f p n b o p' n' b' o' = some (apartV b o b' o') := by
  unfold mem_Less.f apartV
  by_cases h : b = b'
  · rw [if_pos h, if_pos h]
    unfold word_Cut.f
    rw [show word_Most.f 32 = some 4294967295 by kernel_rfl]
    rfl
  · rw [if_neg h, if_neg h]
theorem apart_f (m : List S76) (p : Bool) (n b o : Int) (p' : Bool) (n' b' o' : Int) : mem_Apart.f m p n b o p' n' b' o' = some (if ((memOK m && thereB m p n b o) && thereB m p' n' b' o') = true then ((apartV b o b' o').1, (apartV b o b' o').2, 0) else (0, 0, 1)) := by
  unfold mem_Apart.f
  rw [may_m, Option.bind_some]
  cases memOK m with
  | false => rfl
  | true =>
    rw [if_pos rfl, there_f, Option.bind_some]
    cases thereB m p n b o with
    | false => rfl
    | true =>
      rw [if_pos rfl, there_f, Option.bind_some]
      cases thereB m p' n' b' o' with
      | false => rfl
      | true =>
        rw [if_pos rfl, less]
        rfl
/-- Are two places the same? -/
def sameV (p : Bool) (n b o : Int) (p' : Bool) (n' b' o' : Int) : Int := if (p == p' && (n == n' && (b == b' && (o == o')))) = true then 1 else 0
theorem rsame (p : Bool) (n b o : Int) (p' : Bool) (n' b' o' : Int) : cellarref7_Same.f p n b o p' n' b' o' = some (sameV p n b o p' n' b' o') := by
  unfold cellarref7_Same.f sameV
  split <;> rfl
theorem same_ev (p : Bool) (n b o : Int) (p' : Bool) (n' b' o' : Int) : Ev (fun k => mem_Same.f k p n b o p' n' b' o') (if (mayS 7 p n b o && mayS 7 p' n' b' o') = true then (sameV p n b o p' n' b' o', 0) else (0, 1)) := by
  have J : ∀ c : Bool, Ev (fun k => mem_Same.j0 k c p n b o p' n' b' o') (if c = true then (0, 1) else (sameV p n b o p' n' b' o', 0)) := by
    intro c
    refine Ev.step (fun k => by rw [mem_Same.j0]) ?_
    cases c with
    | true => exact Ev.pos rfl (Ev.now _)
    | false =>
      refine Ev.neg (by decide) ?_
      show Ev _ (sameV p n b o p' n' b' o', 0)
      by_cases h : (p == p' && (n == n' && (b == b' && (o == o')))) = true
      · rw [show sameV p n b o p' n' b' o' = 1 from if_pos h]
        exact Ev.pos h (Ev.now _)
      · rw [show sameV p n b o p' n' b' o' = 0 from if_neg h]
        exact Ev.neg h (Ev.now _)
  unfold mem_Same.f
  refine Ev.bindS (may_s 7 p n b o) ?_
  cases mayS 7 p n b o with
  | false => exact Ev.neg (by decide) (J true)
  | true =>
    refine Ev.pos rfl (Ev.bindS (may_s 7 p' n' b' o') ?_)
    cases mayS 7 p' n' b' o' with
    | false => exact J true
    | true => exact J false
section
variable (M : List (List S76)) (S : List S62) (N : List Int) (A : List S29) (ns : List Int) (x4 : Int) (m : List S76) (L : List S62) (x8 : Int)
theorem mv_j7 (fine : Bool) (x10 a c : Int) (s0 : Bool) (s1 s2 s3 : Int) (h10 : 0 ≤ x10 ∧ x10 < 20) (nx : Ev (fun k => cellarlaw9_MemMoves.l2 k ns x4 m (memOK m) L x8 fine (x10 + 1) M S N A) true) :
    Ev (fun k => cellarlaw9_MemMoves.j7 k ns x4 m (memOK m) L x8 fine x10 a c c a M S N A s0 s1 s2 s3 s0 s1 s2 s3) true := by
  refine Ev.step (fun k => by rw [cellarlaw9_MemMoves.j7]) ?_
  refine Ev.bindS (show cellarlaw9_num.f c = some c from rfl) (Ev.pos rfl ?_)
  refine Ev.neg (by simp) ?_
  refine Ev.step (fun k => by rw [cellarlaw9_MemMoves.j8]) ?_
  refine Ev.neg (by simp) ?_
  rw [w64 (z := x10 + 1) (by omega) (by omega)]
  exact nx
theorem mv_l2 (fine : Bool) (hf : fine = (memOK m && thereB m (rd_T62 L x8).f0 (rd_T62 L x8).f1 (rd_T62 L x8).f2 (rd_T62 L x8).f3)) (a0 : 0 ≤ x8) (a1 : x8 < L.length)
    (nx : Ev (fun k => cellarlaw9_MemMoves.l3 k ns x4 m (memOK m) L x8 fine 0 M S N A) true) : Ev (fun k => cellarlaw9_MemMoves.l2 k ns x4 m (memOK m) L x8 fine 0 M S N A) true := by
  have fin : ∀ x10 : Int, Ev (fun k => cellarlaw9_MemMoves.j5 k ns x4 m (memOK m) L x8 fine x10 false M S N A) true := fun x10 => Ev.step (fun k => by rw [cellarlaw9_MemMoves.j5]) (Ev.neg (by decide) nx)
  have key : ∀ x10 : Int, 0 ≤ x10 → x10 ≤ 13 → Ev (fun k => cellarlaw9_MemMoves.l2 k ns x4 m (memOK m) L x8 fine x10 M S N A) true := by
    refine down (Q := fun x10 => Ev (fun k => cellarlaw9_MemMoves.l2 k ns x4 m (memOK m) L x8 fine x10 M S N A) true) ?_ ?_
    · refine Ev.step (fun k => by rw [cellarlaw9_MemMoves.l2]) ?_
      refine Ev.cond (fun _ => ?_) (fun _ => fin _)
      rw [decide_eq_false (by omega)]
      exact fin _
    intro x10 b0 b1 ih
    refine Ev.step (fun k => by rw [cellarlaw9_MemMoves.l2]) ?_
    refine Ev.cond (fun c => ?_) (fun _ => fin _)
    rw [decide_eq_true b1]
    refine Ev.step (fun k => by rw [cellarlaw9_MemMoves.j5]) (Ev.pos rfl (Ev.pos a0 (Ev.pos a1 (Ev.pos b0 (Ev.pos c ?_)))))
    cases ho : (memOK m && (thereB m (rd_T62 L x8).f0 (rd_T62 L x8).f1 (rd_T62 L x8).f2 (rd_T62 L x8).f3 && decide (0 ≤ rd ns x10 ∧ rd ns x10 ≤ 4294967295))) with
    | false =>
      have J6 : Ev (fun k => cellarlaw9_MemMoves.j6 k ns x4 m (memOK m) L x8 fine x10 0 1 1 0 false M S N A false 0 0 0 false 0 0 0) true :=
        Ev.step (fun k => by rw [cellarlaw9_MemMoves.j6]) (Ev.neg (by decide) (mv_j7 M S N A ns x4 m L x8 fine x10 0 1 false 0 0 0 (by omega) ih))
      refine Ev.bind (move_no m _ _ _ _ _ ho) ?_
      cases hq : fine with
      | false =>
        rw [hq] at J6
        exact Ev.neg (by decide) J6
      | true =>
        refine Ev.pos rfl (Ev.bindS (number32 _) ?_)
        rw [hq] at hf J6
        rw [← Bool.and_assoc, ← hf, Bool.true_and] at ho
        rw [ho]
        exact J6
    | true =>
      rw [Bool.and_eq_true, Bool.and_eq_true] at ho
      obtain ⟨r, e1, e2⟩ := move_yes m _ _ _ _ _ ho.1 ho.2.1 (of_decide_eq_true ho.2.2)
      have hq : fine = true := by rw [hf, ho.1, ho.2.1]; rfl
      refine Ev.bind e1 (Ev.pos hq (Ev.bindS (number32 _) ?_))
      rw [ho.2.2]
      refine Ev.step (fun k => by rw [cellarlaw9_MemMoves.j6]) (Ev.pos rfl (Ev.pos a0 (Ev.pos a1 (Ev.pos b0 (Ev.pos c (Ev.bind e2 ?_))))))
      exact mv_j7 M S N A ns x4 m L x8 fine x10 _ 0 _ _ _ _ (by omega) ih
  exact key 0 (by omega) (by omega)
theorem mv_l3 (fine : Bool) (hf : fine = (memOK m && thereB m (rd_T62 L x8).f0 (rd_T62 L x8).f1 (rd_T62 L x8).f2 (rd_T62 L x8).f3)) (a0 : 0 ≤ x8) (a1 : x8 < L.length) (hL : L.length ≤ 40)
    (nx : Ev (fun k => cellarlaw9_MemMoves.l1 k ns x4 m (memOK m) L (x8 + 1) M S N A) true) : ∀ x17 : Int, 0 ≤ x17 → x17 ≤ L.length → Ev (fun k => cellarlaw9_MemMoves.l3 k ns x4 m (memOK m) L x8 fine x17 M S N A) true := by
  refine down (Q := fun x17 => Ev (fun k => cellarlaw9_MemMoves.l3 k ns x4 m (memOK m) L x8 fine x17 M S N A) true) ?_ ?_
  · refine Ev.step (fun k => by rw [cellarlaw9_MemMoves.l3]) (Ev.neg (by omega) ?_)
    rw [w64 (z := x8 + 1) (by omega) (by omega)]
    exact nx
  intro x17 b0 b1 ih
  have J13 : ∀ v w e s f : Int, Ev (fun k => cellarlaw9_MemMoves.j13 k ns x4 m (memOK m) L x8 fine x17 v w e s f e f v w s M S N A) true := by
    intro v w e s f
    refine Ev.step (fun k => by rw [cellarlaw9_MemMoves.j13]) (Ev.bindS (show cellarlaw9_num.f e = some e from rfl) (Ev.pos rfl (Ev.pos rfl (Ev.pos rfl (Ev.bindS (show cellarlaw9_num.f f = some f from rfl) (Ev.pos rfl ?_))))))
    refine Ev.step (fun k => by rw [cellarlaw9_MemMoves.j14]) ?_
    refine Ev.neg (by simp) ?_
    rw [w64 (z := x17 + 1) (by omega) (by omega)]
    exact ih
  have J11 : ∀ v w e s f : Int, (s, f) = (if (mayS 7 (rd_T62 L x8).f0 (rd_T62 L x8).f1 (rd_T62 L x8).f2 (rd_T62 L x8).f3 && mayS 7 (rd_T62 L x17).f0 (rd_T62 L x17).f1 (rd_T62 L x17).f2 (rd_T62 L x17).f3) = true then (sameV (rd_T62 L x8).f0 (rd_T62 L x8).f1 (rd_T62 L x8).f2 (rd_T62 L x8).f3 (rd_T62 L x17).f0 (rd_T62 L x17).f1 (rd_T62 L x17).f2 (rd_T62 L x17).f3, 0) else (0, 1)) →
      Ev (fun k => cellarlaw9_MemMoves.j11 k ns x4 m (memOK m) L x8 fine x17 v w e s f e 1 v w 0 M S N A) true := by
    intro v w e s f h
    refine Ev.step (fun k => by rw [cellarlaw9_MemMoves.j11]) (Ev.pos a0 (Ev.pos a1 (Ev.bind (Ev.plus 2 fun k => ref_s k 7 _ _ _ _) ?_)))
    cases h1 : mayS 7 (rd_T62 L x8).f0 (rd_T62 L x8).f1 (rd_T62 L x8).f2 (rd_T62 L x8).f3 with
    | false =>
      rw [h1, Bool.false_and, if_neg (by decide)] at h
      injection h with h2 h3
      subst h2 h3
      exact Ev.neg (by decide) (Ev.step (fun k => by rw [cellarlaw9_MemMoves.j12]) (Ev.neg (by decide) (J13 v w e 0 1)))
    | true =>
      refine Ev.pos rfl (Ev.pos b0 (Ev.pos b1 (Ev.bind (Ev.plus 2 fun k => ref_s k 7 _ _ _ _) ?_)))
      rw [h1, Bool.true_and] at h
      cases h4 : mayS 7 (rd_T62 L x17).f0 (rd_T62 L x17).f1 (rd_T62 L x17).f2 (rd_T62 L x17).f3 with
      | false =>
        rw [h4, if_neg (by decide)] at h
        injection h with h2 h3
        subst h2 h3
        exact Ev.step (fun k => by rw [cellarlaw9_MemMoves.j12]) (Ev.neg (by decide) (J13 v w e 0 1))
      | true =>
        rw [h4, if_pos rfl] at h
        injection h with h2 h3
        subst h2 h3
        exact Ev.step (fun k => by rw [cellarlaw9_MemMoves.j12]) (Ev.pos rfl (Ev.pos a0 (Ev.pos a1 (Ev.pos b0 (Ev.pos b1 (Ev.bindS (rsame _ _ _ _ _ _ _ _) (J13 v w e _ 0)))))))
  refine Ev.step (fun k => by rw [cellarlaw9_MemMoves.l3]) (Ev.pos b1 (Ev.pos a0 (Ev.pos a1 (Ev.pos b0 (Ev.bindS (apart_f m _ _ _ _ _ _ _ _) (Ev.bind (same_ev _ _ _ _ _ _ _ _) ?_))))))
  rw [← hf]
  have h11 := fun v w e => J11 v w e _ _ rfl
  cases hq : fine with
  | false =>
    rw [hq] at h11
    rw [Bool.false_and]
    refine Ev.neg (by decide) ?_
    refine Ev.step (fun k => by rw [cellarlaw9_MemMoves.j10]) ?_
    exact Ev.neg (by decide) (h11 0 0 1)
  | true =>
    rw [hq] at h11
    refine Ev.pos rfl (Ev.bind (ref_ptr m _ _ _ _) ?_)
    rw [Bool.true_and]
    cases ht : thereB m (rd_T62 L x17).f0 (rd_T62 L x17).f1 (rd_T62 L x17).f2 (rd_T62 L x17).f3 with
    | false =>
      refine Ev.step (fun k => by rw [cellarlaw9_MemMoves.j10]) ?_
      exact Ev.neg (by decide) (h11 0 0 1)
    | true => exact Ev.step (fun k => by rw [cellarlaw9_MemMoves.j10]) (Ev.pos rfl (Ev.pos a0 (Ev.pos a1 (Ev.pos b0 (Ev.pos b1 (Ev.bindS (rapart _ _ _ _ _ _ _ _) (h11 _ _ 0)))))))
end
section
variable (M : List (List S76)) (S : List S62) (N : List Int) (A : List S29) (hM : M.length ≤ 140737488351232) (hMm : ∀ m ∈ M, m.length < 4398046511104 ∧ ∀ b ∈ m, b.f1.length < 3518437208883) (hS : S.length ≤ 4398046510976) (hN : N.length ≤ 140737488351232) (hA : A.length ≤ 8796093021952) (ns : List Int)
include hM hMm hS hN hA
theorem mv_all : ∀ i : Int, 0 ≤ i → i ≤ M.length → Ev (fun k => cellarlaw9_MemMoves.l0 k ns i M S N A) true := by
  have fin : ∀ i, Ev (fun k => cellarlaw9_MemMoves.j1 k ns i false M S N A) true := by
    intro i
    refine Ev.step (fun k => by rw [cellarlaw9_MemMoves.j1]) ?_
    exact Ev.neg (by decide) (Ev.bind (Ev.plus 30 fun k => (by kernel_rfl : cellarlaw9_wakes.f (k + 30) = some true)) (Ev.now _))
  refine down (Q := fun i => Ev (fun k => cellarlaw9_MemMoves.l0 k ns i M S N A) true) ?_ ?_
  · exact Ev.step (fun k => by rw [cellarlaw9_MemMoves.l0]) (Ev.neg (by omega) (fin _))
  intro i i0 i1 ih
  refine Ev.step (fun k => by rw [cellarlaw9_MemMoves.l0]) ?_
  refine Ev.pos i1 ?_
  by_cases c : i < 5
  case neg =>
    rw [decide_eq_false c]
    exact fin _
  rw [decide_eq_true c]
  obtain ⟨n, rfl⟩ := Int.eq_ofNat_of_zero_le i0
  have hn : n < M.length := by omega
  have hb := hMm _ (List.getElem_mem hn)
  have hm : rd_L4 M (n : Int) = M[n] := rd_getL M n hn
  generalize M[n] = m at hb hm
  obtain ⟨ps, hps, hpl⟩ := ptrs_ev M S N A hM hMm hS hN hA m
  refine Ev.step (fun k => by rw [cellarlaw9_MemMoves.j1]) ?_
  refine Ev.pos rfl (Ev.pos i0 (Ev.pos i1 ?_))
  rw [hm]
  refine Ev.bind (copy_blks m hb.1 hb.2) (Ev.bind (ref_mem m (by omega)) (Ev.bind hps ?_))
  have L1 : ∀ x : Int, 0 ≤ x → x ≤ ps.length → Ev (fun k => cellarlaw9_MemMoves.l1 k ns n m (memOK m) ps x M S N A) true := by
    refine down (Q := fun x => Ev (fun k => cellarlaw9_MemMoves.l1 k ns n m (memOK m) ps x M S N A) true) ?_ ?_
    · refine Ev.step (fun k => by rw [cellarlaw9_MemMoves.l1]) (Ev.neg (by omega) (Ev.pos i0 (Ev.pos i1 ?_)))
      rw [hm]
      refine Ev.bind (eqs_self m hb.1 hb.2) (Ev.pos rfl ?_)
      rw [w64 (z := (n : Int) + 1) (by omega) (by omega)]
      exact ih
    intro x x0 x1 ihx
    have J3 : ∀ fine : Bool, fine = (memOK m && thereB m (rd_T62 ps x).f0 (rd_T62 ps x).f1 (rd_T62 ps x).f2 (rd_T62 ps x).f3) → Ev (fun k => cellarlaw9_MemMoves.j3 k ns n m (memOK m) ps x fine M S N A) true := fun fine hf =>
      Ev.step (fun k => by rw [cellarlaw9_MemMoves.j3]) (mv_l2 M S N A ns n m ps x fine hf x0 x1 (mv_l3 M S N A ns n m ps x fine hf x0 x1 hpl ihx 0 (by omega) (by omega)))
    refine Ev.step (fun k => by rw [cellarlaw9_MemMoves.l1]) (Ev.pos x1 ?_)
    cases hk : memOK m with
    | false =>
      have := J3 false (by rw [hk, Bool.false_and])
      rw [hk] at this
      exact Ev.neg (by decide) this
    | true =>
      have := J3 _ rfl
      rw [hk, Bool.true_and] at this
      exact Ev.pos rfl (Ev.pos x0 (Ev.bind (ref_ptr m _ _ _ _) this))
  exact L1 0 (by omega) (by omega)
end
theorem moves_true (M : List (List S76)) (S : List S62) (N : List Int) (A : List S29) (hM : M.length ≤ 140737488351232) (hMm : ∀ m ∈ M, m.length < 4398046511104 ∧ ∀ b ∈ m, b.f1.length < 3518437208883) (hS : S.length ≤ 4398046510976) (hN : N.length ≤ 17592186044407) (hA : A.length ≤ 8796093021952) :
    Ev (fun k => cellarlaw9_MemMoves.f k M S N A) true := by
  unfold cellarlaw9_MemMoves.f
  obtain ⟨b, hb⟩ := heavy_ev M S N A hM hMm hS (by omega) hA
  refine Ev.bind hb ?_
  cases b with
  | true => exact Ev.pos rfl (Ev.now _)
  | false =>
    refine Ev.neg (by decide) (Ev.bindS rfl (Ev.pos ?_ (mv_all M S N A hM hMm hS (by omega) hA _ 0 (by omega) (by omega))))
    simp
    omega
end Go.Proofs.Ytjoplkillkhiaaa.M
