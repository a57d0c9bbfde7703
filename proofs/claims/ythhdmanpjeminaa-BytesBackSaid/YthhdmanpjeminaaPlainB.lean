/- What was put is got, of its kind; the other machine's bytes stand the other way round. No Go and no memory in it. -/
import Derived.Test.YthhdmanpjeminaaByz
import Derived.Test.YthhdmanpjeminaaUFn
import Derived.Test.YthhdmanpjeminaaUMore
import Derived.Test.YthhdmanpjeminaaUEvs
namespace Go.Proofs.YthhdmanpjeminaaW.PrintWords
theorem Ev.now {α : Type} (r : α) : Ev (fun _ => some r) r := ⟨0, fun _ _ => rfl⟩
end Go.Proofs.YthhdmanpjeminaaW.PrintWords
namespace Go.Proofs.Ythhdmanpjeminaa.B
open Go.RowKit Go.Proofs.Ythhdmanpjeminaa.Fn Go.Proofs.YthhdmanpjeminaaW.PrintWords Go.Proofs.YthhdmanpjeminaaW.PrintLast Go.Proofs.YthhdmanpjeminaaW.PrintMore Go.Proofs.Ythhdmanpjeminaa.Evs
set_option linter.unusedVariables false
set_option linter.unusedSimpArgs false
theorem mask_nat (n : Int) (j : Nat) : ((BitVec.ofInt 64 n).toNat &&& (2 ^ j - 1) : Nat) = (n % 18446744073709551616).toNat % 2 ^ j := by
  rw [Nat.and_two_pow_sub_one_eq_mod, BitVec.toNat_ofInt]
  rfl
theorem mask_i64 (n : Int) (j : Nat) (m : Nat) (hm : m = 2 ^ j - 1) (hj : j ≤ 32) : Go.bits .and .i64 n (m : Int) = (((n % 18446744073709551616).toNat % 2 ^ j : Nat) : Int) := by
  have hp : 2 ^ j ≤ 2 ^ 32 := Nat.pow_le_pow_right (by decide) hj
  have h0 : 0 < 2 ^ j := Nat.two_pow_pos j
  have h1 : (n % 18446744073709551616).toNat % 2 ^ j < 2 ^ 32 := Nat.lt_of_lt_of_le (Nat.mod_lt _ h0) hp
  have e : (BitVec.ofInt 64 (m : Int)).toNat = m := by
    rw [BitVec.ofInt_natCast, BitVec.toNat_ofNat]
    exact Nat.mod_eq_of_lt (by omega)
  show IntKind.i64.wrap ((BitVec.ofInt 64 n &&& BitVec.ofInt 64 (m : Int)).toNat : Int) = _
  rw [BitVec.toNat_and, e, hm, mask_nat, IntKind.wrap_i64]
  omega
theorem mask8 (n : Int) : Go.bits .and .i64 n 255 = n % 256 := by
  have h := mask_i64 n 8 255 (by decide) (by decide)
  have e : ((255 : Nat) : Int) = 255 := rfl
  rw [e] at h
  rw [h]
  omega
theorem mask16 (n : Int) : Go.bits .and .i64 n 65535 = n % 65536 := by
  have h := mask_i64 n 16 65535 (by decide) (by decide)
  have e : ((65535 : Nat) : Int) = 65535 := rfl
  rw [e] at h
  rw [h]
  omega
theorem mask32 (n : Int) : Go.bits .and .i64 n 4294967295 = n % 4294967296 := by
  have h := mask_i64 n 32 4294967295 (by decide) (by decide)
  have e : ((4294967295 : Nat) : Int) = 4294967295 := rfl
  rw [e] at h
  rw [h]
  omega
/-- What is known of a kind of numbers: its width w, half of its numbers h, all of them P, its bytes b. -/
structure KD (kind w h P b : Int) : Prop where
  of : word_Of.f kind = some w
  isk : word_IsKind.f kind = some true
  w1 : 8 ≤ w
  w2 : w ≤ 32
  s1 : shl .i64 1 w = P
  s2 : shl .i64 1 (w - 1) = h
  PP : P = 2 * h
  h1 : 128 ≤ h
  h2 : h ≤ 2147483648
  msk : ∀ n, Go.bits .and .i64 n (P - 1) = n % P
  wb : wrap64 (Int.tdiv w 8) = b
  bb : (b = 1 ∧ P = 256) ∨ (b = 2 ∧ P = 65536) ∨ (b = 4 ∧ P = 4294967296)
  k7 : 1 ≤ kind ∧ kind ≤ 6
theorem kd_of (kind : Int) (h0 : 1 ≤ kind) (h1 : kind ≤ 6) : ∃ w h P b, KD kind w h P b := by
  have : kind = 1 ∨ kind = 2 ∨ kind = 3 ∨ kind = 4 ∨ kind = 5 ∨ kind = 6 := by omega
  rcases this with rfl | rfl | rfl | rfl | rfl | rfl
  · exact ⟨8, 128, 256, 1, by decide +kernel, by decide +kernel, by decide, by decide, by decide +kernel, by decide +kernel, by decide, by decide, by decide, mask8, by decide +kernel, .inl ⟨rfl, rfl⟩, by decide⟩
  · exact ⟨8, 128, 256, 1, by decide +kernel, by decide +kernel, by decide, by decide, by decide +kernel, by decide +kernel, by decide, by decide, by decide, mask8, by decide +kernel, .inl ⟨rfl, rfl⟩, by decide⟩
  · exact ⟨16, 32768, 65536, 2, by decide +kernel, by decide +kernel, by decide, by decide, by decide +kernel, by decide +kernel, by decide, by decide, by decide, mask16, by decide +kernel, .inr (.inl ⟨rfl, rfl⟩), by decide⟩
  · exact ⟨16, 32768, 65536, 2, by decide +kernel, by decide +kernel, by decide, by decide, by decide +kernel, by decide +kernel, by decide, by decide, by decide, mask16, by decide +kernel, .inr (.inl ⟨rfl, rfl⟩), by decide⟩
  · exact ⟨32, 2147483648, 4294967296, 4, by decide +kernel, by decide +kernel, by decide, by decide, by decide +kernel, by decide +kernel, by decide, by decide, by decide, mask32, by decide +kernel, .inr (.inr ⟨rfl, rfl⟩), by decide⟩
  · exact ⟨32, 2147483648, 4294967296, 4, by decide +kernel, by decide +kernel, by decide, by decide, by decide +kernel, by decide +kernel, by decide, by decide, by decide, mask32, by decide +kernel, .inr (.inr ⟨rfl, rfl⟩), by decide⟩
theorem no_isk (kind : Int) (h : kind < 1 ∨ 6 < kind) : word_IsKind.f kind = some false := by
  unfold word_IsKind.f
  by_cases h1 : kind ≥ 1
  · rw [if_pos h1]
    simp
    omega
  · rw [if_neg h1]
section
variable {kind w h P b : Int} (K : KD kind w h P b)
include K
theorem KD.pm : wrap64 (P - 1) = P - 1 := by have := K.PP; have := K.h1; have := K.h2; exact w64 (by omega) (by omega)
theorem KD.w0 : 0 ≤ w := by have := K.w1; omega
theorem KD.most : word_Most.f w = some (P - 1) := by
  unfold word_Most.f
  rw [if_pos K.w0, K.s1, K.pm]
theorem KD.is (n : Int) : word_Is.f n w = some (decide (0 ≤ n ∧ n < P)) := by
  unfold word_Is.f
  by_cases hn : n ≥ 0
  · rw [if_pos hn, K.most, Option.bind_some]
    congr 1
    rw [decide_eq_decide]
    omega
  · rw [if_neg hn]
    congr 1
    symm
    rw [decide_eq_false_iff_not]
    omega
end
theorem amay (b : Bool) (p : Int) : word_May.f b p = some (decide (p = 2 ∨ p = 4)) := by
  unfold word_May.f
  by_cases c : p = 2
  · simp [c]
  · by_cases d : p = 4
    · simp [d]
    · simp [c, d]
theorem num_le (n m : Int) : bytes_up.f n m = some (decide (0 ≤ n ∧ n ≤ m)) := by
  unfold bytes_up.f
  by_cases c : n ≥ 0
  · rw [if_pos c]
    congr 1
    rw [decide_eq_decide]
    omega
  · rw [if_neg c]
    congr 1
    symm
    rw [decide_eq_false_iff_not]
    omega
theorem up_le (n m : Int) : bytes_up.f n m = some (decide (0 ≤ n ∧ n ≤ m)) := num_le n m
/-- How many bytes a scalar has. -/
theorem ascalar (kind : Int) : word_IsScalar.f kind = some (decide (1 ≤ kind ∧ kind ≤ 7)) := by
  unfold word_IsScalar.f
  by_cases h : kind ≥ 1
  · rw [if_pos h]
    congr 1
    rw [decide_eq_decide]
    omega
  · rw [if_neg h]
    congr 1
    symm
    rw [decide_eq_false_iff_not]
    omega
def sizev (p kind : Int) : Int := if kind = 7 then p else wrap64 (Int.tdiv ((word_Of.f kind).getD 0) 8)
theorem abytes (b : Bool) (p kind : Int) (h : 1 ≤ kind ∧ kind ≤ 7) : word_Bytes.f b p kind = some (sizev p kind) := by
  unfold word_Bytes.f sizev
  by_cases e : kind = 7
  · rw [if_pos e, if_pos e]
  · obtain ⟨w, hh, P, s, K⟩ := kd_of kind (by omega) (by omega)
    rw [if_neg e, if_neg e, K.of]
    rfl
theorem size_small (p kind : Int) (hp : p = 2 ∨ p = 4) (h : 1 ≤ kind ∧ kind ≤ 7) : sizev p kind = 1 ∨ sizev p kind = 2 ∨ sizev p kind = 4 := by
  unfold sizev
  by_cases e : kind = 7
  · rw [if_pos e]
    omega
  · obtain ⟨w, hh, P, s, K⟩ := kd_of kind (by omega) (by omega)
    rw [if_neg e, K.of]
    show wrap64 (Int.tdiv w 8) = 1 ∨ wrap64 (Int.tdiv w 8) = 2 ∨ wrap64 (Int.tdiv w 8) = 4
    rw [K.wb]
    rcases K.bb with ⟨h, _⟩ | ⟨h, _⟩ | ⟨h, _⟩ <;> simp [h]
theorem KD.size {kind w h P b : Int} (K : KD kind w h P b) (p : Int) : sizev p kind = b := by
  have := K.k7
  unfold sizev
  rw [if_neg (by omega), K.of]
  exact K.wb
def isB (x : S51) : Bool := decide ((x.f0 = 0 ∧ x.f1 = 0 ∧ x.f2 = 0 ∧ x.f3 = 0 ∧ x.f4 = 0) ∨ (x.f0 = 1 ∧ (0 ≤ x.f1 ∧ x.f1 ≤ 255) ∧ x.f2 = 0 ∧ x.f3 = 0 ∧ x.f4 = 0) ∨ (x.f0 = 2 ∧ x.f1 = 0 ∧ (1 ≤ x.f2 ∧ x.f2 ≤ 32) ∧ (0 ≤ x.f3 ∧ x.f3 ≤ 32) ∧ 0 ≤ x.f4 ∧ x.f4 ≤ 3))
theorem is_b (x : S51) : bytes_Is.f x.f0 x.f1 x.f2 x.f3 x.f4 = some (isB x) := by
  unfold bytes_Is.f isB
  simp only [up_le, Option.bind_some]
  by_cases h0 : x.f0 = 0
  · rw [if_pos h0]
    congr 1
    rw [Bool.eq_iff_iff]
    simp [h0]
  · rw [if_neg h0]
    by_cases h1 : x.f0 = 1
    · rw [if_pos h1]
      by_cases c : 0 ≤ x.f1 ∧ x.f1 ≤ 255
      · rw [if_pos (decide_eq_true c)]
        congr 1
        rw [Bool.eq_iff_iff]
        simp [h1, c]
      · rw [if_neg (by simpa using c)]
        congr 1
        symm
        rw [decide_eq_false_iff_not]
        omega
    · rw [if_neg h1]
      by_cases h2 : x.f0 = 2
      · rw [if_pos h2]
        by_cases c1 : x.f1 = 0
        · rw [if_pos c1]
          by_cases c2 : x.f2 ≥ 1
          · rw [if_pos c2]
            by_cases c3 : x.f2 ≤ 32
            · rw [if_pos c3]
              by_cases c4 : 0 ≤ x.f3 ∧ x.f3 ≤ 32
              · rw [if_pos (decide_eq_true c4)]
                congr 1
                rw [decide_eq_decide]
                omega
              · rw [if_neg (by simpa using c4)]
                congr 1
                symm
                rw [decide_eq_false_iff_not]
                omega
            · rw [if_neg c3]
              congr 1
              symm
              rw [decide_eq_false_iff_not]
              omega
          · rw [if_neg c2]
            congr 1
            symm
            rw [decide_eq_false_iff_not]
            omega
        · rw [if_neg c1]
          congr 1
          symm
          rw [decide_eq_false_iff_not]
          omega
      · rw [if_neg h2]
        congr 1
        symm
        rw [decide_eq_false_iff_not]
        omega
def mayS (kind : Int) (p : Bool) (n b o : Int) : Bool :=
  if kind = 7 then decide (p = true ∧ n = 0 ∧ (0 ≤ b ∧ b ≤ 32) ∧ (0 ≤ o ∧ o ≤ 32) ∧ (0 < b ∨ o = 0))
  else decide ((1 ≤ kind ∧ kind ≤ 6) ∧ p = false ∧ (0 ≤ n ∧ n < shl .i64 1 ((word_Of.f kind).getD 0)) ∧ b = 0 ∧ o = 0)
theorem may_s (kind : Int) (p : Bool) (n b o : Int) : bytes_May.f kind p n b o = some (mayS kind p n b o) := by
  unfold bytes_May.f mayS
  by_cases hk : 1 ≤ kind ∧ kind ≤ 6
  · obtain ⟨w, hh, P, s, K⟩ := kd_of kind hk.1 hk.2
    rw [K.isk, Option.bind_some, if_pos rfl, if_neg (show ¬ kind = 7 by omega), K.of]
    cases p with
    | true => simp
    | false =>
      rw [if_neg (by decide), Option.bind_some, K.is, Option.bind_some]
      simp only [Option.getD_some, K.s1]
      by_cases c : 0 ≤ n ∧ n < P
      · rw [if_pos (decide_eq_true c)]
        by_cases d : b = 0
        · rw [if_pos d]
          congr 1
          rw [Bool.eq_iff_iff]
          simp [hk, c, d]
        · rw [if_neg d]
          congr 1
          symm
          rw [decide_eq_false_iff_not]
          omega
      · rw [if_neg (by simpa using c)]
        congr 1
        symm
        rw [decide_eq_false_iff_not]
        omega
  · rw [no_isk kind (by omega), Option.bind_some, if_neg (by decide)]
    simp only [up_le, Option.bind_some]
    by_cases h7 : kind = 7
    · rw [if_pos h7, if_pos h7]
      cases p with
      | true =>
        rw [if_pos rfl]
        by_cases c1 : n = 0
        · rw [if_pos c1]
          by_cases c2 : 0 ≤ b ∧ b ≤ 32
          · rw [if_pos (decide_eq_true c2)]
            by_cases c3 : 0 ≤ o ∧ o ≤ 32
            · rw [if_pos (decide_eq_true c3)]
              by_cases c4 : b > 0
              · rw [if_pos c4]
                congr 1
                symm
                rw [decide_eq_true_iff]
                exact ⟨rfl, c1, c2, c3, .inl c4⟩
              · rw [if_neg c4]
                congr 1
                rw [Bool.eq_iff_iff]
                simp [c1, c2, c3]
                omega
            · rw [if_neg (by simpa using c3)]
              congr 1
              symm
              rw [decide_eq_false_iff_not]
              omega
          · rw [if_neg (by simpa using c2)]
            congr 1
            symm
            rw [decide_eq_false_iff_not]
            omega
        · rw [if_neg c1]
          congr 1
          symm
          rw [decide_eq_false_iff_not]
          omega
      | false => simp
    · rw [if_neg h7, if_neg h7]
      congr 1
      symm
      rw [decide_eq_false_iff_not]
      omega
theorem set_mid {α : Type} (A B : List α) (z v : α) (i : Nat) (h : A.length = i) : (A ++ z :: B).set i v = A ++ v :: B := by
  subst h
  rw [List.set_append_right _ _ (Nat.le_refl _), Nat.sub_self]
  rfl
/-- The first i of n are told by g, the others are nothing yet. -/
def fillL (g : Nat → S51) (i n : Nat) : List S51 := (List.range i).map g ++ List.replicate (n - i) z51
theorem fill_len (g : Nat → S51) (i n : Nat) (h : i ≤ n) : (fillL g i n).length = n := by simp [fillL]; omega
theorem fill_set (g : Nat → S51) (i n : Nat) (h : i < n) : (fillL g i n).set i (g i) = fillL g (i + 1) n := by
  unfold fillL
  rw [show n - i = (n - (i + 1)) + 1 by omega, List.replicate_succ, set_mid _ _ _ _ _ (by simp), List.range_succ, List.map_append, List.append_assoc]
  rfl
theorem fill_all (g : Nat → S51) (n : Nat) : fillL g n n = (List.range n).map g := by simp [fillL]
theorem fill_none (g : Nat → S51) (n : Nat) : fillL g 0 n = List.replicate n z51 := by simp [fillL]
theorem rd_get (l : List S51) (i : Nat) (h : i < l.length) : rd_T51 l (i : Int) = l[i] := by
  unfold rd_T51
  simp [List.getD_eq_getElem?_getD, List.getElem?_eq_getElem h]
theorem ne_b (x : S51) (a b c d e : Int) : (!(x.f0 == a) || (!(x.f1 == b) || (!(x.f2 == c) || (!(x.f3 == d) || (!(x.f4 == e)))))) = true ↔ ¬ x = ⟨a, b, c, d, e⟩ := by
  obtain ⟨x0, x1, x2, x3, x4⟩ := x
  simp only [S51.mk.injEq, Bool.or_eq_true, Bool.not_eq_true', beq_eq_false_iff_ne, ne_eq]
  constructor
  · rintro h ⟨h0, h1, h2, h3, h4⟩
    rcases h with h | h | h | h | h
    · exact h h0
    · exact h h1
    · exact h h2
    · exact h h3
    · exact h h4
  · intro h
    by_cases h0 : x0 = a
    · by_cases h1 : x1 = b
      · by_cases h2 : x2 = c
        · by_cases h3 : x3 = d
          · exact .inr (.inr (.inr (.inr fun h4 => h ⟨h0, h1, h2, h3, h4⟩)))
          · exact .inr (.inr (.inr (.inl h3)))
        · exact .inr (.inr (.inl h2))
      · exact .inr (.inl h1)
    · exact .inl h0
def bt8 (n k : Int) : Int := Go.bits .and .i64 (shr .i64 n (wrap64 (8 * k))) 255
theorem bt8_range (n k : Int) : 0 ≤ bt8 n k ∧ bt8 n k ≤ 255 := by
  unfold bt8
  rw [mask8]
  omega
theorem bt8_zero (k : Int) : bt8 0 k = 0 := by
  unfold bt8 shr
  rw [mask8, Int.zero_ediv]
  rfl
theorem bt8_at (n : Int) (k : Nat) (hk : k < 4) : bt8 n k = n / 256 ^ k % 256 := by
  unfold bt8 shr
  rw [mask8]
  have : k = 0 ∨ k = 1 ∨ k = 2 ∨ k = 3 := by omega
  rcases this with rfl | rfl | rfl | rfl
  · rw [show wrap64 (8 * ((0 : Nat) : Int)) = 0 by decide +kernel]
    rfl
  · rw [show wrap64 (8 * ((1 : Nat) : Int)) = 8 by decide +kernel]
    rfl
  · rw [show wrap64 (8 * ((2 : Nat) : Int)) = 16 by decide +kernel]
    rfl
  · rw [show wrap64 (8 * ((3 : Nat) : Int)) = 24 by decide +kernel]
    rfl
/-- A scalar's bytes. -/
def putL (big : Bool) (sz : Nat) (p : Bool) (n b o : Int) : List S51 :=
  (List.range sz).map fun (i : Nat) => if p = true then (if b > 0 then ⟨2, 0, b, o, (i : Int)⟩ else ⟨1, 0, 0, 0, 0⟩) else ⟨1, bt8 n (if big = true then Int.ofNat (sz - 1 - i) else (i : Int)), 0, 0, 0⟩
theorem rev_some (k : Nat) (l : List S51) (h : l.length = 1 ∨ l.length = 2 ∨ l.length = 4) : api_Byte_55.f (k + 3) l = some l.reverse := by
  have e1 : wrap64 (0 + 1) = 1 := by decide +kernel
  have e2 : wrap64 (3 - 1) = 2 := by decide +kernel
  have e3 : wrap64 (1 + 1) = 2 := by decide +kernel
  have e4 : wrap64 (2 - 1) = 1 := by decide +kernel
  have e5 : wrap64 (1 - 1) = 0 := by decide +kernel
  have e6 : wrap64 (4 - 1) = 3 := by decide +kernel
  have e7 : wrap64 0 = 0 := by decide +kernel
  have e8 : wrap64 1 = 1 := by decide +kernel
  have e9 : wrap64 2 = 2 := by decide +kernel
  unfold api_Byte_55.f
  rcases h with h | h | h
  · obtain ⟨a, rfl⟩ : ∃ a, l = [a] := by
      match l, h with
      | [a], _ => exact ⟨a, rfl⟩
    simp only [List.length_cons, List.length_nil]
    rw [show wrap64 (((0 + 1 : Nat) : Int) - 1) = 0 from e5]
    simp [api_Byte_55.l0]
  · obtain ⟨a, b, rfl⟩ : ∃ a b, l = [a, b] := by
      match l, h with
      | [a, b], _ => exact ⟨a, b, rfl⟩
    simp only [List.length_cons, List.length_nil]
    rw [show wrap64 (((0 + 1 + 1 : Nat) : Int) - 1) = 1 from e4]
    simp [api_Byte_55.l0, rd_T51, e5, e7, e8]
  · obtain ⟨a, b, c, d, rfl⟩ : ∃ a b c d, l = [a, b, c, d] := by
      match l, h with
      | [a, b, c, d], _ => exact ⟨a, b, c, d, rfl⟩
    simp only [List.length_cons, List.length_nil]
    rw [show wrap64 (((0 + 1 + 1 + 1 + 1 : Nat) : Int) - 1) = 3 from e6]
    simp [api_Byte_55.l0, rd_T51, e1, e2, e3, e4, e7, e8, e9]
theorem put_of (kind : Int) (p : Bool) (n b o : Int) (h : mayS kind p n b o = true) : (kind = 7 ∧ p = true ∧ n = 0 ∧ 0 ≤ b ∧ b ≤ 32 ∧ 0 ≤ o ∧ o ≤ 32 ∧ (0 < b ∨ o = 0)) ∨ ((1 ≤ kind ∧ kind ≤ 6) ∧ p = false ∧ b = 0 ∧ o = 0 ∧ ∃ w hh P c, KD kind w hh P c ∧ 0 ≤ n ∧ n < P) := by
  unfold mayS at h
  by_cases e : kind = 7
  · rw [if_pos e, decide_eq_true_eq] at h
    exact .inl ⟨e, h.1, h.2.1, h.2.2.1.1, h.2.2.1.2, h.2.2.2.1.1, h.2.2.2.1.2, h.2.2.2.2⟩
  · rw [if_neg e, decide_eq_true_eq] at h
    obtain ⟨hk, hp, hn, hb, ho⟩ := h
    obtain ⟨w, hh, P, c, K⟩ := kd_of kind hk.1 hk.2
    rw [K.of, Option.getD_some, K.s1] at hn
    exact .inr ⟨hk, hp, hb, ho, w, hh, P, c, K, hn⟩
theorem spell_ev (big : Bool) (ptr kind : Int) (p : Bool) (n b o : Int) (hp : ptr = 2 ∨ ptr = 4) (h : mayS kind p n b o = true) :
    Ev (fun k => bytes_Spell.f k big ptr kind p n b o) (putL big (sizev ptr kind).toNat p n b o) := by
  have hk : 1 ≤ kind ∧ kind ≤ 7 := by rcases put_of kind p n b o h with ⟨e, _⟩ | ⟨e, _⟩ <;> omega
  have hs := size_small ptr kind hp hk
  have ab := abytes big ptr kind hk
  unfold bytes_Spell.f
  generalize sizev ptr kind = sz at hs ab ⊢
  obtain ⟨m, rfl⟩ : ∃ m : Nat, sz = m := ⟨sz.toNat, by omega⟩
  rw [Int.toNat_natCast]
  have hm : m = 1 ∨ m = 2 ∨ m = 4 := by omega
  -- the loop
  have key : ∀ (g : Nat → S51) (r : List S51), (∀ i : Nat, i < m → g i = if b > 0 then ⟨2, 0, b, o, (i : Int)⟩ else ⟨1, bt8 n i, 0, 0, 0⟩) → (kind = 7 → r = (List.range m).map g) → (¬ kind = 7 → r = if big = true then ((List.range m).map g).reverse else (List.range m).map g) →
      Ev (fun k => bytes_Spell.l0 k kind (List.replicate m z51) m 0 big ptr p n b o) r := by
    intro g r hg hr7 hr
    suffices H : ∀ i : Int, 0 ≤ i → i ≤ m → Ev (fun k => bytes_Spell.l0 k kind (fillL g i.toNat m) m i big ptr p n b o) r by
      have := H 0 (by omega) (by omega)
      rwa [show (0 : Int).toNat = 0 from rfl, fill_none] at this
    refine down (Q := fun i => Ev (fun k => bytes_Spell.l0 k kind (fillL g i.toNat m) m i big ptr p n b o) r) ?_ ?_
    · refine Ev.step (fun k => by rw [bytes_Spell.l0]) ?_
      refine Ev.neg (by omega) ?_
      rw [Int.toNat_natCast, fill_all]
      by_cases e : kind = 7
      · refine Ev.pos e ?_
        rw [hr7 e]
        exact Ev.now _
      · refine Ev.neg e ?_
        rw [hr e]
        cases big with
        | true =>
          refine Ev.pos rfl ?_
          rw [if_pos rfl]
          exact Ev.bind (Ev.plus 3 fun k => rev_some k _ (by simpa using hm)) (Ev.now _)
        | false => exact Ev.neg (by decide) (Ev.now _)
    intro i i0 i1 ih
    obtain ⟨j, rfl⟩ := Int.eq_ofNat_of_zero_le i0
    have hj : j < m := by omega
    rw [show ((j : Int) + 1).toNat = j + 1 by omega, ← fill_set g j m hj, hg j hj] at ih
    have hlen := fill_len g j m (by omega)
    refine Ev.step (fun k => by rw [bytes_Spell.l0]) ?_
    refine Ev.pos i1 ?_
    rw [Int.toNat_natCast]
    by_cases c : b > 0
    · rw [if_pos c] at ih
      refine Ev.pos c (Ev.pos i0 ?_)
      refine Ev.pos (by rw [hlen]; exact i1) ?_
      rw [w64 (z := (j : Int) + 1) (by omega) (by omega)]
      exact ih
    · rw [if_neg c] at ih
      refine Ev.neg c ?_
      refine Ev.pos (by rw [w64 (by omega) (by omega)]; omega) (Ev.pos i0 ?_)
      refine Ev.pos (by rw [hlen]; exact i1) ?_
      rw [w64 (z := (j : Int) + 1) (by omega) (by omega)]
      exact ih
  refine Ev.bindS ab ?_
  refine Ev.pos (by omega) (Ev.pos (by omega) ?_)
  refine Ev.bindS rfl ?_
  rw [List.length_replicate, Int.toNat_natCast]
  have ho := put_of kind p n b o h
  refine key (fun i => if b > 0 then ⟨2, 0, b, o, (i : Int)⟩ else ⟨1, bt8 n i, 0, 0, 0⟩) _ (fun i hi => rfl) ?_ ?_
  · intro e
    rcases ho with ⟨_, rfl, rfl, _⟩ | ⟨e', _⟩
    · unfold putL
      refine List.map_congr_left fun i _ => ?_
      rw [if_pos rfl]
      by_cases c : b > 0
      · rw [if_pos c, if_pos c]
      · rw [if_neg c, if_neg c, bt8_zero]
    · omega
  · intro e
    rcases ho with ⟨e', _⟩ | ⟨_, rfl, rfl, rfl, _⟩
    · exact absurd e' e
    · unfold putL
      cases big with
      | false => rfl
      | true =>
        rw [if_pos rfl]
        rcases hm with rfl | rfl | rfl
        · rfl
        · rfl
        · rfl
theorem put_len (big : Bool) (sz : Nat) (p : Bool) (n b o : Int) : (putL big sz p n b o).length = sz := by simp [putL]
/-- What Put tells. -/
def putV (big : Bool) (ptr kind : Int) (p : Bool) (n b o : Int) : List S51 × Int :=
  if (ptr = 2 ∨ ptr = 4) ∧ mayS kind p n b o = true then (putL big (sizev ptr kind).toNat p n b o, 0) else ([], 1)
theorem put_ev (big : Bool) (ptr kind : Int) (p : Bool) (n b o : Int) : Ev (fun k => bytes_Put.f k big ptr kind p n b o) (putV big ptr kind p n b o) := by
  unfold bytes_Put.f putV
  refine Ev.bindS (amay big ptr) ?_
  by_cases hp : ptr = 2 ∨ ptr = 4
  · refine Ev.pos (decide_eq_true hp) (Ev.bindS (may_s kind p n b o) ?_)
    by_cases h : mayS kind p n b o = true
    · rw [if_pos ⟨hp, h⟩]
      exact Ev.pos h (Ev.bind (spell_ev big ptr kind p n b o hp h) (Ev.now _))
    · rw [if_neg fun c => h c.2]
      exact Ev.neg h (Ev.now _)
  · rw [if_neg fun c => hp c.1]
    exact Ev.neg (by simpa using hp) (Ev.now _)
theorem state_b (l : List S51) (n : Int) : bytes_state.f l n = some (l.any fun x => x.f0 == n) := any_some (fun _ => rfl) l
section
variable (l : List S51) (hl : l.length ≤ 4)
include hl
/-- What a pointer's byte must be. -/
def want (B O : Int) (i : Nat) : S51 := if B > 0 then ⟨2, 0, B, O, (i : Int)⟩ else ⟨1, 0, 0, 0, 0⟩
theorem pointer_at (h0 : 0 < l.length) (r : Bool × Int × Int × Int × Int) (hy : (∀ (i : Nat) (h : i < l.length), l[i] = want l[0].f2 l[0].f3 i) → r = ((true, 0, l[0].f2, l[0].f3, 0) : Bool × Int × Int × Int × Int)) (hn : (∃ (i : Nat) (h : i < l.length), ¬ l[i] = want l[0].f2 l[0].f3 i) → r = (false, 0, 0, 0, 8)) : Ev (fun k => bytes_pointer.f k l) r := by
  unfold bytes_pointer.f
  refine Ev.pos (by omega) ?_
  rw [show rd_T51 l 0 = l[0] from rd_get l 0 h0]
  generalize hB : l[0].f2 = B at hy hn ⊢
  generalize hO : l[0].f3 = O at hy hn ⊢
  have key : ∀ i : Int, 0 ≤ i → i ≤ l.length → (∀ (j : Nat) (h : j < l.length), (j : Int) < i → l[j] = want B O j) → Ev (fun k => bytes_pointer.l0 k l l.length i true 0 B O) r := by
    refine down (Q := fun i => (∀ (j : Nat) (h : j < l.length), (j : Int) < i → l[j] = want B O j) → Ev (fun k => bytes_pointer.l0 k l l.length i true 0 B O) r) ?_ ?_
    · intro hall
      refine Ev.step (fun k => by rw [bytes_pointer.l0]) ?_
      refine Ev.neg (by omega) ?_
      rw [hy fun i h => hall i h (by omega)]
      exact Ev.now _
    intro i i0 i1 ih hall
    obtain ⟨n, rfl⟩ := Int.eq_ofNat_of_zero_le i0
    have hn' : n < l.length := by omega
    have J : ∀ a b c d e : Int, want B O n = ⟨a, b, c, d, e⟩ → Ev (fun k => bytes_pointer.j1 k l l.length n true 0 B O l[n].f0 l[n].f1 l[n].f2 l[n].f3 l[n].f4 a b c d e) r := by
      intro a b c d e hw
      refine Ev.step (fun k => by rw [bytes_pointer.j1]) ?_
      by_cases q : l[n] = ⟨a, b, c, d, e⟩
      · refine Ev.neg (fun h => (ne_b _ _ _ _ _ _).1 h q) ?_
        rw [w64 (z := (n : Int) + 1) (by omega) (by omega)]
        refine ih fun j hj hlt => ?_
        rcases Nat.lt_or_ge j n with h | h
        · exact hall j hj (by omega)
        · obtain rfl : j = n := by omega
          rw [q, hw]
      · refine Ev.pos ((ne_b _ _ _ _ _ _).2 q) ?_
        rw [hn ⟨n, hn', by rw [hw]; exact q⟩]
        exact Ev.now _
    refine Ev.step (fun k => by rw [bytes_pointer.l0]) ?_
    refine Ev.pos i1 (Ev.pos i0 (Ev.pos i1 ?_))
    rw [rd_get l n hn']
    by_cases c : B > 0
    · exact Ev.pos c (J _ _ _ _ _ (by unfold want; rw [if_pos c]))
    · exact Ev.neg c (J _ _ _ _ _ (by unfold want; rw [if_neg c]))
  exact key 0 (by omega) (by omega) (fun j _ h => by omega)
end
theorem wakes_ev : Ev (fun k => cellarlaw8_wakes.f k) true := by
  refine Ev.plus 12 fun k => ?_
  kernel_rfl
theorem heavy (A : List S38) (S : List S33) (B : List S51) (hA : A.length ≤ 140737488351232) (hS : S.length ≤ 140737488351232) (hB : B.length ≤ 140737488351232) :
    cellarlaw8_Heavy.f A S B = some (decide (300 < A.length + S.length + B.length)) := by
  unfold cellarlaw8_Heavy.f
  congr 1
  rw [decide_eq_decide, w64 (z := (A.length : Int) + S.length) (by omega) (by omega), w64 (by omega) (by omega)]
  omega
theorem or_byte (x y : Int) (x0 : 0 ≤ x) (x1 : x ≤ 16777215) (y0 : 0 ≤ y) (y1 : y < 256) : Go.bits .or .i64 (wrap64 (x * 256)) y = x * 256 + y := by
  rw [w64 (z := x * 256) (by omega) (by omega)]
  obtain ⟨a, rfl⟩ := Int.eq_ofNat_of_zero_le x0
  obtain ⟨b, rfl⟩ := Int.eq_ofNat_of_zero_le y0
  have e : (BitVec.ofInt 64 ((a : Int) * 256)).toNat = a * 256 := by
    rw [show ((a : Int) * 256) = ((a * 256 : Nat) : Int) by omega, BitVec.ofInt_natCast, BitVec.toNat_ofNat]
    exact Nat.mod_eq_of_lt (by omega)
  have e' : (BitVec.ofInt 64 (b : Int)).toNat = b := by
    rw [BitVec.ofInt_natCast, BitVec.toNat_ofNat]
    exact Nat.mod_eq_of_lt (by omega)
  have o : (a * 256 ||| b : Nat) = a * 256 + b := by
    have := Nat.shiftLeft_add_eq_or_of_lt (i := 8) (b := b) (by omega) a
    rw [Nat.shiftLeft_eq] at this
    exact this.symm
  show IntKind.i64.wrap ((BitVec.ofInt 64 ((a : Int) * 256) ||| BitVec.ofInt 64 (b : Int)).toNat : Int) = _
  rw [BitVec.toNat_or, e, e', o, IntKind.wrap_i64]
  omega
theorem any_not (l : List S51) : api_Byte_37.f l 38 = some (!(l.all isB)) := by
  unfold api_Byte_37.f
  rw [if_pos rfl, any_some (f := fun x => !isB x) (fun x => by unfold bytes_Get_1.f; rw [is_b]; rfl)]
  congr 1
  rw [List.not_all_eq_any_not]
theorem put_get (big : Bool) (sz : Nat) (p : Bool) (n b o : Int) (i : Nat) (h : i < (putL big sz p n b o).length) :
    (putL big sz p n b o)[i] = if p = true then (if b > 0 then ⟨2, 0, b, o, (i : Int)⟩ else ⟨1, 0, 0, 0, 0⟩) else ⟨1, bt8 n (if big = true then Int.ofNat (sz - 1 - i) else (i : Int)), 0, 0, 0⟩ := by
  simp [putL]
theorem put_isB (big : Bool) (ptr kind : Int) (p : Bool) (n b o : Int) (hp : ptr = 2 ∨ ptr = 4) (h : mayS kind p n b o = true) : ∀ x ∈ putL big (sizev ptr kind).toNat p n b o, isB x = true ∧ (p = true → x.f0 = if b > 0 then 2 else 1) ∧ (p = false → x.f0 = 1) ∧ (p = true → b ≤ 0 → x = ⟨1, 0, 0, 0, 0⟩) := by
  have hk : 1 ≤ kind ∧ kind ≤ 7 := by rcases put_of kind p n b o h with ⟨e, _⟩ | ⟨e, _⟩ <;> omega
  have hs := size_small ptr kind hp hk
  intro x hx
  obtain ⟨i, hi, rfl⟩ := List.getElem_of_mem hx
  have hi' := hi
  rw [put_len] at hi'
  rw [put_get]
  rcases put_of kind p n b o h with ⟨_, rfl, _, h1, h2, h3, h4, _⟩ | ⟨_, rfl, _⟩
  · rw [if_pos rfl]
    by_cases c : b > 0
    · rw [if_pos c]
      refine ⟨?_, fun _ => (if_pos c).symm, fun e => absurd e (by decide), fun _ e => by omega⟩
      unfold isB
      rw [decide_eq_true_eq]
      refine .inr (.inr ⟨rfl, rfl, ⟨by show 1 ≤ b; omega, h2⟩, ⟨h3, h4⟩, by show 0 ≤ (i : Int); omega, ?_⟩)
      show (i : Int) ≤ 3
      omega
    · rw [if_neg c]
      exact ⟨rfl, fun _ => (if_neg c).symm, fun e => absurd e (by decide), fun _ _ => rfl⟩
  · rw [if_neg (by decide)]
    refine ⟨?_, fun e => absurd e (by decide), fun _ => rfl, fun e => absurd e (by decide)⟩
    unfold isB
    rw [decide_eq_true_eq]
    exact .inr (.inl ⟨rfl, bt8_range _ _, rfl, rfl, rfl⟩)
theorem state_no (l : List S51) (n : Int) (h : ∀ x ∈ l, x.f0 ≠ n) : bytes_state.f l n = some false := by
  rw [state_b]
  congr 1
  rw [List.any_eq_false]
  intro x hx
  simpa using h x hx
theorem read_step (big : Bool) (ptr : Int) (l : List S51) (x i y : Int) (r : Bool × Int × Int × Int × Int) (hl : l.length ≤ 4) (i0 : 0 ≤ i) (i1 : i < l.length) (hy : (rd_T51 l (if big = true then i else (l.length : Int) - 1 - i)).f1 = y) (y0 : 0 ≤ y) (y1 : y < 256) (x0 : 0 ≤ x) (x1 : x ≤ 16777215)
    (nx : Ev (fun k => bytes_Read.l0 k l (x * 256 + y) l.length (i + 1) big ptr) r) : Ev (fun k => bytes_Read.l0 k l x l.length i big ptr) r := by
  have e : wrap64 ((wrap64 ((l.length : Int) - 1)) - i) = (l.length : Int) - 1 - i := by rw [w64 (z := (l.length : Int) - 1) (by omega) (by omega), w64 (by omega) (by omega)]
  have J : ∀ a b c d : Int, Ev (fun k => bytes_Read.j1 k l x l.length i big ptr a y b c d) r := by
    intro a b c d
    refine Ev.step (fun k => by rw [bytes_Read.j1]) ?_
    rw [or_byte x y x0 x1 y0 y1, w64 (z := i + 1) (by omega) (by omega)]
    exact nx
  refine Ev.step (fun k => by rw [bytes_Read.l0]) ?_
  rw [e]
  refine Ev.pos i1 (Ev.pos (by omega) (Ev.pos (by omega) ?_))
  cases big with
  | true =>
    rw [if_pos rfl] at hy
    refine Ev.pos rfl (Ev.pos i0 (Ev.pos i1 ?_))
    rw [hy]
    exact J _ _ _ _
  | false =>
    rw [if_neg (by decide)] at hy
    refine Ev.neg (by decide) ?_
    rw [hy]
    exact J _ _ _ _
theorem read_end (big : Bool) (ptr : Int) (l : List S51) (x : Int) : Ev (fun k => bytes_Read.l0 k l x l.length l.length big ptr) (false, x, 0, 0, 0) :=
  Ev.step (fun k => by rw [bytes_Read.l0]) (Ev.neg (by omega) (Ev.now _))
theorem read_num (big : Bool) (ptr : Int) (m : Nat) (n b o : Int) (hm : (m = 1 ∧ n < 256) ∨ (m = 2 ∧ n < 65536) ∨ (m = 4 ∧ n < 4294967296)) (n0 : 0 ≤ n) :
    Ev (fun k => bytes_Read.l0 k (putL big m false n b o) 0 (putL big m false n b o).length 0 big ptr) (false, n, 0, 0, 0) := by
  have hlen := put_len big m false n b o
  have hy : ∀ j : Nat, j < m → (rd_T51 (putL big m false n b o) (if big = true then (j : Int) else ((putL big m false n b o).length : Int) - 1 - (j : Int))).f1 = n / 256 ^ (m - 1 - j) % 256 := by
    intro j hj
    cases big with
    | true =>
      rw [if_pos rfl, rd_get _ j (by omega), put_get, if_neg (by decide), if_pos rfl]
      exact bt8_at n (m - 1 - j) (by omega)
    | false =>
      rw [if_neg (by decide), show ((putL false m false n b o).length : Int) - 1 - (j : Int) = ((m - 1 - j : Nat) : Int) by omega, rd_get _ (m - 1 - j) (by omega), put_get, if_neg (by decide), if_neg (by decide)]
      exact bt8_at n (m - 1 - j) (by omega)
  generalize putL big m false n b o = l at hlen hy
  have fin : ∀ x i : Int, i = l.length → x = n → Ev (fun k => bytes_Read.l0 k l x l.length i big ptr) (false, n, 0, 0, 0) := by
    intro x i hi hx
    subst hi hx
    exact read_end big ptr l _
  rcases hm with ⟨rfl, hn⟩ | ⟨rfl, hn⟩ | ⟨rfl, hn⟩
  · have h0 := hy 0 (by omega)
    refine read_step big ptr l 0 0 _ _ (by omega) (by omega) (by omega) h0 (by omega) (by omega) (by omega) (by omega) (fin _ _ (by omega) ?_)
    simp only [show 1 - 1 - 0 = 0 from rfl, Int.pow_zero]
    omega
  · have h0 := hy 0 (by omega)
    have h1 := hy 1 (by omega)
    refine read_step big ptr l 0 0 _ _ (by omega) (by omega) (by omega) h0 (by omega) (by omega) (by omega) (by omega) ?_
    refine read_step big ptr l _ (0 + 1) _ _ (by omega) (by omega) (by omega) h1 (by omega) (by omega) (by omega) (by omega) (fin _ _ (by omega) ?_)
    simp only [show 2 - 1 - 0 = 1 from rfl, show 2 - 1 - 1 = 0 from rfl, Int.pow_zero, Int.pow_one]
    omega
  · have h0 := hy 0 (by omega)
    have h1 := hy 1 (by omega)
    have h2 := hy 2 (by omega)
    have h3 := hy 3 (by omega)
    simp only [show 4 - 1 - 0 = 3 from rfl, show 4 - 1 - 1 = 2 from rfl, show 4 - 1 - 2 = 1 from rfl, show 4 - 1 - 3 = 0 from rfl, show (256 : Int) ^ 3 = 16777216 by decide, show (256 : Int) ^ 2 = 65536 by decide, Int.pow_zero, Int.pow_one] at h0 h1 h2 h3
    refine read_step big ptr l 0 0 _ _ (by omega) (by omega) (by omega) h0 (by omega) (by omega) (by omega) (by omega) ?_
    refine read_step big ptr l _ (0 + 1) _ _ (by omega) (by omega) (by omega) h1 (by omega) (by omega) (by omega) (by omega) ?_
    refine read_step big ptr l _ (0 + 1 + 1) _ _ (by omega) (by omega) (by omega) h2 (by omega) (by omega) (by omega) (by omega) ?_
    refine read_step big ptr l _ (0 + 1 + 1 + 1) _ _ (by omega) (by omega) (by omega) h3 (by omega) (by omega) (by omega) (by omega) (fin _ _ (by omega) ?_)
    omega
theorem read_back (big : Bool) (ptr kind : Int) (p : Bool) (n b o : Int) (hp : ptr = 2 ∨ ptr = 4) (h : mayS kind p n b o = true) : Ev (fun k => bytes_Read.f k big ptr kind (putL big (sizev ptr kind).toNat p n b o)) (p, n, b, o, 0) := by
  have hk : 1 ≤ kind ∧ kind ≤ 7 := by rcases put_of kind p n b o h with ⟨e, _⟩ | ⟨e, _⟩ <;> omega
  have hs := size_small ptr kind hp hk
  have hall := put_isB big ptr kind p n b o hp h
  have hlen := put_len big (sizev ptr kind).toNat p n b o
  unfold bytes_Read.f
  refine Ev.bindS (state_no _ 0 fun x hx => ?_) (Ev.neg (by decide) ?_)
  · have a := hall x hx
    cases p with
    | true =>
      have := a.2.1 rfl
      split at this <;> omega
    | false =>
      have := a.2.2.1 rfl
      omega
  rcases put_of kind p n b o h with ⟨rfl, rfl, rfl, h1, h2, h3, h4, h5⟩ | ⟨hk6, rfl, rfl, rfl, w, hh, P, c, K, n0, n1⟩
  · refine Ev.pos rfl (Ev.bind (pointer_at (l := putL big (sizev ptr 7).toNat true 0 b o) (by omega) (by omega) (true, 0, b, o, 0) ?_ ?_) (Ev.now _))
    · intro _
      have hb : ((putL big (sizev ptr 7).toNat true 0 b o)[0]'(by omega)).f2 = b ∧ ((putL big (sizev ptr 7).toNat true 0 b o)[0]'(by omega)).f3 = o := by
        rw [put_get, if_pos rfl]
        by_cases c : b > 0
        · rw [if_pos c]
          exact ⟨rfl, rfl⟩
        · rw [if_neg c]
          exact ⟨by show (0 : Int) = b; omega, by show (0 : Int) = o; omega⟩
      rw [hb.1, hb.2]
    · rintro ⟨i, hi, hne⟩
      refine absurd ?_ hne
      have hb : ((putL big (sizev ptr 7).toNat true 0 b o)[0]'(by omega)).f2 = b ∧ ((putL big (sizev ptr 7).toNat true 0 b o)[0]'(by omega)).f3 = o := by
        rw [put_get, if_pos rfl]
        by_cases c : b > 0
        · rw [if_pos c]
          exact ⟨rfl, rfl⟩
        · rw [if_neg c]
          exact ⟨by show (0 : Int) = b; omega, by show (0 : Int) = o; omega⟩
      rw [hb.1, hb.2, put_get, if_pos rfl]
      unfold want
      rfl
  · refine Ev.neg (by omega) (Ev.bindS (state_no _ 2 fun x hx => ?_) (Ev.neg (by decide) ?_))
    · have := (hall x hx).2.2.1 rfl
      omega
    · refine read_num big ptr _ n 0 0 ?_ n0
      have := K.size ptr
      rcases K.bb with ⟨e1, e2⟩ | ⟨e1, e2⟩ | ⟨e1, e2⟩
      · exact .inl ⟨by omega, by omega⟩
      · exact .inr (.inl ⟨by omega, by omega⟩)
      · exact .inr (.inr ⟨by omega, by omega⟩)
theorem get_of (big : Bool) (ptr kind : Int) (l : List S51) (r : Bool × Int × Int × Int × Int) (hp : ptr = 2 ∨ ptr = 4) (hk : 1 ≤ kind ∧ kind ≤ 7) (hl : (l.length : Int) = sizev ptr kind) (hb : ∀ x ∈ l, isB x = true) (h : Ev (fun k => bytes_Read.f k big ptr kind l) r) :
    Ev (fun k => bytes_Get.f k big ptr kind l) (r.1, r.2.1, r.2.2.1, r.2.2.2.1, r.2.2.2.2, 0) := by
  unfold bytes_Get.f
  refine Ev.bindS (amay _ _) (Ev.pos (decide_eq_true hp) (Ev.bindS (ascalar _) (Ev.pos (decide_eq_true hk) (Ev.bindS (abytes _ _ _ hk) (Ev.pos hl (Ev.bindS (any_not l) ?_))))))
  rw [List.all_eq_true.2 hb]
  exact Ev.neg (by decide) (Ev.bind h (Ev.now _))
theorem bb_l3 (A : List S38) (S : List S33) (B : List S51) (x3 kind ptr : Int) (p : Bool) (n b o : Int) (hp : ptr = 2 ∨ ptr = 4) (h : mayS kind p n b o = true) (a0 : 0 ≤ x3) (nx : Ev (fun k => cellarlaw8_BytesBack.j7 k x3 kind ptr A S B) true) :
    ∀ i : Int, 0 ≤ i → i ≤ (putL false (sizev ptr kind).toNat p n b o).length → Ev (fun k => cellarlaw8_BytesBack.l3 k x3 kind ptr (putL false (sizev ptr kind).toNat p n b o) (putL true (sizev ptr kind).toNat p n b o) i A S B false ptr) true := by
  have hk : 1 ≤ kind ∧ kind ≤ 7 := by rcases put_of kind p n b o h with ⟨e, _⟩ | ⟨e, _⟩ <;> omega
  have hs := size_small ptr kind hp hk
  have hlen := put_len false (sizev ptr kind).toNat p n b o
  have hlen' := put_len true (sizev ptr kind).toNat p n b o
  have hall := put_isB false ptr kind p n b o hp h
  refine down (Q := fun i => Ev (fun k => cellarlaw8_BytesBack.l3 k x3 kind ptr (putL false (sizev ptr kind).toNat p n b o) (putL true (sizev ptr kind).toNat p n b o) i A S B false ptr) true) ?_ ?_
  · refine Ev.step (fun k => by rw [cellarlaw8_BytesBack.l3]) ?_
    have m0 : 0 ≤ Int.tmod x3 ((putL false (sizev ptr kind).toNat p n b o).length : Int) := Int.tmod_nonneg _ a0
    have m1 : Int.tmod x3 ((putL false (sizev ptr kind).toNat p n b o).length : Int) < ((putL false (sizev ptr kind).toNat p n b o).length : Int) := Int.tmod_lt_of_pos _ (by omega)
    refine Ev.neg (by omega) (Ev.neg (by omega) (Ev.pos m0 (Ev.pos m1 ?_)))
    generalize (Int.tmod x3 ((putL false (sizev ptr kind).toNat p n b o).length : Int)) = j at m0 m1 ⊢
    have hread : Ev (fun k => bytes_Read.f k false ptr kind ((putL false (sizev ptr kind).toNat p n b o).set j.toNat ⟨0, 0, 0, 0, 0⟩)) (false, 0, 0, 0, 7) := by
      unfold bytes_Read.f
      refine Ev.bindS (state_b _ 0) (Ev.pos ?_ (Ev.now _))
      rw [List.any_eq_true]
      refine ⟨⟨0, 0, 0, 0, 0⟩, List.mem_iff_getElem.2 ⟨j.toNat, by rw [List.length_set]; omega, ?_⟩, rfl⟩
      rw [List.getElem_set_self]
    refine Ev.bind (get_of false ptr kind _ _ hp hk (by rw [List.length_set]; omega) (fun x hx => ?_) hread) ?_
    · rcases List.mem_or_eq_of_mem_set hx with hx | hx
      · exact (hall x hx).1
      · rw [hx]
        rfl
    · exact Ev.bindS (show cellarlaw8_num.f 0 = some 0 from rfl) (Ev.pos rfl (Ev.pos rfl nx))
  intro i i0 i1 ih
  have J6 : Ev (fun k => cellarlaw8_BytesBack.j6 k x3 kind ptr (putL false (sizev ptr kind).toNat p n b o) (putL true (sizev ptr kind).toNat p n b o) i A S B false ptr) true := by
    refine Ev.step (fun k => by rw [cellarlaw8_BytesBack.j6]) ?_
    rw [w64 (z := i + 1) (by omega) (by omega)]
    exact ih
  refine Ev.step (fun k => by rw [cellarlaw8_BytesBack.l3]) (Ev.pos i1 ?_)
  by_cases c7 : kind = 7
  · exact Ev.pos c7 J6
  refine Ev.neg c7 (Ev.pos i0 ?_)
  rw [show wrap64 ((wrap64 (((putL true (sizev ptr kind).toNat p n b o).length : Int) - 1)) - i) = ((putL true (sizev ptr kind).toNat p n b o).length : Int) - 1 - i by rw [w64 (z := ((putL true (sizev ptr kind).toNat p n b o).length : Int) - 1) (by omega) (by omega), w64 (by omega) (by omega)]]
  refine Ev.pos (by omega) (Ev.pos (by omega) ?_)
  obtain ⟨t, rfl⟩ := Int.eq_ofNat_of_zero_le i0
  have e : rd_T51 (putL false (sizev ptr kind).toNat p n b o) (t : Int) = rd_T51 (putL true (sizev ptr kind).toNat p n b o) (((putL true (sizev ptr kind).toNat p n b o).length : Int) - 1 - (t : Int)) := by
    rw [show ((putL true (sizev ptr kind).toNat p n b o).length : Int) - 1 - (t : Int) = (((sizev ptr kind).toNat - 1 - t : Nat) : Int) by omega, rd_get _ t (by omega), rd_get _ ((sizev ptr kind).toNat - 1 - t) (by omega), put_get, put_get]
    rcases put_of kind p n b o h with ⟨e7, _⟩ | ⟨_, rfl, _⟩
    · exact absurd e7 c7
    · rw [if_neg (by decide), if_neg (by decide), if_neg (by decide), if_pos rfl]
      congr 2
      show (t : Int) = (((sizev ptr kind).toNat - 1 - ((sizev ptr kind).toNat - 1 - t) : Nat) : Int)
      omega
  rw [e]
  exact Ev.neg (by simp) J6
theorem bb_l2 (A : List S38) (S : List S33) (B : List S51) (x3 kind : Int) (a0 : 0 ≤ x3) (a1 : x3 < S.length) (k0 : 1 ≤ kind) (k1 : kind ≤ 7) (nx : Ev (fun k => cellarlaw8_BytesBack.l1 k x3 (kind + 1) A S B) true) :
    Ev (fun k => cellarlaw8_BytesBack.l2 k x3 kind 2 A S B) true := by
  have key : ∀ ptr : Int, ptr = 2 ∨ ptr = 4 → Ev (fun k => cellarlaw8_BytesBack.l2 k x3 kind (ptr + 2) A S B) true → Ev (fun k => cellarlaw8_BytesBack.l2 k x3 kind ptr A S B) true := by
    intro ptr hp ih
    have J7 : Ev (fun k => cellarlaw8_BytesBack.j7 k x3 kind ptr A S B) true := by
      refine Ev.step (fun k => by rw [cellarlaw8_BytesBack.j7]) ?_
      rw [w64 (z := ptr + 2) (by omega) (by omega)]
      exact ih
    refine Ev.step (fun k => by rw [cellarlaw8_BytesBack.l2]) (Ev.pos (by omega) (Ev.pos a0 (Ev.pos a1 ?_)))
    generalize rd_T33 S x3 = s
    refine Ev.bind (put_ev false ptr kind s.f0 s.f1 s.f2 s.f3) (Ev.bind (put_ev true ptr kind s.f0 s.f1 s.f2 s.f3) ?_)
    by_cases h : mayS kind s.f0 s.f1 s.f2 s.f3 = true
    · have e : ∀ big, putV big ptr kind s.f0 s.f1 s.f2 s.f3 = (putL big (sizev ptr kind).toNat s.f0 s.f1 s.f2 s.f3, 0) := fun big => if_pos ⟨hp, h⟩
      rw [e, e]
      have hs := size_small ptr kind hp ⟨k0, k1⟩
      have g : ∀ big, Ev (fun k => bytes_Get.f k big ptr kind (putL big (sizev ptr kind).toNat s.f0 s.f1 s.f2 s.f3)) (s.f0, s.f1, s.f2, s.f3, 0, 0) := fun big =>
        get_of big ptr kind _ _ hp ⟨k0, k1⟩ (by rw [put_len]; omega) (fun x hx => (put_isB big ptr kind _ _ _ _ hp h x hx).1) (read_back big ptr kind _ _ _ _ hp h)
      refine Ev.bindS (show cellarlaw8_num.f 0 = some 0 from rfl) (Ev.bindS (show cellarlaw8_num.f 0 = some 0 from rfl) (Ev.pos rfl (Ev.bindS (show cellarlaw8_num.f 0 = some 0 from rfl) (Ev.pos rfl (Ev.bind (g false) (Ev.bind (g true) ?_))))))
      refine Ev.bindS (show cellarlaw8_num.f 0 = some 0 from rfl) (Ev.pos rfl (Ev.bindS (show cellarlaw8_num.f 0 = some 0 from rfl) (Ev.pos rfl (Ev.pos rfl (Ev.pos rfl ?_)))))
      refine Ev.neg (by simp) (Ev.neg (by simp) (Ev.pos (by rw [put_len, put_len]) ?_))
      refine Ev.step (fun k => by rw [cellarlaw8_BytesBack.j4]) ?_
      refine Ev.neg ?_ (bb_l3 A S B x3 kind ptr _ _ _ _ hp h a0 J7 0 (by omega) (by omega))
      rw [put_len, beq_iff_eq]
      omega
    · have e : ∀ big, putV big ptr kind s.f0 s.f1 s.f2 s.f3 = ([], 1) := fun big => if_neg fun c => h c.2
      rw [e, e]
      exact Ev.bindS (show cellarlaw8_num.f 1 = some 1 from rfl) (Ev.bindS (show cellarlaw8_num.f 1 = some 1 from rfl) (Ev.pos rfl (Ev.bindS (show cellarlaw8_num.f 1 = some 1 from rfl) (Ev.neg (by decide) J7))))
  refine key 2 (.inl rfl) (key (2 + 2) (.inr rfl) ?_)
  refine Ev.step (fun k => by rw [cellarlaw8_BytesBack.l2]) (Ev.neg (by omega) ?_)
  rw [w64 (z := kind + 1) (by omega) (by omega)]
  exact nx
theorem back_true (A : List S38) (S : List S33) (B : List S51) (hA : A.length ≤ 140737488351232) (hS : S.length ≤ 140737488351232) (hB : B.length ≤ 140737488351232) :
    Ev (fun k => cellarlaw8_BytesBack.f k A S B) true := by
  unfold cellarlaw8_BytesBack.f
  refine Ev.bindS (heavy A S B hA hS hB) ?_
  by_cases c : 300 < A.length + S.length + B.length
  · exact Ev.pos (decide_eq_true c) (Ev.now _)
  refine Ev.neg (by rw [decide_eq_true_eq]; exact c) ?_
  have fin : ∀ i, Ev (fun k => cellarlaw8_BytesBack.j1 k i false A S B) true := fun i => Ev.step (fun k => by rw [cellarlaw8_BytesBack.j1]) (Ev.neg (by decide) (Ev.bind wakes_ev (Ev.now _)))
  have key : ∀ i : Int, 0 ≤ i → i ≤ S.length → Ev (fun k => cellarlaw8_BytesBack.l0 k i A S B) true := by
    refine down (Q := fun i => Ev (fun k => cellarlaw8_BytesBack.l0 k i A S B) true) ?_ ?_
    · exact Ev.step (fun k => by rw [cellarlaw8_BytesBack.l0]) (Ev.neg (by omega) (fin _))
    intro i i0 i1 ih
    refine Ev.step (fun k => by rw [cellarlaw8_BytesBack.l0]) (Ev.pos i1 ?_)
    cases hc : decide (i < 10) with
    | false => exact fin _
    | true =>
      refine Ev.step (fun k => by rw [cellarlaw8_BytesBack.j1]) (Ev.pos rfl ?_)
      have K : ∀ kind : Int, 1 ≤ kind → kind ≤ 8 → Ev (fun k => cellarlaw8_BytesBack.l1 k i kind A S B) true := by
        refine down (Q := fun kind => Ev (fun k => cellarlaw8_BytesBack.l1 k i kind A S B) true) ?_ ?_
        · refine Ev.step (fun k => by rw [cellarlaw8_BytesBack.l1]) (Ev.neg (by omega) ?_)
          rw [w64 (z := i + 1) (by omega) (by omega)]
          exact ih
        intro kind k0 k1 ihk
        exact Ev.step (fun k => by rw [cellarlaw8_BytesBack.l1]) (Ev.pos (by omega) (bb_l2 A S B i kind i0 i1 k0 (by omega) ihk))
      exact K 1 (by omega) (by omega)
  exact key 0 (by omega) (by omega)
end Go.Proofs.Ythhdmanpjeminaa.B
