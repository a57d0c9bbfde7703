/- Scalars as bytes: what the program's bytes tells of any scalar, and of any bytes, is what the reference tells. No Go and no memory in it. -/
import Derived.Test.YthhdmanpjeminaaCx3
import Derived.Test.YthhdmanpjeminaaCx5
import Derived.Test.YthhdmanpjeminaaCx6
import Derived.Test.YthhdmanpjeminaaCx8
import Derived.Test.YthhdmanpjeminaaCx9
import Derived.Test.YthhdmanpjeminaaCx11
import Derived.Test.YthhdmanpjeminaaCx12
import Derived.Test.YthhdmanpjeminaaCx13
import Derived.Test.YthhdmanpjeminaaEvs
import Derived.Test.YthhdmanpjeminaaFn
namespace Go.Proofs.Ythhdmanpjeminaa.C
open Go.RowKit Go.Proofs.Ythhdmanpjeminaa.Fn Go.Proofs.YthhdmanpjeminaaW.PrintWords Go.Proofs.YthhdmanpjeminaaW.PrintLast Go.Proofs.YthhdmanpjeminaaW.PrintMore Go.Proofs.Ythhdmanpjeminaa.Evs
set_option linter.unusedVariables false
set_option linter.unusedSimpArgs false

/-! ### Bits -/
theorem mask_nat (n : Int) (j : Nat) : ((BitVec.ofInt 64 n).toNat &&& (2 ^ j - 1) : Nat) = (n % 18446744073709551616).toNat % 2 ^ j := by
  rw [Nat.and_two_pow_sub_one_eq_mod, BitVec.toNat_ofInt]
  rfl

theorem mask_i64 (n : Int) (j : Nat) (m : Nat) (hm : m = 2 ^ j - 1) (hj : j ≤ 32) : Go.bits .and .i64 n (m : Int) = (((n % 18446744073709551616).toNat % 2 ^ j : Nat) : Int) := by
  have hp : 2 ^ j ≤ 2 ^ 32 := Nat.pow_le_pow_right (by decide) hj
  have h0 : 0 < 2 ^ j := Nat.two_pow_pos j
  have h1 : (n % 18446744073709551616).toNat % 2 ^ j < 2 ^ 32 := Nat.lt_of_lt_of_le (Nat.mod_lt _ h0) hp
  have e : (BitVec.ofInt 64 (m : Int)).toNat = m := by
    rw [BitVec.ofInt_natCast, BitVec.toNat_ofNat]
    exact Nat.mod_eq_of_lt (by omega)
  show IntKind.i64.wrap ((BitVec.ofInt 64 n &&& BitVec.ofInt 64 (m : Int)).toNat : Int) = _
  rw [BitVec.toNat_and, e, hm, mask_nat, IntKind.wrap_i64]
  omega

theorem mask8 (n : Int) : Go.bits .and .i64 n 255 = n % 256 := by
  have h := mask_i64 n 8 255 (by decide) (by decide)
  have e : ((255 : Nat) : Int) = 255 := rfl
  rw [e] at h
  rw [h]
  omega
theorem mask16 (n : Int) : Go.bits .and .i64 n 65535 = n % 65536 := by
  have h := mask_i64 n 16 65535 (by decide) (by decide)
  have e : ((65535 : Nat) : Int) = 65535 := rfl
  rw [e] at h
  rw [h]
  omega
theorem mask32 (n : Int) : Go.bits .and .i64 n 4294967295 = n % 4294967296 := by
  have h := mask_i64 n 32 4294967295 (by decide) (by decide)
  have e : ((4294967295 : Nat) : Int) = 4294967295 := rfl
  rw [e] at h
  rw [h]
  omega

/-! ### Kinds -/
/-- What is known of a kind of numbers: its width w, half of its numbers h, all of them P, its bytes b. -/
structure KD (kind w h P b : Int) : Prop where
  of : word_Of.f kind = some w
  wd : ∀ k, cellarref1_Width.f (k + 2) kind = some w
  isk : word_IsKind.f kind = some true
  w1 : 8 ≤ w
  w2 : w ≤ 32
  s1 : shl .i64 1 w = P
  s2 : shl .i64 1 (w - 1) = h
  PP : P = 2 * h
  h1 : 128 ≤ h
  h2 : h ≤ 2147483648
  msk : ∀ n, Go.bits .and .i64 n (P - 1) = n % P
  wb : wrap64 (Int.tdiv w 8) = b
  bb : (b = 1 ∧ P = 256) ∨ (b = 2 ∧ P = 65536) ∨ (b = 4 ∧ P = 4294967296)
  k7 : 1 ≤ kind ∧ kind ≤ 6

theorem kd_of (kind : Int) (h0 : 1 ≤ kind) (h1 : kind ≤ 6) : ∃ w h P b, KD kind w h P b := by
  have : kind = 1 ∨ kind = 2 ∨ kind = 3 ∨ kind = 4 ∨ kind = 5 ∨ kind = 6 := by omega
  rcases this with rfl | rfl | rfl | rfl | rfl | rfl
  · exact ⟨8, 128, 256, 1, by decide +kernel, fun k => rfl, by decide +kernel, by decide, by decide, by decide +kernel, by decide +kernel, by decide, by decide, by decide, mask8, by decide +kernel, .inl ⟨rfl, rfl⟩, by decide⟩
  · exact ⟨8, 128, 256, 1, by decide +kernel, fun k => rfl, by decide +kernel, by decide, by decide, by decide +kernel, by decide +kernel, by decide, by decide, by decide, mask8, by decide +kernel, .inl ⟨rfl, rfl⟩, by decide⟩
  · exact ⟨16, 32768, 65536, 2, by decide +kernel, fun k => rfl, by decide +kernel, by decide, by decide, by decide +kernel, by decide +kernel, by decide, by decide, by decide, mask16, by decide +kernel, .inr (.inl ⟨rfl, rfl⟩), by decide⟩
  · exact ⟨16, 32768, 65536, 2, by decide +kernel, fun k => rfl, by decide +kernel, by decide, by decide, by decide +kernel, by decide +kernel, by decide, by decide, by decide, mask16, by decide +kernel, .inr (.inl ⟨rfl, rfl⟩), by decide⟩
  · exact ⟨32, 2147483648, 4294967296, 4, by decide +kernel, fun k => rfl, by decide +kernel, by decide, by decide, by decide +kernel, by decide +kernel, by decide, by decide, by decide, mask32, by decide +kernel, .inr (.inr ⟨rfl, rfl⟩), by decide⟩
  · exact ⟨32, 2147483648, 4294967296, 4, by decide +kernel, fun k => rfl, by decide +kernel, by decide, by decide, by decide +kernel, by decide +kernel, by decide, by decide, by decide, mask32, by decide +kernel, .inr (.inr ⟨rfl, rfl⟩), by decide⟩

theorem no_kind (kind : Int) (h : kind < 1 ∨ 6 < kind) (k : Nat) : cellarref1_Width.f (k + 2) kind = some 0 := by
  unfold cellarref1_Width.f
  rw [if_neg (by omega)]
  simp only [cellarref1_Width.j0]
  rw [if_neg (by simp; omega), if_neg (by omega)]
  simp only [cellarref1_Width.j1]
  rw [if_neg (by simp; omega), if_neg (by omega), if_neg (by omega)]
theorem no_isk (kind : Int) (h : kind < 1 ∨ 6 < kind) : word_IsKind.f kind = some false := by
  unfold word_IsKind.f
  by_cases h1 : kind ≥ 1
  · rw [if_pos h1]
    simp
    omega
  · rw [if_neg h1]

section
variable {kind w h P b : Int} (K : KD kind w h P b)
include K
theorem KD.pm : wrap64 (P - 1) = P - 1 := by have := K.PP; have := K.h1; have := K.h2; exact w64 (by omega) (by omega)
theorem KD.w0 : 0 ≤ w := by have := K.w1; omega
theorem KD.most : word_Most.f w = some (P - 1) := by
  unfold word_Most.f
  rw [if_pos K.w0, K.s1, K.pm]
theorem KD.is (n : Int) : word_Is.f n w = some (decide (0 ≤ n ∧ n < P)) := by
  unfold word_Is.f
  by_cases hn : n ≥ 0
  · rw [if_pos hn, K.most, Option.bind_some]
    congr 1
    rw [decide_eq_decide]
    omega
  · rw [if_neg hn]
    congr 1
    symm
    rw [decide_eq_false_iff_not]
    omega
theorem KD.number (n : Int) : cellarref1_Number.f n w = some (decide (0 ≤ n ∧ n < P)) := by
  unfold cellarref1_Number.f cellarref0_Num.f
  rw [if_pos K.w0, K.s1, K.pm]
  by_cases hn : n ≥ 0
  · rw [if_pos hn, Option.bind_some]
    congr 1
    rw [decide_eq_decide]
    omega
  · rw [if_neg hn, Option.bind_some]
    congr 1
    symm
    rw [decide_eq_false_iff_not]
    omega
end

/-! ### Machines and sizes -/
theorem amay (b : Bool) (p : Int) : word_May.f b p = some (decide (p = 2 ∨ p = 4)) := by
  unfold word_May.f
  by_cases c : p = 2
  · simp [c]
  · by_cases d : p = 4
    · simp [d]
    · simp [c, d]
theorem rabi (b : Bool) (p : Int) : cellarref1_Abi.f b p = some (decide (p = 2 ∨ p = 4)) := amay b p
theorem num_le (n m : Int) : cellarref0_Num.f n m = some (decide (0 ≤ n ∧ n ≤ m)) := by
  unfold cellarref0_Num.f
  by_cases c : n ≥ 0
  · rw [if_pos c]
    congr 1
    rw [decide_eq_decide]
    omega
  · rw [if_neg c]
    congr 1
    symm
    rw [decide_eq_false_iff_not]
    omega
theorem up_le (n m : Int) : bytes_up.f n m = some (decide (0 ≤ n ∧ n ≤ m)) := num_le n m
theorem btw (n a m : Int) : cellarref0_Between.f n a m = some (decide (a ≤ n ∧ n ≤ m)) := by
  unfold cellarref0_Between.f
  by_cases c : n ≥ a
  · rw [if_pos c]
    congr 1
    rw [decide_eq_decide]
    omega
  · rw [if_neg c]
    congr 1
    symm
    rw [decide_eq_false_iff_not]
    omega
theorem ascalar (kind : Int) : word_IsScalar.f kind = some (decide (1 ≤ kind ∧ kind ≤ 7)) := btw kind 1 7
/-- How many bytes a scalar has. -/
def sizev (p kind : Int) : Int := if kind = 7 then p else wrap64 (Int.tdiv ((word_Of.f kind).getD 0) 8)
theorem rsize (k : Nat) (b : Bool) (p kind : Int) (h : 1 ≤ kind ∧ kind ≤ 7) : cellarref1_Size.f (k + 2) b p kind = some (sizev p kind) := by
  unfold cellarref1_Size.f sizev
  by_cases c : kind = 7
  · rw [if_pos c, if_pos c]
  · obtain ⟨w, hh, P, s, K⟩ := kd_of kind (by omega) (by omega)
    rw [if_neg c, if_neg c, K.wd, K.of]
    rfl
theorem abytes (b : Bool) (p kind : Int) (h : 1 ≤ kind ∧ kind ≤ 7) : word_Bytes.f b p kind = some (sizev p kind) := by
  unfold word_Bytes.f sizev
  by_cases e : kind = 7
  · rw [if_pos e, if_pos e]
  · obtain ⟨w, hh, P, s, K⟩ := kd_of kind (by omega) (by omega)
    rw [if_neg e, if_neg e, K.of]
    rfl
theorem size_small (p kind : Int) (hp : p = 2 ∨ p = 4) (h : 1 ≤ kind ∧ kind ≤ 7) : sizev p kind = 1 ∨ sizev p kind = 2 ∨ sizev p kind = 4 := by
  unfold sizev
  by_cases e : kind = 7
  · rw [if_pos e]
    omega
  · obtain ⟨w, hh, P, s, K⟩ := kd_of kind (by omega) (by omega)
    rw [if_neg e, K.of]
    show wrap64 (Int.tdiv w 8) = 1 ∨ wrap64 (Int.tdiv w 8) = 2 ∨ wrap64 (Int.tdiv w 8) = 4
    rw [K.wb]
    rcases K.bb with ⟨h, _⟩ | ⟨h, _⟩ | ⟨h, _⟩ <;> simp [h]
theorem KD.size {kind w h P b : Int} (K : KD kind w h P b) (p : Int) : sizev p kind = b := by
  have := K.k7
  unfold sizev
  rw [if_neg (by omega), K.of]
  exact K.wb

/-! ### May a byte be? -/
def isB (x : S51) : Bool := decide ((x.f0 = 0 ∧ x.f1 = 0 ∧ x.f2 = 0 ∧ x.f3 = 0 ∧ x.f4 = 0) ∨ (x.f0 = 1 ∧ (0 ≤ x.f1 ∧ x.f1 ≤ 255) ∧ x.f2 = 0 ∧ x.f3 = 0 ∧ x.f4 = 0) ∨ (x.f0 = 2 ∧ x.f1 = 0 ∧ (1 ≤ x.f2 ∧ x.f2 ≤ 32) ∧ (0 ≤ x.f3 ∧ x.f3 ≤ 32) ∧ 0 ≤ x.f4 ∧ x.f4 ≤ 3))
theorem is_b (x : S51) : bytes_Is.f x.f0 x.f1 x.f2 x.f3 x.f4 = some (isB x) := by
  unfold bytes_Is.f isB
  simp only [up_le, Option.bind_some]
  by_cases h0 : x.f0 = 0
  · rw [if_pos h0]
    congr 1
    rw [Bool.eq_iff_iff]
    simp [h0]
  · rw [if_neg h0]
    by_cases h1 : x.f0 = 1
    · rw [if_pos h1]
      by_cases c : 0 ≤ x.f1 ∧ x.f1 ≤ 255
      · rw [if_pos (decide_eq_true c)]
        congr 1
        rw [Bool.eq_iff_iff]
        simp [h1, c]
      · rw [if_neg (by simpa using c)]
        congr 1
        symm
        rw [decide_eq_false_iff_not]
        omega
    · rw [if_neg h1]
      by_cases h2 : x.f0 = 2
      · rw [if_pos h2]
        by_cases c1 : x.f1 = 0
        · rw [if_pos c1]
          by_cases c2 : x.f2 ≥ 1
          · rw [if_pos c2]
            by_cases c3 : x.f2 ≤ 32
            · rw [if_pos c3]
              by_cases c4 : 0 ≤ x.f3 ∧ x.f3 ≤ 32
              · rw [if_pos (decide_eq_true c4)]
                congr 1
                rw [decide_eq_decide]
                omega
              · rw [if_neg (by simpa using c4)]
                congr 1
                symm
                rw [decide_eq_false_iff_not]
                omega
            · rw [if_neg c3]
              congr 1
              symm
              rw [decide_eq_false_iff_not]
              omega
          · rw [if_neg c2]
            congr 1
            symm
            rw [decide_eq_false_iff_not]
            omega
        · rw [if_neg c1]
          congr 1
          symm
          rw [decide_eq_false_iff_not]
          omega
      · rw [if_neg h2]
        congr 1
        symm
        rw [decide_eq_false_iff_not]
        omega
/-! ### May a scalar be? -/
def mayS (kind : Int) (p : Bool) (n b o : Int) : Bool :=
  if kind = 7 then decide (p = true ∧ n = 0 ∧ (0 ≤ b ∧ b ≤ 32) ∧ (0 ≤ o ∧ o ≤ 32) ∧ (0 < b ∨ o = 0))
  else decide ((1 ≤ kind ∧ kind ≤ 6) ∧ p = false ∧ (0 ≤ n ∧ n < shl .i64 1 ((word_Of.f kind).getD 0)) ∧ b = 0 ∧ o = 0)
theorem may_s (kind : Int) (p : Bool) (n b o : Int) : bytes_May.f kind p n b o = some (mayS kind p n b o) := by
  unfold bytes_May.f mayS
  by_cases hk : 1 ≤ kind ∧ kind ≤ 6
  · obtain ⟨w, hh, P, s, K⟩ := kd_of kind hk.1 hk.2
    rw [K.isk, Option.bind_some, if_pos rfl, if_neg (show ¬ kind = 7 by omega), K.of]
    cases p with
    | true => simp
    | false =>
      rw [if_neg (by decide), Option.bind_some, K.is, Option.bind_some]
      simp only [Option.getD_some, K.s1]
      by_cases c : 0 ≤ n ∧ n < P
      · rw [if_pos (decide_eq_true c)]
        by_cases d : b = 0
        · rw [if_pos d]
          congr 1
          rw [Bool.eq_iff_iff]
          simp [hk, c, d]
        · rw [if_neg d]
          congr 1
          symm
          rw [decide_eq_false_iff_not]
          omega
      · rw [if_neg (by simpa using c)]
        congr 1
        symm
        rw [decide_eq_false_iff_not]
        omega
  · rw [no_isk kind (by omega), Option.bind_some, if_neg (by decide)]
    simp only [up_le, Option.bind_some]
    by_cases h7 : kind = 7
    · rw [if_pos h7, if_pos h7]
      cases p with
      | true =>
        rw [if_pos rfl]
        by_cases c1 : n = 0
        · rw [if_pos c1]
          by_cases c2 : 0 ≤ b ∧ b ≤ 32
          · rw [if_pos (decide_eq_true c2)]
            by_cases c3 : 0 ≤ o ∧ o ≤ 32
            · rw [if_pos (decide_eq_true c3)]
              by_cases c4 : b > 0
              · rw [if_pos c4]
                congr 1
                symm
                rw [decide_eq_true_iff]
                exact ⟨rfl, c1, c2, c3, .inl c4⟩
              · rw [if_neg c4]
                congr 1
                rw [Bool.eq_iff_iff]
                simp [c1, c2, c3]
                omega
            · rw [if_neg (by simpa using c3)]
              congr 1
              symm
              rw [decide_eq_false_iff_not]
              omega
          · rw [if_neg (by simpa using c2)]
            congr 1
            symm
            rw [decide_eq_false_iff_not]
            omega
        · rw [if_neg c1]
          congr 1
          symm
          rw [decide_eq_false_iff_not]
          omega
      | false => simp
    · rw [if_neg h7, if_neg h7]
      congr 1
      symm
      rw [decide_eq_false_iff_not]
      omega
/-! ### Lists of bytes -/
theorem set_mid {α : Type} (A B : List α) (z v : α) (i : Nat) (h : A.length = i) : (A ++ z :: B).set i v = A ++ v :: B := by
  subst h
  rw [List.set_append_right _ _ (Nat.le_refl _), Nat.sub_self]
  rfl
/-- The first i of n are told by g, the others are nothing yet. -/
def fillL (g : Nat → S51) (i n : Nat) : List S51 := (List.range i).map g ++ List.replicate (n - i) z51
theorem fill_len (g : Nat → S51) (i n : Nat) (h : i ≤ n) : (fillL g i n).length = n := by simp [fillL]; omega
theorem fill_set (g : Nat → S51) (i n : Nat) (h : i < n) : (fillL g i n).set i (g i) = fillL g (i + 1) n := by
  unfold fillL
  rw [show n - i = (n - (i + 1)) + 1 by omega, List.replicate_succ, set_mid _ _ _ _ _ (by simp), List.range_succ, List.map_append, List.append_assoc]
  rfl
theorem fill_all (g : Nat → S51) (n : Nat) : fillL g n n = (List.range n).map g := by simp [fillL]
theorem fill_none (g : Nat → S51) (n : Nat) : fillL g 0 n = List.replicate n z51 := by simp [fillL]
theorem rd_get (l : List S51) (i : Nat) (h : i < l.length) : rd_T51 l (i : Int) = l[i] := by
  unfold rd_T51
  simp [List.getD_eq_getElem?_getD, List.getElem?_eq_getElem h]
theorem ne_b (x : S51) (a b c d e : Int) : (!(x.f0 == a) || (!(x.f1 == b) || (!(x.f2 == c) || (!(x.f3 == d) || (!(x.f4 == e)))))) = true ↔ ¬ x = ⟨a, b, c, d, e⟩ := by
  obtain ⟨x0, x1, x2, x3, x4⟩ := x
  simp only [S51.mk.injEq, Bool.or_eq_true, Bool.not_eq_true', beq_eq_false_iff_ne, ne_eq]
  constructor
  · rintro h ⟨h0, h1, h2, h3, h4⟩
    rcases h with h | h | h | h | h
    · exact h h0
    · exact h h1
    · exact h h2
    · exact h h3
    · exact h h4
  · intro h
    by_cases h0 : x0 = a
    · by_cases h1 : x1 = b
      · by_cases h2 : x2 = c
        · by_cases h3 : x3 = d
          · exact .inr (.inr (.inr (.inr fun h4 => h ⟨h0, h1, h2, h3, h4⟩)))
          · exact .inr (.inr (.inr (.inl h3)))
        · exact .inr (.inr (.inl h2))
      · exact .inr (.inl h1)
    · exact .inl h0
theorem eq_ev (l m : List S51) (hl : l.length ≤ 1000000) : (l = m → Ev (fun k => cellarref0_EqBytes.f k l m) true) ∧ (¬ l = m → Ev (fun k => cellarref0_EqBytes.f k l m) false) := by
  unfold cellarref0_EqBytes.f
  by_cases hlen : l.length = m.length
  · have key : ∀ i : Int, 0 ≤ i → i ≤ l.length → (l.drop i.toNat = m.drop i.toNat → Ev (fun k => cellarref0_EqBytes.l0 k l m i) true) ∧ (¬ l.drop i.toNat = m.drop i.toNat → Ev (fun k => cellarref0_EqBytes.l0 k l m i) false) := by
      refine down (Q := fun i => (l.drop i.toNat = m.drop i.toNat → Ev (fun k => cellarref0_EqBytes.l0 k l m i) true) ∧ (¬ l.drop i.toNat = m.drop i.toNat → Ev (fun k => cellarref0_EqBytes.l0 k l m i) false)) ?_ ?_
      · refine ⟨fun _ => ?_, fun h => absurd ?_ h⟩
        · refine Ev.step (fun k => by rw [cellarref0_EqBytes.l0]) ?_
          exact Ev.neg (by omega) (Ev.now _)
        · rw [Int.toNat_natCast, List.drop_length, hlen, List.drop_length]
      intro i i0 i1 ih
      obtain ⟨n, rfl⟩ := Int.eq_ofNat_of_zero_le i0
      have hn : n < l.length := by omega
      have hm : n < m.length := by omega
      rw [show ((n : Int) + 1).toNat = n + 1 by omega] at ih
      rw [Int.toNat_natCast, List.drop_eq_getElem_cons hn, List.drop_eq_getElem_cons hm]
      have step : ∀ r, (l[n] = m[n] → Ev (fun k => cellarref0_EqBytes.l0 k l m ((n : Int) + 1)) r) → (¬ l[n] = m[n] → r = false) → Ev (fun k => cellarref0_EqBytes.l0 k l m (n : Int)) r := by
        intro r h1 h2
        refine Ev.step (fun k => by rw [cellarref0_EqBytes.l0]) ?_
        refine Ev.pos i1 (Ev.pos i0 ?_)
        refine Ev.pos (by omega) ?_
        rw [rd_get l n hn, rd_get m n hm]
        by_cases e : l[n] = m[n]
        · refine Ev.neg (fun h => (ne_b _ _ _ _ _ _).1 h e) ?_
          rw [w64 (z := (n : Int) + 1) (by omega) (by omega)]
          exact h1 e
        · refine Ev.pos ((ne_b _ _ _ _ _ _).2 e) ?_
          rw [h2 e]
          exact Ev.now _
      refine ⟨fun h => ?_, fun h => ?_⟩
      · injection h with ha hb
        exact step true (fun _ => ih.1 hb) (fun h => absurd ha h)
      · refine step false (fun e => ih.2 (fun hb => h (by rw [e, hb]))) (fun _ => rfl)
    have k0 := key 0 (by omega) (by omega)
    exact ⟨fun h => Ev.pos (by omega) (k0.1 (by simpa using h)), fun h => Ev.pos (by omega) (k0.2 (by simpa using h))⟩
  · exact ⟨fun h => absurd (by rw [h]) hlen, fun _ => Ev.neg (by omega) (Ev.now _)⟩

/-! ### A scalar's bytes -/
def bt8 (n k : Int) : Int := Go.bits .and .i64 (shr .i64 n (wrap64 (8 * k))) 255
theorem bt8_range (n k : Int) : 0 ≤ bt8 n k ∧ bt8 n k ≤ 255 := by
  unfold bt8
  rw [mask8]
  omega
theorem bt8_zero (k : Int) : bt8 0 k = 0 := by
  unfold bt8 shr
  rw [mask8, Int.zero_ediv]
  rfl
theorem bt8_at (n : Int) (k : Nat) (hk : k < 4) : bt8 n k = n / 256 ^ k % 256 := by
  unfold bt8 shr
  rw [mask8]
  have : k = 0 ∨ k = 1 ∨ k = 2 ∨ k = 3 := by omega
  rcases this with rfl | rfl | rfl | rfl
  · rw [show wrap64 (8 * ((0 : Nat) : Int)) = 0 by decide +kernel]
    rfl
  · rw [show wrap64 (8 * ((1 : Nat) : Int)) = 8 by decide +kernel]
    rfl
  · rw [show wrap64 (8 * ((2 : Nat) : Int)) = 16 by decide +kernel]
    rfl
  · rw [show wrap64 (8 * ((3 : Nat) : Int)) = 24 by decide +kernel]
    rfl
/-- A scalar's bytes. -/
def putL (big : Bool) (sz : Nat) (p : Bool) (n b o : Int) : List S51 :=
  (List.range sz).map fun (i : Nat) => if p = true then (if b > 0 then ⟨2, 0, b, o, (i : Int)⟩ else ⟨1, 0, 0, 0, 0⟩) else ⟨1, bt8 n (if big = true then Int.ofNat (sz - 1 - i) else (i : Int)), 0, 0, 0⟩
theorem rev_some (k : Nat) (l : List S51) (h : l.length = 1 ∨ l.length = 2 ∨ l.length = 4) : api_Byte_55.f (k + 3) l = some l.reverse := by
  have e1 : wrap64 (0 + 1) = 1 := by decide +kernel
  have e2 : wrap64 (3 - 1) = 2 := by decide +kernel
  have e3 : wrap64 (1 + 1) = 2 := by decide +kernel
  have e4 : wrap64 (2 - 1) = 1 := by decide +kernel
  have e5 : wrap64 (1 - 1) = 0 := by decide +kernel
  have e6 : wrap64 (4 - 1) = 3 := by decide +kernel
  have e7 : wrap64 0 = 0 := by decide +kernel
  have e8 : wrap64 1 = 1 := by decide +kernel
  have e9 : wrap64 2 = 2 := by decide +kernel
  unfold api_Byte_55.f
  rcases h with h | h | h
  · obtain ⟨a, rfl⟩ : ∃ a, l = [a] := by
      match l, h with
      | [a], _ => exact ⟨a, rfl⟩
    simp only [List.length_cons, List.length_nil]
    rw [show wrap64 (((0 + 1 : Nat) : Int) - 1) = 0 from e5]
    simp [api_Byte_55.l0]
  · obtain ⟨a, b, rfl⟩ : ∃ a b, l = [a, b] := by
      match l, h with
      | [a, b], _ => exact ⟨a, b, rfl⟩
    simp only [List.length_cons, List.length_nil]
    rw [show wrap64 (((0 + 1 + 1 : Nat) : Int) - 1) = 1 from e4]
    simp [api_Byte_55.l0, rd_T51, e5, e7, e8]
  · obtain ⟨a, b, c, d, rfl⟩ : ∃ a b c d, l = [a, b, c, d] := by
      match l, h with
      | [a, b, c, d], _ => exact ⟨a, b, c, d, rfl⟩
    simp only [List.length_cons, List.length_nil]
    rw [show wrap64 (((0 + 1 + 1 + 1 + 1 : Nat) : Int) - 1) = 3 from e6]
    simp [api_Byte_55.l0, rd_T51, e1, e2, e3, e4, e7, e8, e9]
theorem put_of (kind : Int) (p : Bool) (n b o : Int) (h : mayS kind p n b o = true) : (kind = 7 ∧ p = true ∧ n = 0 ∧ 0 ≤ b ∧ b ≤ 32 ∧ 0 ≤ o ∧ o ≤ 32 ∧ (0 < b ∨ o = 0)) ∨ ((1 ≤ kind ∧ kind ≤ 6) ∧ p = false ∧ b = 0 ∧ o = 0 ∧ ∃ w hh P c, KD kind w hh P c ∧ 0 ≤ n ∧ n < P) := by
  unfold mayS at h
  by_cases e : kind = 7
  · rw [if_pos e, decide_eq_true_eq] at h
    exact .inl ⟨e, h.1, h.2.1, h.2.2.1.1, h.2.2.1.2, h.2.2.2.1.1, h.2.2.2.1.2, h.2.2.2.2⟩
  · rw [if_neg e, decide_eq_true_eq] at h
    obtain ⟨hk, hp, hn, hb, ho⟩ := h
    obtain ⟨w, hh, P, c, K⟩ := kd_of kind hk.1 hk.2
    rw [K.of, Option.getD_some, K.s1] at hn
    exact .inr ⟨hk, hp, hb, ho, w, hh, P, c, K, hn⟩
theorem spell_ev (big : Bool) (ptr kind : Int) (p : Bool) (n b o : Int) (hp : ptr = 2 ∨ ptr = 4) (h : mayS kind p n b o = true) :
    Ev (fun k => bytes_Spell.f k big ptr kind p n b o) (putL big (sizev ptr kind).toNat p n b o) := by
  have hk : 1 ≤ kind ∧ kind ≤ 7 := by rcases put_of kind p n b o h with ⟨e, _⟩ | ⟨e, _⟩ <;> omega
  have hs := size_small ptr kind hp hk
  have ab := abytes big ptr kind hk
  unfold bytes_Spell.f
  generalize sizev ptr kind = sz at hs ab ⊢
  obtain ⟨m, rfl⟩ : ∃ m : Nat, sz = m := ⟨sz.toNat, by omega⟩
  rw [Int.toNat_natCast]
  have hm : m = 1 ∨ m = 2 ∨ m = 4 := by omega
  -- the loop
  have key : ∀ (g : Nat → S51) (r : List S51), (∀ i : Nat, i < m → g i = if b > 0 then ⟨2, 0, b, o, (i : Int)⟩ else ⟨1, bt8 n i, 0, 0, 0⟩) → (kind = 7 → r = (List.range m).map g) → (¬ kind = 7 → r = if big = true then ((List.range m).map g).reverse else (List.range m).map g) →
      Ev (fun k => bytes_Spell.l0 k kind (List.replicate m z51) m 0 big ptr p n b o) r := by
    intro g r hg hr7 hr
    suffices H : ∀ i : Int, 0 ≤ i → i ≤ m → Ev (fun k => bytes_Spell.l0 k kind (fillL g i.toNat m) m i big ptr p n b o) r by
      have := H 0 (by omega) (by omega)
      rwa [show (0 : Int).toNat = 0 from rfl, fill_none] at this
    refine down (Q := fun i => Ev (fun k => bytes_Spell.l0 k kind (fillL g i.toNat m) m i big ptr p n b o) r) ?_ ?_
    · refine Ev.step (fun k => by rw [bytes_Spell.l0]) ?_
      refine Ev.neg (by omega) ?_
      rw [Int.toNat_natCast, fill_all]
      by_cases e : kind = 7
      · refine Ev.pos e ?_
        rw [hr7 e]
        exact Ev.now _
      · refine Ev.neg e ?_
        rw [hr e]
        cases big with
        | true =>
          refine Ev.pos rfl ?_
          rw [if_pos rfl]
          exact Ev.bind (Ev.plus 3 fun k => rev_some k _ (by simpa using hm)) (Ev.now _)
        | false => exact Ev.neg (by decide) (Ev.now _)
    intro i i0 i1 ih
    obtain ⟨j, rfl⟩ := Int.eq_ofNat_of_zero_le i0
    have hj : j < m := by omega
    rw [show ((j : Int) + 1).toNat = j + 1 by omega, ← fill_set g j m hj, hg j hj] at ih
    have hlen := fill_len g j m (by omega)
    refine Ev.step (fun k => by rw [bytes_Spell.l0]) ?_
    refine Ev.pos i1 ?_
    rw [Int.toNat_natCast]
    by_cases c : b > 0
    · rw [if_pos c] at ih
      refine Ev.pos c (Ev.pos i0 ?_)
      refine Ev.pos (by rw [hlen]; exact i1) ?_
      rw [w64 (z := (j : Int) + 1) (by omega) (by omega)]
      exact ih
    · rw [if_neg c] at ih
      refine Ev.neg c ?_
      refine Ev.pos (by rw [w64 (by omega) (by omega)]; omega) (Ev.pos i0 ?_)
      refine Ev.pos (by rw [hlen]; exact i1) ?_
      rw [w64 (z := (j : Int) + 1) (by omega) (by omega)]
      exact ih
  refine Ev.bindS ab ?_
  refine Ev.pos (by omega) (Ev.pos (by omega) ?_)
  refine Ev.bindS rfl ?_
  rw [List.length_replicate, Int.toNat_natCast]
  have ho := put_of kind p n b o h
  refine key (fun i => if b > 0 then ⟨2, 0, b, o, (i : Int)⟩ else ⟨1, bt8 n i, 0, 0, 0⟩) _ (fun i hi => rfl) ?_ ?_
  · intro e
    rcases ho with ⟨_, rfl, rfl, _⟩ | ⟨e', _⟩
    · unfold putL
      refine List.map_congr_left fun i _ => ?_
      rw [if_pos rfl]
      by_cases c : b > 0
      · rw [if_pos c, if_pos c]
      · rw [if_neg c, if_neg c, bt8_zero]
    · omega
  · intro e
    rcases ho with ⟨e', _⟩ | ⟨_, rfl, rfl, rfl, _⟩
    · exact absurd e' e
    · unfold putL
      cases big with
      | false => rfl
      | true =>
        rw [if_pos rfl]
        rcases hm with rfl | rfl | rfl
        · rfl
        · rfl
        · rfl
theorem put_len (big : Bool) (sz : Nat) (p : Bool) (n b o : Int) : (putL big sz p n b o).length = sz := by simp [putL]
/-- What Put tells. -/
def putV (big : Bool) (ptr kind : Int) (p : Bool) (n b o : Int) : List S51 × Int :=
  if (ptr = 2 ∨ ptr = 4) ∧ mayS kind p n b o = true then (putL big (sizev ptr kind).toNat p n b o, 0) else ([], 1)
theorem put_ev (big : Bool) (ptr kind : Int) (p : Bool) (n b o : Int) : Ev (fun k => bytes_Put.f k big ptr kind p n b o) (putV big ptr kind p n b o) := by
  unfold bytes_Put.f putV
  refine Ev.bindS (amay big ptr) ?_
  by_cases hp : ptr = 2 ∨ ptr = 4
  · refine Ev.pos (decide_eq_true hp) (Ev.bindS (may_s kind p n b o) ?_)
    by_cases h : mayS kind p n b o = true
    · rw [if_pos ⟨hp, h⟩]
      exact Ev.pos h (Ev.bind (spell_ev big ptr kind p n b o hp h) (Ev.now _))
    · rw [if_neg fun c => h c.2]
      exact Ev.neg h (Ev.now _)
  · rw [if_neg fun c => hp c.1]
    exact Ev.neg (by simpa using hp) (Ev.now _)
theorem rput_ev (big : Bool) (ptr kind : Int) (p : Bool) (n b o : Int) (hp : ptr = 2 ∨ ptr = 4) (h : mayS kind p n b o = true) :
    Ev (fun k => cellarref7_Put.f k big ptr kind p n b o) (putL big (sizev ptr kind).toNat p n b o) := by
  have hk : 1 ≤ kind ∧ kind ≤ 7 := by rcases put_of kind p n b o h with ⟨e, _⟩ | ⟨e, _⟩ <;> omega
  have hs := size_small ptr kind hp hk
  unfold cellarref7_Put.f
  refine Ev.bind (Ev.plus 2 fun k => rsize k big ptr kind hk) ?_
  generalize sizev ptr kind = sz at hs ⊢
  obtain ⟨m, rfl⟩ : ∃ m : Nat, sz = m := ⟨sz.toNat, by omega⟩
  rw [Int.toNat_natCast]
  refine Ev.pos (by omega) (Ev.pos (by omega) ?_)
  have key : ∀ g : Nat → S51, putL big m p n b o = (List.range m).map g → (∀ i : Nat, g i = if p = true then (if b > 0 then ⟨2, 0, b, o, (i : Int)⟩ else ⟨1, 0, 0, 0, 0⟩) else ⟨1, bt8 n (if big = true then Int.ofNat (m - 1 - i) else (i : Int)), 0, 0, 0⟩) →
      Ev (fun k => cellarref7_Put.l0 k m (List.replicate m z51) 0 big ptr p n b o) (putL big m p n b o) := by
    intro g hl hg
    suffices H : ∀ i : Int, 0 ≤ i → i ≤ m → Ev (fun k => cellarref7_Put.l0 k m (fillL g i.toNat m) i big ptr p n b o) (putL big m p n b o) by
      have := H 0 (by omega) (by omega)
      rwa [show (0 : Int).toNat = 0 from rfl, fill_none] at this
    refine down (Q := fun i => Ev (fun k => cellarref7_Put.l0 k m (fillL g i.toNat m) i big ptr p n b o) (putL big m p n b o)) ?_ ?_
    · refine Ev.step (fun k => by rw [cellarref7_Put.l0]) ?_
      refine Ev.neg (by omega) ?_
      rw [Int.toNat_natCast, fill_all, hl]
      exact Ev.now _
    intro i i0 i1 ih
    obtain ⟨j, rfl⟩ := Int.eq_ofNat_of_zero_le i0
    have hj : j < m := by omega
    rw [show ((j : Int) + 1).toNat = j + 1 by omega, ← fill_set g j m hj, hg j] at ih
    have hlen := fill_len g j m (by omega)
    rw [Int.toNat_natCast]
    have J : ∀ x : Int, 0 ≤ x → x < 4 → (p = false → x = if big = true then Int.ofNat (m - 1 - j) else (j : Int)) → Ev (fun k => cellarref7_Put.j1 k m (fillL g j m) j x big ptr p n b o) (putL big m p n b o) := by
      intro x x0 x1 hx
      refine Ev.step (fun k => by rw [cellarref7_Put.j1]) ?_
      refine Ev.pos (by rw [w64 (by omega) (by omega)]; omega) (Ev.pos i0 ?_)
      refine Ev.pos (by rw [hlen]; exact i1) (Ev.bindS rfl ?_)
      rw [Int.toNat_natCast, w64 (z := (j : Int) + 1) (by omega) (by omega)]
      cases p with
      | true =>
        refine Ev.pos rfl (Ev.bindS rfl ?_)
        rw [if_pos rfl] at ih
        by_cases c : b > 0
        · rw [if_pos c] at ih
          refine Ev.pos c ?_
          rw [List.set_set, List.set_set]
          exact ih
        · rw [if_neg c] at ih
          refine Ev.neg c ?_
          rw [List.set_set]
          exact ih
      | false =>
        refine Ev.neg (by decide) ?_
        rw [if_neg (by decide), ← hx rfl] at ih
        exact ih
    refine Ev.step (fun k => by rw [cellarref7_Put.l0]) ?_
    refine Ev.pos i1 ?_
    cases big with
    | true =>
      refine Ev.pos rfl ?_
      rw [w64 (z := (m : Int) - 1) (by omega) (by omega), w64 (by omega) (by omega)]
      refine J _ (by omega) (by omega) fun _ => ?_
      rw [if_pos rfl]
      show _ = ((m - 1 - j : Nat) : Int)
      omega
    | false =>
      refine Ev.neg (by decide) ?_
      exact J _ (by omega) (by omega) fun _ => by rw [if_neg (by decide)]
  exact key _ rfl fun i => rfl


/-! ### BytesPut -/
theorem wakes_ev : Ev (fun k => cellarlaw8_wakes.f k) true := by
  refine Ev.plus 12 fun k => ?_
  kernel_rfl
theorem machines (A : List S38) (hA : A.length ≤ 300) : ∃ ms, cellarlaw8_Machines.f A = some ms ∧ ms.length ≤ 6 := by
  unfold cellarlaw8_Machines.f
  rw [Option.bind_some, if_pos (by simp; omega), Option.bind_some]
  split
  · split
    · exact ⟨_, rfl, by rw [List.length_take]; omega⟩
    · omega
  · exact ⟨_, rfl, by omega⟩
theorem heavy (A : List S38) (S : List S33) (B : List S51) (hA : A.length ≤ 140737488351232) (hS : S.length ≤ 140737488351232) (hB : B.length ≤ 140737488351232) :
    cellarlaw8_Heavy.f A S B = some (decide (300 < A.length + S.length + B.length)) := by
  unfold cellarlaw8_Heavy.f
  congr 1
  rw [decide_eq_decide, w64 (z := (A.length : Int) + S.length) (by omega) (by omega), w64 (by omega) (by omega)]
  omega

theorem ref_b (x : S51) : cellarref7_Byte.f x.f0 x.f1 x.f2 x.f3 x.f4 = some (isB x) := by
  unfold cellarref7_Byte.f isB
  simp only [num_le, btw, Option.bind_some]
  by_cases h0 : x.f0 = 0
  · rw [if_pos h0]
    congr 1
    rw [Bool.eq_iff_iff]
    simp [h0]
  · rw [if_neg h0]
    by_cases h1 : x.f0 = 1
    · rw [if_pos h1]
      by_cases c : 0 ≤ x.f1 ∧ x.f1 ≤ 255
      · rw [if_pos (decide_eq_true c)]
        by_cases c2 : x.f2 = 0
        · rw [if_pos c2]
          by_cases c3 : x.f3 = 0
          · rw [if_pos c3]
            congr 1
            rw [Bool.eq_iff_iff]
            simp [h1, c, c2, c3]
          · rw [if_neg c3]
            congr 1
            symm
            rw [decide_eq_false_iff_not]
            omega
        · rw [if_neg c2]
          congr 1
          symm
          rw [decide_eq_false_iff_not]
          omega
      · rw [if_neg (by simpa using c)]
        congr 1
        symm
        rw [decide_eq_false_iff_not]
        omega
    · rw [if_neg h1]
      by_cases h2 : x.f0 = 2
      · rw [if_pos h2]
        by_cases c1 : x.f1 = 0
        · rw [if_pos c1]
          by_cases c2 : 1 ≤ x.f2 ∧ x.f2 ≤ 32
          · rw [if_pos (decide_eq_true c2)]
            by_cases c4 : 0 ≤ x.f3 ∧ x.f3 ≤ 32
            · rw [if_pos (decide_eq_true c4)]
              congr 1
              rw [decide_eq_decide]
              omega
            · rw [if_neg (by simpa using c4)]
              congr 1
              symm
              rw [decide_eq_false_iff_not]
              omega
          · rw [if_neg (by simpa using c2)]
            congr 1
            symm
            rw [decide_eq_false_iff_not]
            omega
        · rw [if_neg c1]
          congr 1
          symm
          rw [decide_eq_false_iff_not]
          omega
      · rw [if_neg h2]
        congr 1
        symm
        rw [decide_eq_false_iff_not]
        omega

theorem ref_s (k : Nat) (kind : Int) (p : Bool) (n b o : Int) : cellarref7_Scalar.f (k + 2) kind p n b o = some (mayS kind p n b o) := by
  unfold cellarref7_Scalar.f mayS
  simp only [num_le, Option.bind_some]
  by_cases h7 : kind = 7
  · rw [if_pos h7, if_pos h7]
    cases p with
    | true =>
      rw [if_pos rfl]
      by_cases c1 : n = 0
      · rw [if_pos c1]
        by_cases c2 : 0 ≤ b ∧ b ≤ 32
        · rw [if_pos (decide_eq_true c2)]
          by_cases c3 : 0 ≤ o ∧ o ≤ 32
          · rw [if_pos (decide_eq_true c3)]
            by_cases c4 : b > 0
            · rw [if_pos c4]
              congr 1
              symm
              rw [decide_eq_true_iff]
              exact ⟨rfl, c1, c2, c3, .inl c4⟩
            · rw [if_neg c4]
              congr 1
              rw [Bool.eq_iff_iff]
              simp [c1, c2, c3]
              omega
          · rw [if_neg (by simpa using c3)]
            congr 1
            symm
            rw [decide_eq_false_iff_not]
            omega
        · rw [if_neg (by simpa using c2)]
          congr 1
          symm
          rw [decide_eq_false_iff_not]
          omega
      · rw [if_neg c1]
        congr 1
        symm
        rw [decide_eq_false_iff_not]
        omega
    | false => simp
  · rw [if_neg h7, if_neg h7]
    by_cases hk : 1 ≤ kind ∧ kind ≤ 6
    · obtain ⟨w, hh, P, s, K⟩ := kd_of kind hk.1 hk.2
      have w1 := K.w1
      rw [K.wd, K.of, Option.bind_some, if_pos (by omega)]
      cases p with
      | true => simp
      | false =>
        rw [if_neg (by decide), Option.bind_some, K.number]
        simp only [Option.getD_some, K.s1]
        by_cases d : b = 0
        · rw [if_pos d]
          by_cases e : o = 0
          · rw [if_pos e, Option.bind_some]
            congr 1
            rw [decide_eq_decide]
            constructor
            · intro c
              exact ⟨hk, trivial, c, d, e⟩
            · intro c
              exact c.2.2.1
          · rw [if_neg e]
            congr 1
            symm
            rw [decide_eq_false_iff_not]
            omega
        · rw [if_neg d]
          congr 1
          symm
          rw [decide_eq_false_iff_not]
          omega
    · rw [no_kind kind (by omega), Option.bind_some, if_neg (by decide)]
      congr 1
      symm
      rw [decide_eq_false_iff_not]
      omega

/-! ### What is written over -/
theorem over_ev (l : List S51) (hl : l.length ≤ 1000000) : ∃ r, Ev (fun k => cellarlaw0_Bytes.f k l) r := by
  have key : ∀ i : Int, 0 ≤ i → i ≤ l.length → ∀ x : List S51, x.length = l.length → ∃ r, Ev (fun k => cellarlaw0_Bytes.l0 k x i) r := by
    refine down (Q := fun i => ∀ x : List S51, x.length = l.length → ∃ r, Ev (fun k => cellarlaw0_Bytes.l0 k x i) r) ?_ ?_
    · intro x hx
      refine ⟨x, ?_⟩
      refine Ev.step (fun k => by rw [cellarlaw0_Bytes.l0]) ?_
      exact Ev.neg (by omega) (Ev.now _)
    intro i i0 i1 ih x hx
    obtain ⟨r, hr⟩ := ih (x.set i.toNat (⟨(-9), 0, 0, 0, 0⟩ : S51)) (by simpa using hx)
    refine ⟨r, ?_⟩
    refine Ev.step (fun k => by rw [cellarlaw0_Bytes.l0]) ?_
    refine Ev.pos (by omega) (Ev.pos i0 ?_)
    rw [w64 (z := i + 1) (by omega) (by omega)]
    exact hr
  exact key 0 (by omega) (by omega) l rfl
theorem check_b (x : S51) : bytes_Byte.f x.f0 x.f1 x.f2 x.f3 x.f4 = some (if isB x = true then 0 else 1) := by
  unfold bytes_Byte.f
  rw [is_b, Option.bind_some]
  split <;> rfl
theorem check_s (kind : Int) (p : Bool) (n b o : Int) : bytes_Check.f kind p n b o = some (if mayS kind p n b o = true then 0 else 1) := by
  unfold bytes_Check.f
  rw [may_s, Option.bind_some]
  split <;> rfl
theorem same_01 (c : Bool) : ¬ (((if c = true then (0 : Int) else 1) == 0) != c) = true := by cases c <;> decide

section
variable (ms : List S38) (ss : List S33) (A : List S38) (S : List S33) (B : List S51)
theorem put_l3 (hB : B.length ≤ 300) : ∀ i : Int, 0 ≤ i → i ≤ B.length → Ev (fun k => cellarlaw8_BytesPut.l3 k i A S B) true := by
  have fin : ∀ i, Ev (fun k => cellarlaw8_BytesPut.j7 k i false A S B) true := by
    intro i
    refine Ev.step (fun k => by rw [cellarlaw8_BytesPut.j7]) ?_
    exact Ev.neg (by decide) (Ev.bind wakes_ev (Ev.now _))
  refine down (Q := fun i => Ev (fun k => cellarlaw8_BytesPut.l3 k i A S B) true) ?_ ?_
  · refine Ev.step (fun k => by rw [cellarlaw8_BytesPut.l3]) ?_
    exact Ev.neg (by omega) (fin _)
  intro i i0 i1 ih
  refine Ev.step (fun k => by rw [cellarlaw8_BytesPut.l3]) ?_
  refine Ev.pos i1 ?_
  by_cases c : i < 20
  · rw [decide_eq_true c]
    refine Ev.step (fun k => by rw [cellarlaw8_BytesPut.j7]) ?_
    refine Ev.pos rfl (Ev.pos i0 (Ev.pos i1 ?_))
    refine Ev.bindS (check_b _) (Ev.bindS rfl (Ev.bindS (ref_b _) ?_))
    refine Ev.neg (same_01 _) ?_
    rw [w64 (z := i + 1) (by omega) (by omega)]
    exact ih
  · rw [decide_eq_false c]
    exact fin _
theorem put_l2 (hms : ms.length ≤ 6) (i kind : Int) (i0 : 0 ≤ i) (i1 : i < ss.length) (k0 : -1 ≤ kind) (k1 : kind ≤ 11) (nx : Ev (fun k => cellarlaw8_BytesPut.l1 k ms ss i (kind + 1) A S B) true) :
    ∀ q : Int, 0 ≤ q → q ≤ ms.length → Ev (fun k => cellarlaw8_BytesPut.l2 k ms ss i kind q A S B) true := by
  refine down (Q := fun q => Ev (fun k => cellarlaw8_BytesPut.l2 k ms ss i kind q A S B) true) ?_ ?_
  · refine Ev.step (fun k => by rw [cellarlaw8_BytesPut.l2]) ?_
    refine Ev.neg (by omega) ?_
    rw [w64 (z := kind + 1) (by omega) (by omega)]
    exact nx
  intro q q0 q1 ih
  have J : ∀ (l : List S51) (e : Int), l.length ≤ 1000000 → Ev (fun k => cellarlaw8_BytesPut.j5 k ms ss i kind q l e e l A S B) true := by
    intro l e hl
    refine Ev.step (fun k => by rw [cellarlaw8_BytesPut.j5]) ?_
    refine Ev.bindS rfl (Ev.pos rfl (Ev.bind ((eq_ev l l hl).1 rfl) (Ev.pos rfl ?_)))
    obtain ⟨r, hr⟩ := over_ev l hl
    refine Ev.bind hr ?_
    rw [w64 (z := q + 1) (by omega) (by omega)]
    exact ih
  refine Ev.step (fun k => by rw [cellarlaw8_BytesPut.l2]) ?_
  refine Ev.pos q1 (Ev.pos q0 (Ev.pos i0 (Ev.pos i1 ?_)))
  generalize ha : rd_T38 ms q = a
  generalize hs : rd_T33 ss i = s
  have P := put_ev a.f0 a.f1 kind s.f0 s.f1 s.f2 s.f3
  by_cases hp : a.f1 = 2 ∨ a.f1 = 4
  · by_cases h : mayS kind s.f0 s.f1 s.f2 s.f3 = true
    · rw [putV, if_pos ⟨hp, h⟩] at P
      refine Ev.bind P (Ev.bindS (rabi _ _) ?_)
      refine Ev.pos (decide_eq_true hp) (Ev.bind (Ev.plus 2 fun k => ref_s k kind s.f0 s.f1 s.f2 s.f3) ?_)
      rw [h]
      have R := rput_ev a.f0 a.f1 kind s.f0 s.f1 s.f2 s.f3 hp h
      refine Ev.step (fun k => by rw [cellarlaw8_BytesPut.j4]) ?_
      refine Ev.pos rfl (Ev.pos q0 (Ev.pos q1 (Ev.pos i0 (Ev.pos i1 ?_))))
      rw [hs, ha]
      exact Ev.bind R (J _ 0 (by rw [put_len]; have := size_small a.f1 kind hp (by rcases put_of kind _ _ _ _ h with ⟨e, _⟩ | ⟨e, _⟩ <;> omega); omega))
    · rw [putV, if_neg fun c => h c.2] at P
      refine Ev.bind P (Ev.bindS (rabi _ _) ?_)
      refine Ev.pos (decide_eq_true hp) (Ev.bind (Ev.plus 2 fun k => ref_s k kind s.f0 s.f1 s.f2 s.f3) ?_)
      rw [Bool.eq_false_iff.mpr h]
      refine Ev.step (fun k => by rw [cellarlaw8_BytesPut.j4]) ?_
      exact Ev.neg (by decide) (J [] 1 (by simp))
  · rw [putV, if_neg fun c => hp c.1] at P
    refine Ev.bind P (Ev.bindS (rabi _ _) ?_)
    refine Ev.neg (by simpa using hp) ?_
    refine Ev.step (fun k => by rw [cellarlaw8_BytesPut.j4]) ?_
    exact Ev.neg (by decide) (J [] 1 (by simp))
theorem put_l1 (hms : ms.length ≤ 6) (hss : ss.length ≤ 400) (i : Int) (i0 : 0 ≤ i) (i1 : i < ss.length) (nx : Ev (fun k => cellarlaw8_BytesPut.l0 k ms ss (i + 1) A S B) true) :
    ∀ kind : Int, -1 ≤ kind → kind ≤ 12 → Ev (fun k => cellarlaw8_BytesPut.l1 k ms ss i kind A S B) true := by
  refine down (Q := fun kind => Ev (fun k => cellarlaw8_BytesPut.l1 k ms ss i kind A S B) true) ?_ ?_
  · refine Ev.step (fun k => by rw [cellarlaw8_BytesPut.l1]) ?_
    refine Ev.neg (by omega) ?_
    rw [w64 (z := i + 1) (by omega) (by omega)]
    exact nx
  intro kind k0 k1 ih
  refine Ev.step (fun k => by rw [cellarlaw8_BytesPut.l1]) ?_
  refine Ev.pos (by omega) (Ev.pos i0 (Ev.pos i1 ?_))
  refine Ev.bindS (check_s _ _ _ _ _) (Ev.bindS rfl (Ev.bind (Ev.plus 2 fun k => ref_s k _ _ _ _ _) ?_))
  refine Ev.neg (same_01 _) ?_
  exact put_l2 ms ss A S B hms i kind i0 i1 k0 (by omega) ih 0 (by omega) (by omega)
theorem put_l0 (hms : ms.length ≤ 6) (hss : ss.length ≤ 400) (hB : B.length ≤ 300) : ∀ i : Int, 0 ≤ i → i ≤ ss.length → Ev (fun k => cellarlaw8_BytesPut.l0 k ms ss i A S B) true := by
  have fin : ∀ i, Ev (fun k => cellarlaw8_BytesPut.j1 k ms ss i false A S B) true := by
    intro i
    refine Ev.step (fun k => by rw [cellarlaw8_BytesPut.j1]) ?_
    exact Ev.neg (by decide) (put_l3 A S B hB 0 (by omega) (by omega))
  refine down (Q := fun i => Ev (fun k => cellarlaw8_BytesPut.l0 k ms ss i A S B) true) ?_ ?_
  · refine Ev.step (fun k => by rw [cellarlaw8_BytesPut.l0]) ?_
    exact Ev.neg (by omega) (fin _)
  intro i i0 i1 ih
  refine Ev.step (fun k => by rw [cellarlaw8_BytesPut.l0]) ?_
  refine Ev.pos i1 ?_
  by_cases c : i < 16
  · rw [decide_eq_true c]
    refine Ev.step (fun k => by rw [cellarlaw8_BytesPut.j1]) ?_
    exact Ev.pos rfl (put_l1 ms ss A S B hms hss i i0 i1 ih (-1) (by omega) (by omega))
  · rw [decide_eq_false c]
    exact fin _
end
theorem put_true (A : List S38) (S : List S33) (B : List S51) (hA : A.length ≤ 140737488351232) (hS : S.length ≤ 140737488351232) (hB : B.length ≤ 140737488351232) :
    Ev (fun k => cellarlaw8_BytesPut.f k A S B) true := by
  unfold cellarlaw8_BytesPut.f
  refine Ev.bindS (heavy A S B hA hS hB) ?_
  by_cases c : 300 < A.length + S.length + B.length
  · exact Ev.pos (decide_eq_true c) (Ev.now _)
  · refine Ev.neg (by simpa using c) ?_
    obtain ⟨ms, ha, hms⟩ := machines A (by omega)
    refine Ev.bindS ha (Ev.bindS rfl (Ev.pos (by simp; omega) ?_))
    exact put_l0 ms _ A S B hms (by simp; omega) (by omega) 0 (by omega) (by omega)
end Go.Proofs.Ythhdmanpjeminaa.C

