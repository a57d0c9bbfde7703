/- What the program's memory tells of any bytes and of any load, is what the reference tells. No Go and no memory in it. -/
import Derived.Test.YtjoplkillkhiaaaDx16
import Derived.Test.YtjoplkillkhiaaaFn
import Derived.Test.YtjoplkillkhiaaaVMore
import Derived.Test.YtjoplkillkhiaaaArgD
import Derived.Test.YtjoplkillkhiaaaEvs
namespace Go.Proofs.Ytjoplkillkhiaaa.D
open Go.RowKit Go.Proofs.Ytjoplkillkhiaaa.Fn Go.Proofs.YtjoplkillkhiaaaW.PrintWords Go.Proofs.YtjoplkillkhiaaaW.PrintLast Go.Proofs.YtjoplkillkhiaaaW.PrintMore Go.Proofs.Ytjoplkillkhiaaa.Evs
set_option linter.unusedVariables false
set_option linter.unusedSimpArgs false
theorem mask_nat (n : Int) (j : Nat) : ((BitVec.ofInt 64 n).toNat &&& (2 ^ j - 1) : Nat) = (n % 18446744073709551616).toNat % 2 ^ j := by
  rw [Nat.and_two_pow_sub_one_eq_mod, BitVec.toNat_ofInt]
  rfl
theorem mask_i64 (n : Int) (j : Nat) (m : Nat) (hm : m = 2 ^ j - 1) (hj : j ≤ 32) : Go.bits .and .i64 n (m : Int) = (((n % 18446744073709551616).toNat % 2 ^ j : Nat) : Int) := by
  have hp : 2 ^ j ≤ 2 ^ 32 := Nat.pow_le_pow_right (by decide) hj
  have h0 : 0 < 2 ^ j := Nat.two_pow_pos j
  have h1 : (n % 18446744073709551616).toNat % 2 ^ j < 2 ^ 32 := Nat.lt_of_lt_of_le (Nat.mod_lt _ h0) hp
  have e : (BitVec.ofInt 64 (m : Int)).toNat = m := by
    rw [BitVec.ofInt_natCast, BitVec.toNat_ofNat]
    exact Nat.mod_eq_of_lt (by omega)
  show IntKind.i64.wrap ((BitVec.ofInt 64 n &&& BitVec.ofInt 64 (m : Int)).toNat : Int) = _
  rw [BitVec.toNat_and, e, hm, mask_nat, IntKind.wrap_i64]
  omega
theorem mask8 (n : Int) : Go.bits .and .i64 n 255 = n % 256 := by
  have h := mask_i64 n 8 255 (by decide) (by decide)
  have e : ((255 : Nat) : Int) = 255 := rfl
  rw [e] at h
  rw [h]
  omega
theorem mask16 (n : Int) : Go.bits .and .i64 n 65535 = n % 65536 := by
  have h := mask_i64 n 16 65535 (by decide) (by decide)
  have e : ((65535 : Nat) : Int) = 65535 := rfl
  rw [e] at h
  rw [h]
  omega
theorem mask32 (n : Int) : Go.bits .and .i64 n 4294967295 = n % 4294967296 := by
  have h := mask_i64 n 32 4294967295 (by decide) (by decide)
  have e : ((4294967295 : Nat) : Int) = 4294967295 := rfl
  rw [e] at h
  rw [h]
  omega
/-- What is known of a kind of numbers: its width w, half of its numbers h, all of them P, its bytes b. -/
structure KD (kind w h P b : Int) : Prop where
  of : word_Of.f kind = some w
  wd : ∀ k, cellarref1_Width.f (k + 2) kind = some w
  isk : word_IsKind.f kind = some true
  w1 : 8 ≤ w
  w2 : w ≤ 32
  s1 : shl .i64 1 w = P
  s2 : shl .i64 1 (w - 1) = h
  PP : P = 2 * h
  h1 : 128 ≤ h
  h2 : h ≤ 2147483648
  msk : ∀ n, Go.bits .and .i64 n (P - 1) = n % P
  wb : wrap64 (Int.tdiv w 8) = b
  bb : (b = 1 ∧ P = 256) ∨ (b = 2 ∧ P = 65536) ∨ (b = 4 ∧ P = 4294967296)
  k7 : 1 ≤ kind ∧ kind ≤ 6
theorem kd_of (kind : Int) (h0 : 1 ≤ kind) (h1 : kind ≤ 6) : ∃ w h P b, KD kind w h P b := by
  have : kind = 1 ∨ kind = 2 ∨ kind = 3 ∨ kind = 4 ∨ kind = 5 ∨ kind = 6 := by omega
  rcases this with rfl | rfl | rfl | rfl | rfl | rfl
  · exact ⟨8, 128, 256, 1, by decide +kernel, fun k => rfl, by decide +kernel, by decide, by decide, by decide +kernel, by decide +kernel, by decide, by decide, by decide, mask8, by decide +kernel, .inl ⟨rfl, rfl⟩, by decide⟩
  · exact ⟨8, 128, 256, 1, by decide +kernel, fun k => rfl, by decide +kernel, by decide, by decide, by decide +kernel, by decide +kernel, by decide, by decide, by decide, mask8, by decide +kernel, .inl ⟨rfl, rfl⟩, by decide⟩
  · exact ⟨16, 32768, 65536, 2, by decide +kernel, fun k => rfl, by decide +kernel, by decide, by decide, by decide +kernel, by decide +kernel, by decide, by decide, by decide, mask16, by decide +kernel, .inr (.inl ⟨rfl, rfl⟩), by decide⟩
  · exact ⟨16, 32768, 65536, 2, by decide +kernel, fun k => rfl, by decide +kernel, by decide, by decide, by decide +kernel, by decide +kernel, by decide, by decide, by decide, mask16, by decide +kernel, .inr (.inl ⟨rfl, rfl⟩), by decide⟩
  · exact ⟨32, 2147483648, 4294967296, 4, by decide +kernel, fun k => rfl, by decide +kernel, by decide, by decide, by decide +kernel, by decide +kernel, by decide, by decide, by decide, mask32, by decide +kernel, .inr (.inr ⟨rfl, rfl⟩), by decide⟩
  · exact ⟨32, 2147483648, 4294967296, 4, by decide +kernel, fun k => rfl, by decide +kernel, by decide, by decide, by decide +kernel, by decide +kernel, by decide, by decide, by decide, mask32, by decide +kernel, .inr (.inr ⟨rfl, rfl⟩), by decide⟩
theorem no_kind (kind : Int) (h : kind < 1 ∨ 6 < kind) (k : Nat) : cellarref1_Width.f (k + 2) kind = some 0 := by
  unfold cellarref1_Width.f
  rw [if_neg (by omega)]
  simp only [cellarref1_Width.j0]
  rw [if_neg (by simp; omega), if_neg (by omega)]
  simp only [cellarref1_Width.j1]
  rw [if_neg (by simp; omega), if_neg (by omega), if_neg (by omega)]
theorem no_isk (kind : Int) (h : kind < 1 ∨ 6 < kind) : word_IsKind.f kind = some false := by
  unfold word_IsKind.f
  by_cases h1 : kind ≥ 1
  · rw [if_pos h1]
    simp
    omega
  · rw [if_neg h1]
section
variable {kind w h P b : Int} (K : KD kind w h P b)
include K
theorem KD.pm : wrap64 (P - 1) = P - 1 := by have := K.PP; have := K.h1; have := K.h2; exact w64 (by omega) (by omega)
theorem KD.w0 : 0 ≤ w := by have := K.w1; omega
theorem KD.most : word_Most.f w = some (P - 1) := by
  unfold word_Most.f
  rw [if_pos K.w0, K.s1, K.pm]
theorem KD.is (n : Int) : word_Is.f n w = some (decide (0 ≤ n ∧ n < P)) := by
  unfold word_Is.f
  by_cases hn : n ≥ 0
  · rw [if_pos hn, K.most, Option.bind_some]
    congr 1
    rw [decide_eq_decide]
    omega
  · rw [if_neg hn]
    congr 1
    symm
    rw [decide_eq_false_iff_not]
    omega
theorem KD.number (n : Int) : cellarref1_Number.f n w = some (decide (0 ≤ n ∧ n < P)) := by
  unfold cellarref1_Number.f cellarref0_Num.f
  rw [if_pos K.w0, K.s1, K.pm]
  by_cases hn : n ≥ 0
  · rw [if_pos hn, Option.bind_some]
    congr 1
    rw [decide_eq_decide]
    omega
  · rw [if_neg hn, Option.bind_some]
    congr 1
    symm
    rw [decide_eq_false_iff_not]
    omega
end
theorem amay (b : Bool) (p : Int) : word_May.f b p = some (decide (p = 2 ∨ p = 4)) := by
  unfold word_May.f
  by_cases c : p = 2
  · simp [c]
  · by_cases d : p = 4
    · simp [d]
    · simp [c, d]
theorem rabi (b : Bool) (p : Int) : cellarref1_Abi.f b p = some (decide (p = 2 ∨ p = 4)) := amay b p
theorem num_le (n m : Int) : cellarref0_Num.f n m = some (decide (0 ≤ n ∧ n ≤ m)) := by
  unfold cellarref0_Num.f
  by_cases c : n ≥ 0
  · rw [if_pos c]
    congr 1
    rw [decide_eq_decide]
    omega
  · rw [if_neg c]
    congr 1
    symm
    rw [decide_eq_false_iff_not]
    omega
theorem up_le (n m : Int) : bytes_up.f n m = some (decide (0 ≤ n ∧ n ≤ m)) := num_le n m
theorem btw (n a m : Int) : cellarref0_Between.f n a m = some (decide (a ≤ n ∧ n ≤ m)) := by
  unfold cellarref0_Between.f
  by_cases c : n ≥ a
  · rw [if_pos c]
    congr 1
    rw [decide_eq_decide]
    omega
  · rw [if_neg c]
    congr 1
    symm
    rw [decide_eq_false_iff_not]
    omega
theorem ascalar (kind : Int) : word_IsScalar.f kind = some (decide (1 ≤ kind ∧ kind ≤ 7)) := btw kind 1 7
/-- How many bytes a scalar has. -/
def sizev (p kind : Int) : Int := if kind = 7 then p else wrap64 (Int.tdiv ((word_Of.f kind).getD 0) 8)
theorem rsize (k : Nat) (b : Bool) (p kind : Int) (h : 1 ≤ kind ∧ kind ≤ 7) : cellarref1_Size.f (k + 2) b p kind = some (sizev p kind) := by
  unfold cellarref1_Size.f sizev
  by_cases c : kind = 7
  · rw [if_pos c, if_pos c]
  · obtain ⟨w, hh, P, s, K⟩ := kd_of kind (by omega) (by omega)
    rw [if_neg c, if_neg c, K.wd, K.of]
    rfl
theorem abytes (b : Bool) (p kind : Int) (h : 1 ≤ kind ∧ kind ≤ 7) : word_Bytes.f b p kind = some (sizev p kind) := by
  unfold word_Bytes.f sizev
  by_cases e : kind = 7
  · rw [if_pos e, if_pos e]
  · obtain ⟨w, hh, P, s, K⟩ := kd_of kind (by omega) (by omega)
    rw [if_neg e, if_neg e, K.of]
    rfl
theorem size_small (p kind : Int) (hp : p = 2 ∨ p = 4) (h : 1 ≤ kind ∧ kind ≤ 7) : sizev p kind = 1 ∨ sizev p kind = 2 ∨ sizev p kind = 4 := by
  unfold sizev
  by_cases e : kind = 7
  · rw [if_pos e]
    omega
  · obtain ⟨w, hh, P, s, K⟩ := kd_of kind (by omega) (by omega)
    rw [if_neg e, K.of]
    show wrap64 (Int.tdiv w 8) = 1 ∨ wrap64 (Int.tdiv w 8) = 2 ∨ wrap64 (Int.tdiv w 8) = 4
    rw [K.wb]
    rcases K.bb with ⟨h, _⟩ | ⟨h, _⟩ | ⟨h, _⟩ <;> simp [h]
def isB (x : S74) : Bool := decide ((x.f0 = 0 ∧ x.f1 = 0 ∧ x.f2 = 0 ∧ x.f3 = 0 ∧ x.f4 = 0) ∨ (x.f0 = 1 ∧ (0 ≤ x.f1 ∧ x.f1 ≤ 255) ∧ x.f2 = 0 ∧ x.f3 = 0 ∧ x.f4 = 0) ∨ (x.f0 = 2 ∧ x.f1 = 0 ∧ (1 ≤ x.f2 ∧ x.f2 ≤ 32) ∧ (0 ≤ x.f3 ∧ x.f3 ≤ 32) ∧ 0 ≤ x.f4 ∧ x.f4 ≤ 3))
theorem is_b (x : S74) : bytes_Is.f x.f0 x.f1 x.f2 x.f3 x.f4 = some (isB x) := by
  unfold bytes_Is.f isB
  simp only [up_le, Option.bind_some]
  by_cases h0 : x.f0 = 0
  · rw [if_pos h0]
    congr 1
    rw [Bool.eq_iff_iff]
    simp [h0]
  · rw [if_neg h0]
    by_cases h1 : x.f0 = 1
    · rw [if_pos h1]
      by_cases c : 0 ≤ x.f1 ∧ x.f1 ≤ 255
      · rw [if_pos (decide_eq_true c)]
        congr 1
        rw [Bool.eq_iff_iff]
        simp [h1, c]
      · rw [if_neg (by simpa using c)]
        congr 1
        symm
        rw [decide_eq_false_iff_not]
        omega
    · rw [if_neg h1]
      by_cases h2 : x.f0 = 2
      · rw [if_pos h2]
        by_cases c1 : x.f1 = 0
        · rw [if_pos c1]
          by_cases c2 : x.f2 ≥ 1
          · rw [if_pos c2]
            by_cases c3 : x.f2 ≤ 32
            · rw [if_pos c3]
              by_cases c4 : 0 ≤ x.f3 ∧ x.f3 ≤ 32
              · rw [if_pos (decide_eq_true c4)]
                congr 1
                rw [decide_eq_decide]
                omega
              · rw [if_neg (by simpa using c4)]
                congr 1
                symm
                rw [decide_eq_false_iff_not]
                omega
            · rw [if_neg c3]
              congr 1
              symm
              rw [decide_eq_false_iff_not]
              omega
          · rw [if_neg c2]
            congr 1
            symm
            rw [decide_eq_false_iff_not]
            omega
        · rw [if_neg c1]
          congr 1
          symm
          rw [decide_eq_false_iff_not]
          omega
      · rw [if_neg h2]
        congr 1
        symm
        rw [decide_eq_false_iff_not]
        omega
def mayS (kind : Int) (p : Bool) (n b o : Int) : Bool :=
  if kind = 7 then decide (p = true ∧ n = 0 ∧ (0 ≤ b ∧ b ≤ 32) ∧ (0 ≤ o ∧ o ≤ 32) ∧ (0 < b ∨ o = 0))
  else decide ((1 ≤ kind ∧ kind ≤ 6) ∧ p = false ∧ (0 ≤ n ∧ n < shl .i64 1 ((word_Of.f kind).getD 0)) ∧ b = 0 ∧ o = 0)
theorem may_s (kind : Int) (p : Bool) (n b o : Int) : bytes_May.f kind p n b o = some (mayS kind p n b o) := by
  unfold bytes_May.f mayS
  by_cases hk : 1 ≤ kind ∧ kind ≤ 6
  · obtain ⟨w, hh, P, s, K⟩ := kd_of kind hk.1 hk.2
    rw [K.isk, Option.bind_some, if_pos rfl, if_neg (show ¬ kind = 7 by omega), K.of]
    cases p with
    | true => simp
    | false =>
      rw [if_neg (by decide), Option.bind_some, K.is, Option.bind_some]
      simp only [Option.getD_some, K.s1]
      by_cases c : 0 ≤ n ∧ n < P
      · rw [if_pos (decide_eq_true c)]
        by_cases d : b = 0
        · rw [if_pos d]
          congr 1
          rw [Bool.eq_iff_iff]
          simp [hk, c, d]
        · rw [if_neg d]
          congr 1
          symm
          rw [decide_eq_false_iff_not]
          omega
      · rw [if_neg (by simpa using c)]
        congr 1
        symm
        rw [decide_eq_false_iff_not]
        omega
  · rw [no_isk kind (by omega), Option.bind_some, if_neg (by decide)]
    simp only [up_le, Option.bind_some]
    by_cases h7 : kind = 7
    · rw [if_pos h7, if_pos h7]
      cases p with
      | true =>
        rw [if_pos rfl]
        by_cases c1 : n = 0
        · rw [if_pos c1]
          by_cases c2 : 0 ≤ b ∧ b ≤ 32
          · rw [if_pos (decide_eq_true c2)]
            by_cases c3 : 0 ≤ o ∧ o ≤ 32
            · rw [if_pos (decide_eq_true c3)]
              by_cases c4 : b > 0
              · rw [if_pos c4]
                congr 1
                symm
                rw [decide_eq_true_iff]
                exact ⟨rfl, c1, c2, c3, .inl c4⟩
              · rw [if_neg c4]
                congr 1
                rw [Bool.eq_iff_iff]
                simp [c1, c2, c3]
                omega
            · rw [if_neg (by simpa using c3)]
              congr 1
              symm
              rw [decide_eq_false_iff_not]
              omega
          · rw [if_neg (by simpa using c2)]
            congr 1
            symm
            rw [decide_eq_false_iff_not]
            omega
        · rw [if_neg c1]
          congr 1
          symm
          rw [decide_eq_false_iff_not]
          omega
      | false => simp
    · rw [if_neg h7, if_neg h7]
      congr 1
      symm
      rw [decide_eq_false_iff_not]
      omega
theorem set_mid {α : Type} (A B : List α) (z v : α) (i : Nat) (h : A.length = i) : (A ++ z :: B).set i v = A ++ v :: B := by
  subst h
  rw [List.set_append_right _ _ (Nat.le_refl _), Nat.sub_self]
  rfl
/-- The first i of n are told by g, the others are nothing yet. -/
def fillL (g : Nat → S74) (i n : Nat) : List S74 := (List.range i).map g ++ List.replicate (n - i) z74
theorem fill_len (g : Nat → S74) (i n : Nat) (h : i ≤ n) : (fillL g i n).length = n := by simp [fillL]; omega
theorem fill_set (g : Nat → S74) (i n : Nat) (h : i < n) : (fillL g i n).set i (g i) = fillL g (i + 1) n := by
  unfold fillL
  rw [show n - i = (n - (i + 1)) + 1 by omega, List.replicate_succ, set_mid _ _ _ _ _ (by simp), List.range_succ, List.map_append, List.append_assoc]
  rfl
theorem fill_all (g : Nat → S74) (n : Nat) : fillL g n n = (List.range n).map g := by simp [fillL]
theorem fill_none (g : Nat → S74) (n : Nat) : fillL g 0 n = List.replicate n z74 := by simp [fillL]
theorem rd_get (l : List S74) (i : Nat) (h : i < l.length) : rd_T74 l (i : Int) = l[i] := by
  unfold rd_T74
  simp [List.getD_eq_getElem?_getD, List.getElem?_eq_getElem h]
theorem ne_b (x : S74) (a b c d e : Int) : (!(x.f0 == a) || (!(x.f1 == b) || (!(x.f2 == c) || (!(x.f3 == d) || (!(x.f4 == e)))))) = true ↔ ¬ x = ⟨a, b, c, d, e⟩ := by
  obtain ⟨x0, x1, x2, x3, x4⟩ := x
  simp only [S74.mk.injEq, Bool.or_eq_true, Bool.not_eq_true', beq_eq_false_iff_ne, ne_eq]
  constructor
  · rintro h ⟨h0, h1, h2, h3, h4⟩
    rcases h with h | h | h | h | h
    · exact h h0
    · exact h h1
    · exact h h2
    · exact h h3
    · exact h h4
  · intro h
    by_cases h0 : x0 = a
    · by_cases h1 : x1 = b
      · by_cases h2 : x2 = c
        · by_cases h3 : x3 = d
          · exact .inr (.inr (.inr (.inr fun h4 => h ⟨h0, h1, h2, h3, h4⟩)))
          · exact .inr (.inr (.inr (.inl h3)))
        · exact .inr (.inr (.inl h2))
      · exact .inr (.inl h1)
    · exact .inl h0
theorem eq_ev (l m : List S74) (hl : l.length ≤ 1000000) : (l = m → Ev (fun k => cellarref0_EqBytes.f k l m) true) ∧ (¬ l = m → Ev (fun k => cellarref0_EqBytes.f k l m) false) := by
  unfold cellarref0_EqBytes.f
  by_cases hlen : l.length = m.length
  · have key : ∀ i : Int, 0 ≤ i → i ≤ l.length → (l.drop i.toNat = m.drop i.toNat → Ev (fun k => cellarref0_EqBytes.l0 k l m i) true) ∧ (¬ l.drop i.toNat = m.drop i.toNat → Ev (fun k => cellarref0_EqBytes.l0 k l m i) false) := by
      refine down (Q := fun i => (l.drop i.toNat = m.drop i.toNat → Ev (fun k => cellarref0_EqBytes.l0 k l m i) true) ∧ (¬ l.drop i.toNat = m.drop i.toNat → Ev (fun k => cellarref0_EqBytes.l0 k l m i) false)) ?_ ?_
      · refine ⟨fun _ => ?_, fun h => absurd ?_ h⟩
        · refine Ev.step (fun k => by rw [cellarref0_EqBytes.l0]) ?_
          exact Ev.neg (by omega) (Ev.now _)
        · rw [Int.toNat_natCast, List.drop_length, hlen, List.drop_length]
      intro i i0 i1 ih
      obtain ⟨n, rfl⟩ := Int.eq_ofNat_of_zero_le i0
      have hn : n < l.length := by omega
      have hm : n < m.length := by omega
      rw [show ((n : Int) + 1).toNat = n + 1 by omega] at ih
      rw [Int.toNat_natCast, List.drop_eq_getElem_cons hn, List.drop_eq_getElem_cons hm]
      have step : ∀ r, (l[n] = m[n] → Ev (fun k => cellarref0_EqBytes.l0 k l m ((n : Int) + 1)) r) → (¬ l[n] = m[n] → r = false) → Ev (fun k => cellarref0_EqBytes.l0 k l m (n : Int)) r := by
        intro r h1 h2
        refine Ev.step (fun k => by rw [cellarref0_EqBytes.l0]) ?_
        refine Ev.pos i1 (Ev.pos i0 ?_)
        refine Ev.pos (by omega) ?_
        rw [rd_get l n hn, rd_get m n hm]
        by_cases e : l[n] = m[n]
        · refine Ev.neg (fun h => (ne_b _ _ _ _ _ _).1 h e) ?_
          rw [w64 (z := (n : Int) + 1) (by omega) (by omega)]
          exact h1 e
        · refine Ev.pos ((ne_b _ _ _ _ _ _).2 e) ?_
          rw [h2 e]
          exact Ev.now _
      refine ⟨fun h => ?_, fun h => ?_⟩
      · injection h with ha hb
        exact step true (fun _ => ih.1 hb) (fun h => absurd ha h)
      · refine step false (fun e => ih.2 (fun hb => h (by rw [e, hb]))) (fun _ => rfl)
    have k0 := key 0 (by omega) (by omega)
    exact ⟨fun h => Ev.pos (by omega) (k0.1 (by simpa using h)), fun h => Ev.pos (by omega) (k0.2 (by simpa using h))⟩
  · exact ⟨fun h => absurd (by rw [h]) hlen, fun _ => Ev.neg (by omega) (Ev.now _)⟩
def bt8 (n k : Int) : Int := Go.bits .and .i64 (shr .i64 n (wrap64 (8 * k))) 255
/-- A scalar's bytes. -/
def putL (big : Bool) (sz : Nat) (p : Bool) (n b o : Int) : List S74 :=
  (List.range sz).map fun (i : Nat) => if p = true then (if b > 0 then ⟨2, 0, b, o, (i : Int)⟩ else ⟨1, 0, 0, 0, 0⟩) else ⟨1, bt8 n (if big = true then Int.ofNat (sz - 1 - i) else (i : Int)), 0, 0, 0⟩
theorem put_of (kind : Int) (p : Bool) (n b o : Int) (h : mayS kind p n b o = true) : (kind = 7 ∧ p = true ∧ n = 0 ∧ 0 ≤ b ∧ b ≤ 32 ∧ 0 ≤ o ∧ o ≤ 32 ∧ (0 < b ∨ o = 0)) ∨ ((1 ≤ kind ∧ kind ≤ 6) ∧ p = false ∧ b = 0 ∧ o = 0 ∧ ∃ w hh P c, KD kind w hh P c ∧ 0 ≤ n ∧ n < P) := by
  unfold mayS at h
  by_cases e : kind = 7
  · rw [if_pos e, decide_eq_true_eq] at h
    exact .inl ⟨e, h.1, h.2.1, h.2.2.1.1, h.2.2.1.2, h.2.2.2.1.1, h.2.2.2.1.2, h.2.2.2.2⟩
  · rw [if_neg e, decide_eq_true_eq] at h
    obtain ⟨hk, hp, hn, hb, ho⟩ := h
    obtain ⟨w, hh, P, c, K⟩ := kd_of kind hk.1 hk.2
    rw [K.of, Option.getD_some, K.s1] at hn
    exact .inr ⟨hk, hp, hb, ho, w, hh, P, c, K, hn⟩
theorem put_len (big : Bool) (sz : Nat) (p : Bool) (n b o : Int) : (putL big sz p n b o).length = sz := by simp [putL]
theorem rput_ev (big : Bool) (ptr kind : Int) (p : Bool) (n b o : Int) (hp : ptr = 2 ∨ ptr = 4) (h : mayS kind p n b o = true) :
    Ev (fun k => cellarref7_Put.f k big ptr kind p n b o) (putL big (sizev ptr kind).toNat p n b o) := by
  have hk : 1 ≤ kind ∧ kind ≤ 7 := by rcases put_of kind p n b o h with ⟨e, _⟩ | ⟨e, _⟩ <;> omega
  have hs := size_small ptr kind hp hk
  unfold cellarref7_Put.f
  refine Ev.bind (Ev.plus 2 fun k => rsize k big ptr kind hk) ?_
  generalize sizev ptr kind = sz at hs ⊢
  obtain ⟨m, rfl⟩ : ∃ m : Nat, sz = m := ⟨sz.toNat, by omega⟩
  rw [Int.toNat_natCast]
  refine Ev.pos (by omega) (Ev.pos (by omega) ?_)
  have key : ∀ g : Nat → S74, putL big m p n b o = (List.range m).map g → (∀ i : Nat, g i = if p = true then (if b > 0 then ⟨2, 0, b, o, (i : Int)⟩ else ⟨1, 0, 0, 0, 0⟩) else ⟨1, bt8 n (if big = true then Int.ofNat (m - 1 - i) else (i : Int)), 0, 0, 0⟩) →
      Ev (fun k => cellarref7_Put.l0 k m (List.replicate m z74) 0 big ptr p n b o) (putL big m p n b o) := by
    intro g hl hg
    suffices H : ∀ i : Int, 0 ≤ i → i ≤ m → Ev (fun k => cellarref7_Put.l0 k m (fillL g i.toNat m) i big ptr p n b o) (putL big m p n b o) by
      have := H 0 (by omega) (by omega)
      rwa [show (0 : Int).toNat = 0 from rfl, fill_none] at this
    refine down (Q := fun i => Ev (fun k => cellarref7_Put.l0 k m (fillL g i.toNat m) i big ptr p n b o) (putL big m p n b o)) ?_ ?_
    · refine Ev.step (fun k => by rw [cellarref7_Put.l0]) ?_
      refine Ev.neg (by omega) ?_
      rw [Int.toNat_natCast, fill_all, hl]
      exact Ev.now _
    intro i i0 i1 ih
    obtain ⟨j, rfl⟩ := Int.eq_ofNat_of_zero_le i0
    have hj : j < m := by omega
    rw [show ((j : Int) + 1).toNat = j + 1 by omega, ← fill_set g j m hj, hg j] at ih
    have hlen := fill_len g j m (by omega)
    rw [Int.toNat_natCast]
    have J : ∀ x : Int, 0 ≤ x → x < 4 → (p = false → x = if big = true then Int.ofNat (m - 1 - j) else (j : Int)) → Ev (fun k => cellarref7_Put.j1 k m (fillL g j m) j x big ptr p n b o) (putL big m p n b o) := by
      intro x x0 x1 hx
      refine Ev.step (fun k => by rw [cellarref7_Put.j1]) ?_
      refine Ev.pos (by rw [w64 (by omega) (by omega)]; omega) (Ev.pos i0 ?_)
      refine Ev.pos (by rw [hlen]; exact i1) (Ev.bindS rfl ?_)
      rw [Int.toNat_natCast, w64 (z := (j : Int) + 1) (by omega) (by omega)]
      cases p with
      | true =>
        refine Ev.pos rfl (Ev.bindS rfl ?_)
        rw [if_pos rfl] at ih
        by_cases c : b > 0
        · rw [if_pos c] at ih
          refine Ev.pos c ?_
          rw [List.set_set, List.set_set]
          exact ih
        · rw [if_neg c] at ih
          refine Ev.neg c ?_
          rw [List.set_set]
          exact ih
      | false =>
        refine Ev.neg (by decide) ?_
        rw [if_neg (by decide), ← hx rfl] at ih
        exact ih
    refine Ev.step (fun k => by rw [cellarref7_Put.l0]) ?_
    refine Ev.pos i1 ?_
    cases big with
    | true =>
      refine Ev.pos rfl ?_
      rw [w64 (z := (m : Int) - 1) (by omega) (by omega), w64 (by omega) (by omega)]
      refine J _ (by omega) (by omega) fun _ => ?_
      rw [if_pos rfl]
      show _ = ((m - 1 - j : Nat) : Int)
      omega
    | false =>
      refine Ev.neg (by decide) ?_
      exact J _ (by omega) (by omega) fun _ => by rw [if_neg (by decide)]
  exact key _ rfl fun i => rfl
theorem state_b (l : List S74) (n : Int) : bytes_state.f l n = some (l.any fun x => x.f0 == n) := any_some (fun _ => rfl) l
def cnt (l : List S74) : Int := ((l.countP fun x => x.f0 == 2 : Nat) : Int)
section
variable (big : Bool) (ptr kind : Int) (l : List S74) (hl : l.length ≤ 4)
include hl
theorem get_empty (h : ∃ x ∈ l, x.f0 = 0) : Ev (fun k => cellarref7_Get.f k big ptr kind l) (false, 0, 0, 0, 7) := by
  have key : ∀ i : Int, 0 ≤ i → i ≤ l.length → ∀ x8 : Int, 0 ≤ x8 → x8 ≤ i → (∃ j : Nat, i ≤ (j : Int) ∧ ∃ hj : j < l.length, l[j].f0 = 0) → Ev (fun k => cellarref7_Get.l0 k kind l x8 i big ptr) (false, 0, 0, 0, 7) := by
    refine down (Q := fun i => ∀ x8 : Int, 0 ≤ x8 → x8 ≤ i → (∃ j : Nat, i ≤ (j : Int) ∧ ∃ hj : j < l.length, l[j].f0 = 0) → Ev (fun k => cellarref7_Get.l0 k kind l x8 i big ptr) (false, 0, 0, 0, 7)) ?_ ?_
    · rintro x8 _ _ ⟨j, h1, h2, _⟩
      omega
    rintro i i0 i1 ih x8 a0 a1 ⟨j, h1, h2, h3⟩
    obtain ⟨n, rfl⟩ := Int.eq_ofNat_of_zero_le i0
    have hn : n < l.length := by omega
    refine Ev.step (fun k => by rw [cellarref7_Get.l0]) ?_
    refine Ev.pos i1 (Ev.pos i0 ?_)
    rw [rd_get l n hn]
    by_cases c : l[n].f0 = 0
    · exact Ev.pos c (Ev.now _)
    · refine Ev.neg c ?_
      have hne : (n : Int) + 1 ≤ (j : Int) := by
        rcases Nat.lt_or_ge n j with h | h
        · omega
        · obtain rfl : j = n := by omega
          exact absurd h3 c
      rw [w64 (z := (n : Int) + 1) (by omega) (by omega), w64 (z := x8 + 1) (by omega) (by omega)]
      by_cases d : l[n].f0 = 2
      · exact Ev.pos d (ih (x8 + 1) (by omega) (by omega) ⟨j, hne, h2, h3⟩)
      · exact Ev.neg d (ih x8 (by omega) (by omega) ⟨j, hne, h2, h3⟩)
  obtain ⟨x, hx, h0⟩ := h
  obtain ⟨j, hj, rfl⟩ := List.mem_iff_getElem.1 hx
  exact key 0 (by omega) (by omega) 0 (by omega) (by omega) ⟨j, by omega, hj, h0⟩
theorem cnt_le (i : Nat) : 0 ≤ cnt (l.take i) ∧ cnt (l.take i) ≤ 4 := by
  unfold cnt
  have h1 : (l.take i).countP (fun x => x.f0 == 2) ≤ (l.take i).length := List.countP_le_length
  have h2 : (l.take i).length ≤ l.length := by rw [List.length_take]; omega
  omega
theorem get_run (h : ∀ x ∈ l, x.f0 ≠ 0) (r : Bool × Int × Int × Int × Int) (hr : Ev (fun k => cellarref7_Get.l0 k kind l (cnt l) l.length big ptr) r) : Ev (fun k => cellarref7_Get.f k big ptr kind l) r := by
  have key : ∀ i : Int, 0 ≤ i → i ≤ l.length → Ev (fun k => cellarref7_Get.l0 k kind l (cnt (l.take i.toNat)) i big ptr) r := by
    refine down (Q := fun i => Ev (fun k => cellarref7_Get.l0 k kind l (cnt (l.take i.toNat)) i big ptr) r) ?_ ?_
    · rw [Int.toNat_natCast, List.take_length]
      exact hr
    intro i i0 i1 ih
    obtain ⟨n, rfl⟩ := Int.eq_ofNat_of_zero_le i0
    have hn : n < l.length := by omega
    have hc := cnt_le l hl n
    refine Ev.step (fun k => by rw [cellarref7_Get.l0]) ?_
    refine Ev.pos i1 (Ev.pos i0 ?_)
    rw [rd_get l n hn]
    refine Ev.neg (h _ (List.getElem_mem hn)) ?_
    rw [show ((n : Int) + 1).toNat = n + 1 by omega, ← List.take_append_getElem hn] at ih
    rw [Int.toNat_natCast, w64 (z := (n : Int) + 1) (by omega) (by omega), w64 (z := cnt (l.take n) + 1) (by omega) (by omega)]
    by_cases d : l[n].f0 = 2
    · refine Ev.pos d ?_
      rwa [show cnt (l.take n ++ [l[n]]) = cnt (l.take n) + 1 by unfold cnt; rw [List.countP_append, List.countP_singleton, if_pos (beq_iff_eq.2 d)]; omega] at ih
    · refine Ev.neg d ?_
      rwa [show cnt (l.take n ++ [l[n]]) = cnt (l.take n) by unfold cnt; rw [List.countP_append, List.countP_singleton, if_neg (fun c => d (beq_iff_eq.1 c))]; omega] at ih
  exact key 0 (by omega) (by omega)
/-- What a pointer's byte must be. -/
def want (B O : Int) (i : Nat) : S74 := if B > 0 then ⟨2, 0, B, O, (i : Int)⟩ else ⟨1, 0, 0, 0, 0⟩
theorem pointer_at (h0 : 0 < l.length) (r : Bool × Int × Int × Int × Int) (hy : (∀ (i : Nat) (h : i < l.length), l[i] = want l[0].f2 l[0].f3 i) → r = ((true, 0, l[0].f2, l[0].f3, 0) : Bool × Int × Int × Int × Int)) (hn : (∃ (i : Nat) (h : i < l.length), ¬ l[i] = want l[0].f2 l[0].f3 i) → r = (false, 0, 0, 0, 8)) : Ev (fun k => bytes_pointer.f k l) r := by
  unfold bytes_pointer.f
  refine Ev.pos (by omega) ?_
  rw [show rd_T74 l 0 = l[0] from rd_get l 0 h0]
  generalize hB : l[0].f2 = B at hy hn ⊢
  generalize hO : l[0].f3 = O at hy hn ⊢
  have key : ∀ i : Int, 0 ≤ i → i ≤ l.length → (∀ (j : Nat) (h : j < l.length), (j : Int) < i → l[j] = want B O j) → Ev (fun k => bytes_pointer.l0 k l l.length i true 0 B O) r := by
    refine down (Q := fun i => (∀ (j : Nat) (h : j < l.length), (j : Int) < i → l[j] = want B O j) → Ev (fun k => bytes_pointer.l0 k l l.length i true 0 B O) r) ?_ ?_
    · intro hall
      refine Ev.step (fun k => by rw [bytes_pointer.l0]) ?_
      refine Ev.neg (by omega) ?_
      rw [hy fun i h => hall i h (by omega)]
      exact Ev.now _
    intro i i0 i1 ih hall
    obtain ⟨n, rfl⟩ := Int.eq_ofNat_of_zero_le i0
    have hn' : n < l.length := by omega
    have J : ∀ a b c d e : Int, want B O n = ⟨a, b, c, d, e⟩ → Ev (fun k => bytes_pointer.j1 k l l.length n true 0 B O l[n].f0 l[n].f1 l[n].f2 l[n].f3 l[n].f4 a b c d e) r := by
      intro a b c d e hw
      refine Ev.step (fun k => by rw [bytes_pointer.j1]) ?_
      by_cases q : l[n] = ⟨a, b, c, d, e⟩
      · refine Ev.neg (fun h => (ne_b _ _ _ _ _ _).1 h q) ?_
        rw [w64 (z := (n : Int) + 1) (by omega) (by omega)]
        refine ih fun j hj hlt => ?_
        rcases Nat.lt_or_ge j n with h | h
        · exact hall j hj (by omega)
        · obtain rfl : j = n := by omega
          rw [q, hw]
      · refine Ev.pos ((ne_b _ _ _ _ _ _).2 q) ?_
        rw [hn ⟨n, hn', by rw [hw]; exact q⟩]
        exact Ev.now _
    refine Ev.step (fun k => by rw [bytes_pointer.l0]) ?_
    refine Ev.pos i1 (Ev.pos i0 (Ev.pos i1 ?_))
    rw [rd_get l n hn']
    by_cases c : B > 0
    · exact Ev.pos c (J _ _ _ _ _ (by unfold want; rw [if_pos c]))
    · exact Ev.neg c (J _ _ _ _ _ (by unfold want; rw [if_neg c]))
  exact key 0 (by omega) (by omega) (fun j _ h => by omega)
theorem num_ev : ∀ i : Int, 0 ≤ i → i ≤ l.length → ∀ n : Int, ∃ r, Ev (fun k => bytes_Read.l0 k l n l.length i big ptr) r ∧ Ev (fun k => cellarref7_Get.l2 k l n i big ptr) r := by
  refine down (Q := fun i => ∀ n : Int, ∃ r, Ev (fun k => bytes_Read.l0 k l n l.length i big ptr) r ∧ Ev (fun k => cellarref7_Get.l2 k l n i big ptr) r) ?_ ?_
  · intro n
    refine ⟨(false, n, 0, 0, 0), Ev.step (fun k => by rw [bytes_Read.l0]) (Ev.neg (by omega) (Ev.now _)), Ev.step (fun k => by rw [cellarref7_Get.l2]) (Ev.neg (by omega) (Ev.now _))⟩
  intro i i0 i1 ih n
  have e1 : wrap64 ((l.length : Int) - 1) = (l.length : Int) - 1 := w64 (by omega) (by omega)
  have e2 : wrap64 ((l.length : Int) - 1 - i) = (l.length : Int) - 1 - i := w64 (by omega) (by omega)
  have e3 : wrap64 (i + 1) = i + 1 := w64 (by omega) (by omega)
  cases big with
  | true =>
    obtain ⟨r, h1, h2⟩ := ih (Go.bits .or .i64 (wrap64 (n * 256)) (rd_T74 l i).f1)
    refine ⟨r, Ev.step (fun k => by rw [bytes_Read.l0]) (Ev.pos i1 ?_), Ev.step (fun k => by rw [cellarref7_Get.l2]) (Ev.pos i1 (Ev.pos rfl (Ev.pos i0 ?_)))⟩
    · rw [e1, e2]
      refine Ev.pos (by omega) (Ev.pos (by omega) (Ev.pos rfl (Ev.pos i0 (Ev.pos i1 ?_))))
      refine Ev.step (fun k => by rw [bytes_Read.j1]) ?_
      rw [e3]
      exact h1
    · rw [e3]
      exact h2
  | false =>
    obtain ⟨r, h1, h2⟩ := ih (Go.bits .or .i64 (wrap64 (n * 256)) (rd_T74 l ((l.length : Int) - 1 - i)).f1)
    refine ⟨r, Ev.step (fun k => by rw [bytes_Read.l0]) (Ev.pos i1 ?_), Ev.step (fun k => by rw [cellarref7_Get.l2]) (Ev.pos i1 (Ev.neg (by decide) ?_))⟩
    · rw [e1, e2]
      refine Ev.pos (by omega) (Ev.pos (by omega) (Ev.neg (by decide) ?_))
      refine Ev.step (fun k => by rw [bytes_Read.j1]) ?_
      rw [e3]
      exact h1
    · rw [e1, e2]
      refine Ev.pos (by omega) (Ev.pos (by omega) ?_)
      rw [e3]
      exact h2
theorem l1_ev (r : Bool × Int × Int × Int × Int) (hy : (∀ x ∈ l, x.f1 = 0) → r = (true, 0, 0, 0, 0)) (hn : (∃ x ∈ l, ¬ x.f1 = 0) → r = (false, 0, 0, 0, 8)) : Ev (fun k => cellarref7_Get.l1 k l 0) r := by
  have key : ∀ i : Int, 0 ≤ i → i ≤ l.length → (∀ (j : Nat) (h : j < l.length), (j : Int) < i → l[j].f1 = 0) → Ev (fun k => cellarref7_Get.l1 k l i) r := by
    refine down (Q := fun i => (∀ (j : Nat) (h : j < l.length), (j : Int) < i → l[j].f1 = 0) → Ev (fun k => cellarref7_Get.l1 k l i) r) ?_ ?_
    · intro hall
      refine Ev.step (fun k => by rw [cellarref7_Get.l1]) ?_
      refine Ev.neg (by omega) ?_
      rw [hy fun x hx => by obtain ⟨j, hj, rfl⟩ := List.mem_iff_getElem.1 hx; exact hall j hj (by omega)]
      exact Ev.now _
    intro i i0 i1 ih hall
    obtain ⟨n, rfl⟩ := Int.eq_ofNat_of_zero_le i0
    have hn' : n < l.length := by omega
    refine Ev.step (fun k => by rw [cellarref7_Get.l1]) ?_
    refine Ev.pos i1 (Ev.pos i0 ?_)
    rw [rd_get l n hn']
    by_cases c : l[n].f1 = 0
    · refine Ev.pos c ?_
      rw [w64 (z := (n : Int) + 1) (by omega) (by omega)]
      refine ih fun j hj hlt => ?_
      rcases Nat.lt_or_ge j n with h | h
      · exact hall j hj (by omega)
      · obtain rfl : j = n := by omega
        exact c
    · refine Ev.neg c ?_
      rw [hn ⟨_, List.getElem_mem hn', c⟩]
      exact Ev.now _
  exact key 0 (by omega) (by omega) (fun j _ h => by omega)
end
theorem isB_cases {x : S74} (h : isB x = true) (h0 : x.f0 ≠ 0) : (x.f0 = 1 ∧ x.f2 = 0 ∧ x.f3 = 0 ∧ x.f4 = 0) ∨ (x.f0 = 2 ∧ x.f1 = 0 ∧ 1 ≤ x.f2 ∧ x.f2 ≤ 32 ∧ 0 ≤ x.f3 ∧ x.f3 ≤ 32) := by
  unfold isB at h
  rw [decide_eq_true_eq] at h
  rcases h with h | h | h
  · exact absurd h.1 h0
  · exact .inl ⟨h.1, h.2.2⟩
  · exact .inr ⟨h.1, h.2.1, h.2.2.1.1, h.2.2.1.2, h.2.2.2.1.1, h.2.2.2.1.2⟩
theorem read_get (big : Bool) (ptr kind : Int) (l : List S74) (hp : ptr = 2 ∨ ptr = 4) (hk : 1 ≤ kind ∧ kind ≤ 7) (hlen : (l.length : Int) = sizev ptr kind) (hb : ∀ x ∈ l, isB x = true) :
    ∃ r, Ev (fun k => bytes_Read.f k big ptr kind l) r ∧ Ev (fun k => cellarref7_Get.f k big ptr kind l) r := by
  have hs := size_small ptr kind hp hk
  have hl4 : l.length ≤ 4 := by omega
  have hl0 : 0 < l.length := by omega
  by_cases e0 : ∃ x ∈ l, x.f0 = 0
  · refine ⟨(false, 0, 0, 0, 7), ?_, get_empty big ptr kind l hl4 e0⟩
    unfold bytes_Read.f
    refine Ev.bindS (state_b l 0) (Ev.pos ?_ (Ev.now _))
    rw [List.any_eq_true]
    obtain ⟨x, hx, h0⟩ := e0
    exact ⟨x, hx, beq_iff_eq.2 h0⟩
  have e0' : ∀ x ∈ l, x.f0 ≠ 0 := fun x hx h => e0 ⟨x, hx, h⟩
  have s0 : (l.any fun x => x.f0 == 0) = false := by
    rw [List.any_eq_false]
    exact fun x hx h => e0' x hx (beq_iff_eq.1 h)
  have hcnt0 : cnt l = 0 ↔ ∀ x ∈ l, x.f0 ≠ 2 := by
    unfold cnt
    rw [Int.natCast_eq_zero, List.countP_eq_zero]
    exact ⟨fun h x hx e => h x hx (beq_iff_eq.2 e), fun h x hx e => h x hx (beq_iff_eq.1 e)⟩
  have hcntp : 0 ≤ cnt l := by unfold cnt; omega
  have A0 : l[0] ∈ l := List.getElem_mem hl0
  by_cases k7 : kind = 7
  · -- a pointer
    have R : ∀ r, Ev (fun k => bytes_pointer.f k l) r → Ev (fun k => bytes_Read.f k big ptr kind l) r := by
      intro r h
      unfold bytes_Read.f
      refine Ev.bindS (state_b l 0) ?_
      rw [s0]
      exact Ev.neg (by decide) (Ev.pos k7 (Ev.bind h (Ev.now _)))
    have G : ∀ r, (cnt l = 0 → Ev (fun k => cellarref7_Get.l1 k l 0) r) → (¬ cnt l = 0 → Ev (fun k => if l[0].f0 = 2 then ((cellarref7_Put.f k big ptr kind true 0 l[0].f2 l[0].f3).bind fun t => (cellarref0_EqBytes.f k t l).bind fun b => if b = true then (some ((true, 0, l[0].f2, l[0].f3, 0) : Bool × Int × Int × Int × Int)) else (some (false, 0, 0, 0, 8))) else (some (false, 0, 0, 0, 8))) r) → Ev (fun k => cellarref7_Get.f k big ptr kind l) r := by
      intro r h1 h2
      refine get_run big ptr kind l hl4 e0' r ?_
      refine Ev.step (fun k => by rw [cellarref7_Get.l0]) ?_
      refine Ev.neg (by omega) (Ev.pos k7 ?_)
      by_cases c : cnt l = 0
      · exact Ev.pos c (h1 c)
      · refine Ev.neg c (Ev.pos (by omega) ?_)
        rw [show rd_T74 l 0 = l[0] from rd_get l 0 hl0]
        exact h2 c
    by_cases hall : ∀ (i : Nat) (h : i < l.length), l[i] = want l[0].f2 l[0].f3 i
    · refine ⟨(true, 0, l[0].f2, l[0].f3, 0), R _ (pointer_at l hl4 hl0 _ (fun _ => rfl) (fun ⟨i, h, hn⟩ => absurd (hall i h) hn)), G _ (fun c => ?_) (fun c => ?_)⟩
      · have h2 := hcnt0.1 c
        have hz : l[0].f2 = 0 ∧ l[0].f3 = 0 := by
          rcases isB_cases (hb _ A0) (e0' _ A0) with h | h
          · exact ⟨h.2.1, h.2.2.1⟩
          · exact absurd h.1 (h2 _ A0)
        refine l1_ev l hl4 _ (fun _ => by rw [hz.1, hz.2]) (fun ⟨x, hx, hx1⟩ => ?_)
        obtain ⟨j, hj, rfl⟩ := List.mem_iff_getElem.1 hx
        have := hall j hj
        unfold want at this
        rw [hz.1, if_neg (by decide)] at this
        rw [this] at hx1
        exact absurd rfl hx1
      · have hB : l[0].f0 = 2 := by
          rcases isB_cases (hb _ A0) (e0' _ A0) with h | h
          · exfalso
            refine c (hcnt0.2 fun x hx e => ?_)
            obtain ⟨j, hj, rfl⟩ := List.mem_iff_getElem.1 hx
            have := hall j hj
            unfold want at this
            rw [h.2.1, if_neg (by decide)] at this
            rw [this] at e
            exact absurd e (by decide)
          · exact h.1
        rcases isB_cases (hb _ A0) (e0' _ A0) with h | h
        · omega
        have hm : mayS 7 true 0 l[0].f2 l[0].f3 = true := by
          unfold mayS
          rw [if_pos rfl, decide_eq_true_eq]
          exact ⟨rfl, rfl, ⟨by omega, by omega⟩, ⟨by omega, by omega⟩, by omega⟩
        refine Ev.pos hB ?_
        rw [k7]
        refine Ev.bind (rput_ev big ptr 7 true 0 l[0].f2 l[0].f3 hp hm) ?_
        have hput : putL big (sizev ptr 7).toNat true 0 l[0].f2 l[0].f3 = l := by
          apply List.ext_getElem
          · rw [put_len, ← k7]
            omega
          · intro i h1 h2
            rw [hall i h2]
            simp [putL, want]
        rw [hput]
        exact Ev.bind ((eq_ev l l (by omega)).1 rfl) (Ev.pos rfl (Ev.now _))
    · have hex : ∃ (i : Nat) (h : i < l.length), ¬ l[i] = want l[0].f2 l[0].f3 i := by
        rcases Classical.em (∃ (i : Nat) (h : i < l.length), ¬ l[i] = want l[0].f2 l[0].f3 i) with h | h
        · exact h
        · exact absurd (fun i hi => Classical.byContradiction fun hn => h ⟨i, hi, hn⟩) hall
      refine ⟨(false, 0, 0, 0, 8), R _ (pointer_at l hl4 hl0 _ (fun h => absurd h hall) (fun _ => rfl)), G _ (fun c => ?_) (fun c => ?_)⟩
      · have h2 := hcnt0.1 c
        have one : ∀ x ∈ l, x.f0 = 1 ∧ x.f2 = 0 ∧ x.f3 = 0 ∧ x.f4 = 0 := fun x hx => by
          rcases isB_cases (hb x hx) (e0' x hx) with h | h
          · exact h
          · exact absurd h.1 (h2 x hx)
        refine l1_ev l hl4 _ (fun hz => ?_) (fun _ => rfl)
        exfalso
        refine hall fun i hi => ?_
        have hi2 := one _ (List.getElem_mem hi)
        have h02 := one _ A0
        unfold want
        rw [h02.2.1, if_neg (by decide)]
        obtain ⟨a, b, c2, d⟩ := hi2
        have hz1 := hz _ (List.getElem_mem hi)
        generalize l[i] = y at *
        obtain ⟨y0, y1, y2, y3, y4⟩ := y
        simp only at a b c2 d hz1
        rw [a, b, c2, d, hz1]
      · by_cases hB : l[0].f0 = 2
        · rcases isB_cases (hb _ A0) (e0' _ A0) with h | h
          · omega
          have hm : mayS 7 true 0 l[0].f2 l[0].f3 = true := by
            unfold mayS
            rw [if_pos rfl, decide_eq_true_eq]
            exact ⟨rfl, rfl, ⟨by omega, by omega⟩, ⟨by omega, by omega⟩, by omega⟩
          refine Ev.pos hB ?_
          rw [k7]
          refine Ev.bind (rput_ev big ptr 7 true 0 l[0].f2 l[0].f3 hp hm) ?_
          have hput : ¬ putL big (sizev ptr 7).toNat true 0 l[0].f2 l[0].f3 = l := by
            intro e
            refine hall fun i hi => ?_
            have hi' : i < (putL big (sizev ptr 7).toNat true 0 l[0].f2 l[0].f3).length := by rw [e]; exact hi
            have : l[i] = (putL big (sizev ptr 7).toNat true 0 l[0].f2 l[0].f3)[i] := by
              congr 1
              exact e.symm
            rw [this]
            simp [putL, want]
          exact Ev.bind ((eq_ev _ l (by rw [put_len]; have := size_small ptr 7 hp (by omega); omega)).2 hput) (Ev.neg (by decide) (Ev.now _))
        · exact Ev.neg hB (Ev.now _)
  · -- a number
    by_cases s2 : ∃ x ∈ l, x.f0 = 2
    · have h2 : (l.any fun x => x.f0 == 2) = true := by
        rw [List.any_eq_true]
        obtain ⟨x, hx, h0⟩ := s2
        exact ⟨x, hx, beq_iff_eq.2 h0⟩
      have hc : ¬ cnt l = 0 := fun c => by
        obtain ⟨x, hx, h0⟩ := s2
        exact hcnt0.1 c x hx h0
      refine ⟨(false, 0, 0, 0, 8), ?_, get_run big ptr kind l hl4 e0' _ ?_⟩
      · unfold bytes_Read.f
        refine Ev.bindS (state_b l 0) ?_
        rw [s0]
        refine Ev.neg (by decide) (Ev.neg k7 (Ev.bindS (state_b l 2) ?_))
        rw [h2]
        exact Ev.pos rfl (Ev.now _)
      · refine Ev.step (fun k => by rw [cellarref7_Get.l0]) ?_
        exact Ev.neg (by omega) (Ev.neg k7 (Ev.pos (by omega) (Ev.now _)))
    · have h2 : (l.any fun x => x.f0 == 2) = false := by
        rw [List.any_eq_false]
        exact fun x hx h => s2 ⟨x, hx, beq_iff_eq.1 h⟩
      have hc : cnt l = 0 := hcnt0.2 fun x hx h => s2 ⟨x, hx, h⟩
      obtain ⟨r, h1, h3⟩ := num_ev big ptr l hl4 0 (by omega) (by omega) 0
      refine ⟨r, ?_, get_run big ptr kind l hl4 e0' _ ?_⟩
      · unfold bytes_Read.f
        refine Ev.bindS (state_b l 0) ?_
        rw [s0]
        refine Ev.neg (by decide) (Ev.neg k7 (Ev.bindS (state_b l 2) ?_))
        rw [h2]
        exact Ev.neg (by decide) h1
      · refine Ev.step (fun k => by rw [cellarref7_Get.l0]) ?_
        refine Ev.neg (by omega) (Ev.neg k7 (Ev.neg (by omega) h3))
theorem ref_b (x : S74) : cellarref7_Byte.f x.f0 x.f1 x.f2 x.f3 x.f4 = some (isB x) := by
  unfold cellarref7_Byte.f isB
  simp only [num_le, btw, Option.bind_some]
  by_cases h0 : x.f0 = 0
  · rw [if_pos h0]
    congr 1
    rw [Bool.eq_iff_iff]
    simp [h0]
  · rw [if_neg h0]
    by_cases h1 : x.f0 = 1
    · rw [if_pos h1]
      by_cases c : 0 ≤ x.f1 ∧ x.f1 ≤ 255
      · rw [if_pos (decide_eq_true c)]
        by_cases c2 : x.f2 = 0
        · rw [if_pos c2]
          by_cases c3 : x.f3 = 0
          · rw [if_pos c3]
            congr 1
            rw [Bool.eq_iff_iff]
            simp [h1, c, c2, c3]
          · rw [if_neg c3]
            congr 1
            symm
            rw [decide_eq_false_iff_not]
            omega
        · rw [if_neg c2]
          congr 1
          symm
          rw [decide_eq_false_iff_not]
          omega
      · rw [if_neg (by simpa using c)]
        congr 1
        symm
        rw [decide_eq_false_iff_not]
        omega
    · rw [if_neg h1]
      by_cases h2 : x.f0 = 2
      · rw [if_pos h2]
        by_cases c1 : x.f1 = 0
        · rw [if_pos c1]
          by_cases c2 : 1 ≤ x.f2 ∧ x.f2 ≤ 32
          · rw [if_pos (decide_eq_true c2)]
            by_cases c4 : 0 ≤ x.f3 ∧ x.f3 ≤ 32
            · rw [if_pos (decide_eq_true c4)]
              congr 1
              rw [decide_eq_decide]
              omega
            · rw [if_neg (by simpa using c4)]
              congr 1
              symm
              rw [decide_eq_false_iff_not]
              omega
          · rw [if_neg (by simpa using c2)]
            congr 1
            symm
            rw [decide_eq_false_iff_not]
            omega
        · rw [if_neg c1]
          congr 1
          symm
          rw [decide_eq_false_iff_not]
          omega
      · rw [if_neg h2]
        congr 1
        symm
        rw [decide_eq_false_iff_not]
        omega
theorem ref_s (k : Nat) (kind : Int) (p : Bool) (n b o : Int) : cellarref7_Scalar.f (k + 2) kind p n b o = some (mayS kind p n b o) := by
  unfold cellarref7_Scalar.f mayS
  simp only [num_le, Option.bind_some]
  by_cases h7 : kind = 7
  · rw [if_pos h7, if_pos h7]
    cases p with
    | true =>
      rw [if_pos rfl]
      by_cases c1 : n = 0
      · rw [if_pos c1]
        by_cases c2 : 0 ≤ b ∧ b ≤ 32
        · rw [if_pos (decide_eq_true c2)]
          by_cases c3 : 0 ≤ o ∧ o ≤ 32
          · rw [if_pos (decide_eq_true c3)]
            by_cases c4 : b > 0
            · rw [if_pos c4]
              congr 1
              symm
              rw [decide_eq_true_iff]
              exact ⟨rfl, c1, c2, c3, .inl c4⟩
            · rw [if_neg c4]
              congr 1
              rw [Bool.eq_iff_iff]
              simp [c1, c2, c3]
              omega
          · rw [if_neg (by simpa using c3)]
            congr 1
            symm
            rw [decide_eq_false_iff_not]
            omega
        · rw [if_neg (by simpa using c2)]
          congr 1
          symm
          rw [decide_eq_false_iff_not]
          omega
      · rw [if_neg c1]
        congr 1
        symm
        rw [decide_eq_false_iff_not]
        omega
    | false => simp
  · rw [if_neg h7, if_neg h7]
    by_cases hk : 1 ≤ kind ∧ kind ≤ 6
    · obtain ⟨w, hh, P, s, K⟩ := kd_of kind hk.1 hk.2
      have w1 := K.w1
      rw [K.wd, K.of, Option.bind_some, if_pos (by omega)]
      cases p with
      | true => simp
      | false =>
        rw [if_neg (by decide), Option.bind_some, K.number]
        simp only [Option.getD_some, K.s1]
        by_cases d : b = 0
        · rw [if_pos d]
          by_cases e : o = 0
          · rw [if_pos e, Option.bind_some]
            congr 1
            rw [decide_eq_decide]
            constructor
            · intro c
              exact ⟨hk, trivial, c, d, e⟩
            · intro c
              exact c.2.2.1
          · rw [if_neg e]
            congr 1
            symm
            rw [decide_eq_false_iff_not]
            omega
        · rw [if_neg d]
          congr 1
          symm
          rw [decide_eq_false_iff_not]
          omega
    · rw [no_kind kind (by omega), Option.bind_some, if_neg (by decide)]
      congr 1
      symm
      rw [decide_eq_false_iff_not]
      omega
def blkOK (b : S76) : Bool := decide (0 ≤ b.f0 ∧ b.f0 ≤ 3 ∧ b.f1.length ≤ 32 ∧ (b.f0 = 1 ∨ b.f1.length = 0)) && b.f1.all isB
theorem any_not (l : List S74) : api_Byte_122.f l 123 = some (!(l.all isB)) := by
  unfold api_Byte_122.f
  rw [if_pos rfl, any_some (f := fun x => !isB x) (fun x => by unfold mem_block_1.f; rw [is_b]; rfl)]
  congr 1
  rw [List.not_all_eq_any_not]
theorem block_f (b : S76) : mem_block.f b.f0 b.f1 = some (blkOK b) := by
  unfold mem_block.f blkOK
  rw [any_not]
  simp only [Option.bind_some, Bool.not_not]
  by_cases a : b.f0 < 0
  · rw [if_pos a, decide_eq_false (by omega), Bool.false_and]
  rw [if_neg a]
  by_cases c : b.f0 > 3
  · rw [if_pos c, decide_eq_false (by omega), Bool.false_and]
  rw [if_neg c]
  by_cases d : (b.f1.length : Int) > 32
  · rw [if_pos d, decide_eq_false (by omega), Bool.false_and]
  rw [if_neg d]
  by_cases e : b.f0 = 1
  · rw [if_pos e, decide_eq_true (by omega), Bool.true_and]
  rw [if_neg e]
  by_cases g : (b.f1.length : Int) > 0
  · rw [if_pos g, decide_eq_false (by omega), Bool.false_and]
  · rw [if_neg g, decide_eq_true (by omega), Bool.true_and]
def memOK (m : List S76) : Bool := decide (1 ≤ m.length ∧ m.length ≤ 33 ∧ (rd_T76 m 0).f0 = 0) && m.all blkOK
theorem may_m (m : List S76) : mem_May.f m = some (memOK m) := by
  unfold mem_May.f memOK
  by_cases a : (m.length : Int) < 1
  · rw [if_pos a, decide_eq_false (by omega), Bool.false_and]
  rw [if_neg a]
  by_cases c : (m.length : Int) > 33
  · rw [if_pos c, decide_eq_false (by omega), Bool.false_and]
  rw [if_neg c, if_pos (by omega)]
  by_cases d : (rd_T76 m 0).f0 = 0
  · rw [if_pos d, decide_eq_true (by omega), Bool.true_and]
    unfold api_Block_107.f
    rw [if_pos rfl, any_some (f := fun x => !blkOK x) (fun x => by unfold mem_May_1.f; rw [block_f]; rfl), Option.bind_some, ← List.not_all_eq_any_not, Bool.not_not]
  · rw [if_neg d, decide_eq_false (by omega), Bool.false_and]
theorem check_m (m : List S76) : mem_Check.f m = some (if memOK m = true then 0 else 1) := by
  unfold mem_Check.f
  rw [may_m, Option.bind_some]
  split <;> rfl
theorem bytes_all (l : List S74) (hl : l.length ≤ 1000000) : Ev (fun k => cellarref7_Bytes.f k l) (l.all isB) := by
  have key : ∀ i : Int, 0 ≤ i → i ≤ l.length → Ev (fun k => cellarref7_Bytes.l0 k l i) ((l.drop i.toNat).all isB) := by
    refine down (Q := fun i => Ev (fun k => cellarref7_Bytes.l0 k l i) ((l.drop i.toNat).all isB)) ?_ ?_
    · refine Ev.step (fun k => by rw [cellarref7_Bytes.l0]) ?_
      rw [Int.toNat_natCast, List.drop_length]
      exact Ev.neg (by omega) (Ev.now _)
    intro i i0 i1 ih
    obtain ⟨n, rfl⟩ := Int.eq_ofNat_of_zero_le i0
    have hn : n < l.length := by omega
    rw [show ((n : Int) + 1).toNat = n + 1 by omega] at ih
    rw [Int.toNat_natCast, List.drop_eq_getElem_cons hn, List.all_cons]
    refine Ev.step (fun k => by rw [cellarref7_Bytes.l0]) ?_
    refine Ev.pos i1 (Ev.pos i0 ?_)
    rw [rd_get l n hn]
    refine Ev.bindS (ref_b _) ?_
    cases h : isB l[n] with
    | true =>
      refine Ev.pos rfl ?_
      rw [w64 (z := (n : Int) + 1) (by omega) (by omega), Bool.true_and]
      exact ih
    | false => exact Ev.neg (by decide) (Ev.now _)
  exact key 0 (by omega) (by omega)
theorem rd_getT (l : List S76) (i : Nat) (h : i < l.length) : rd_T76 l (i : Int) = l[i] := by
  unfold rd_T76
  simp [List.getD_eq_getElem?_getD, List.getElem?_eq_getElem h]
theorem ref_mem (m : List S76) (hl : m.length ≤ 1000000000000000000) : Ev (fun k => cellarref7_Mem.f k m) (memOK m) := by
  have key : ∀ i : Int, 0 ≤ i → i ≤ m.length → Ev (fun k => cellarref7_Mem.l0 k m i) ((m.drop i.toNat).all blkOK) := by
    refine down (Q := fun i => Ev (fun k => cellarref7_Mem.l0 k m i) ((m.drop i.toNat).all blkOK)) ?_ ?_
    · refine Ev.step (fun k => by rw [cellarref7_Mem.l0]) ?_
      rw [Int.toNat_natCast, List.drop_length]
      exact Ev.neg (by omega) (Ev.now _)
    intro i i0 i1 ih
    obtain ⟨n, rfl⟩ := Int.eq_ofNat_of_zero_le i0
    have hn : n < m.length := by omega
    rw [show ((n : Int) + 1).toNat = n + 1 by omega] at ih
    rw [Int.toNat_natCast, List.drop_eq_getElem_cons hn, List.all_cons]
    refine Ev.step (fun k => by rw [cellarref7_Mem.l0]) ?_
    refine Ev.pos i1 (Ev.pos i0 ?_)
    rw [rd_getT m n hn, w64 (z := (n : Int) + 1) (by omega) (by omega)]
    refine Ev.bindS (num_le _ _) ?_
    generalize m[n] = b
    unfold blkOK
    by_cases a : 0 ≤ b.f0 ∧ b.f0 ≤ 3
    · refine Ev.pos (decide_eq_true a) ?_
      by_cases d : (b.f1.length : Int) > 32
      · rw [decide_eq_false (by omega), Bool.false_and, Bool.false_and]
        exact Ev.pos d (Ev.now _)
      refine Ev.neg d ?_
      have J : ∀ q : Bool, q = true → Ev (fun k => (cellarref7_Bytes.f k b.f1).bind fun t => if t = true then cellarref7_Mem.l0 k m ((n : Int) + 1) else some false) (q && b.f1.all isB && (m.drop (n + 1)).all blkOK) := by
        rintro q rfl
        rw [Bool.true_and]
        refine Ev.bind (bytes_all b.f1 (by omega)) ?_
        cases b.f1.all isB with
        | true =>
          rw [Bool.true_and]
          exact Ev.pos rfl ih
        | false => exact Ev.neg (by decide) (Ev.now _)
      by_cases e : b.f0 = 1
      · exact Ev.pos e (J _ (decide_eq_true (by omega)))
      · refine Ev.neg e ?_
        by_cases g : (b.f1.length : Int) > 0
        · rw [decide_eq_false (by omega), Bool.false_and, Bool.false_and]
          exact Ev.pos g (Ev.now _)
        · exact Ev.neg g (J _ (decide_eq_true (by omega)))
    · rw [show decide (0 ≤ b.f0 ∧ b.f0 ≤ 3 ∧ b.f1.length ≤ 32 ∧ (b.f0 = 1 ∨ b.f1.length = 0)) = false from decide_eq_false (by omega), Bool.false_and, Bool.false_and]
      exact Ev.neg (by simpa using a) (Ev.now _)
  unfold cellarref7_Mem.f memOK
  refine Ev.bindS (btw _ _ _) ?_
  by_cases a : (1 : Int) ≤ m.length ∧ (m.length : Int) ≤ 33
  · refine Ev.pos (decide_eq_true a) (Ev.pos (by omega) ?_)
    refine Ev.step (fun k => by rw [cellarref7_Mem.j0]) ?_
    by_cases d : (rd_T76 m 0).f0 = 0
    · rw [decide_eq_true (by omega), Bool.true_and]
      exact Ev.neg (by rw [d]; decide) (key 0 (by omega) (by omega))
    · rw [decide_eq_false (by omega), Bool.false_and]
      exact Ev.pos (by simpa using d) (Ev.now _)
  · rw [show decide (1 ≤ m.length ∧ m.length ≤ 33 ∧ (rd_T76 m 0).f0 = 0) = false from decide_eq_false (by omega), Bool.false_and]
    refine Ev.neg (by simpa using a) ?_
    refine Ev.step (fun k => by rw [cellarref7_Mem.j0]) ?_
    exact Ev.pos rfl (Ev.now _)
def thereB (m : List S76) (p : Bool) (n b o : Int) : Bool := mayS 7 p n b o && decide (b < (m.length : Int))
theorem there_f (m : List S76) (p : Bool) (n b o : Int) : mem_there.f m p n b o = some (thereB m p n b o) := by
  unfold mem_there.f thereB
  rw [may_s, Option.bind_some]
  cases mayS 7 p n b o with
  | true => rfl
  | false => rfl
theorem ref_ptr (m : List S76) (p : Bool) (n b o : Int) : Ev (fun k => cellarref7_Pointer.f k m p n b o) (thereB m p n b o) := by
  unfold cellarref7_Pointer.f thereB
  refine Ev.bind (Ev.plus 2 fun k => ref_s k 7 p n b o) ?_
  cases mayS 7 p n b o with
  | true => exact Ev.pos rfl (Ev.now _)
  | false => exact Ev.neg (by decide) (Ev.now _)
theorem asked_f (big : Bool) (ptr : Int) (m : List S76) (p : Bool) (n b o kind : Int) :
    mem_asked.f big ptr m p n b o kind = some (decide (ptr = 2 ∨ ptr = 4) && (memOK m && (thereB m p n b o && decide (1 ≤ kind ∧ kind ≤ 7)))) := by
  unfold mem_asked.f
  rw [amay, may_m, there_f, ascalar]
  simp only [Option.bind_some]
  cases decide (ptr = 2 ∨ ptr = 4) <;> cases memOK m <;> cases thereB m p n b o <;> rfl
theorem way_f (big : Bool) (ptr : Int) (m : List S76) (p : Bool) (n b o kind : Int) (hp : ptr = 2 ∨ ptr = 4) (hk : 1 ≤ kind ∧ kind ≤ 7) (b0 : 0 ≤ b) (b1 : b < (m.length : Int)) (o0 : 0 ≤ o) (o1 : o ≤ 32) :
    ∃ w, mem_Way.f big ptr m p n b o kind = some w ∧ (∀ k, cellarref7_reach.f (k + 2) big ptr m p n b o kind = some w) ∧ (w = 0 → o + sizev ptr kind ≤ ((rd_T76 m b).f1.length : Int)) := by
  have hs := size_small ptr kind hp hk
  have e : wrap64 (o + sizev ptr kind) = o + sizev ptr kind := w64 (by omega) (by omega)
  unfold mem_Way.f cellarref7_reach.f
  simp only [abytes big ptr kind hk, rsize _ big ptr kind hk, Option.bind_some, if_pos b0, if_pos b1, e]
  by_cases a : (rd_T76 m b).f0 = 1
  · simp only [if_pos a]
    by_cases c : o + sizev ptr kind > ((rd_T76 m b).f1.length : Int)
    · exact ⟨1, by rw [if_pos c], fun _ => by rw [if_pos c], fun h => absurd h (by decide)⟩
    · simp only [if_neg c, if_neg (show ¬ sizev ptr kind = 0 by omega)]
      by_cases d : Int.tmod o (sizev ptr kind) = 0
      · exact ⟨0, by rw [if_pos d], fun _ => by rw [if_pos d], fun _ => by omega⟩
      · exact ⟨3, by rw [if_neg d], fun _ => by rw [if_neg d], fun h => absurd h (by decide)⟩
  · exact ⟨2, by rw [if_neg a], fun _ => by rw [if_neg a], fun h => absurd h (by decide)⟩
theorem load_ev (big : Bool) (ptr : Int) (m : List S76) (p : Bool) (n b o kind : Int) (hp : ptr = 2 ∨ ptr = 4) (hm : memOK m = true) (ht : thereB m p n b o = true) (hk : 1 ≤ kind ∧ kind ≤ 7) :
    ∃ r : Bool × Int × Int × Int × Int, Ev (fun k => mem_Load.f k big ptr m p n b o kind) (r.1, r.2.1, r.2.2.1, r.2.2.2.1, r.2.2.2.2, 0) ∧ Ev (fun k => cellarref7_Load.f k big ptr m p n b o kind) r := by
  have hs := size_small ptr kind hp hk
  have ht' := ht
  unfold thereB mayS at ht'
  rw [if_pos rfl, Bool.and_eq_true, decide_eq_true_eq, decide_eq_true_eq] at ht'
  obtain ⟨⟨_, _, ⟨b0, _⟩, ⟨o0, o1⟩, _⟩, b1⟩ := ht'
  obtain ⟨w, hw, hr, h0⟩ := way_f big ptr m p n b o kind hp hk b0 b1 o0 o1
  have e : wrap64 (o + sizev ptr kind) = o + sizev ptr kind := w64 (by omega) (by omega)
  have hbm : ∀ x ∈ (rd_T76 m b).f1, isB x = true := by
    obtain ⟨i, rfl⟩ := Int.eq_ofNat_of_zero_le b0
    have hi : i < m.length := by omega
    rw [rd_getT m i hi]
    unfold memOK at hm
    rw [Bool.and_eq_true, List.all_eq_true] at hm
    have := hm.2 _ (List.getElem_mem hi)
    unfold blkOK at this
    rw [Bool.and_eq_true, List.all_eq_true] at this
    exact this.2
  have A : ∀ (r : Bool × Int × Int × Int × Int), Ev (fun k => mem_Take.f k big ptr m p n b o kind) r → Ev (fun k => mem_Load.f k big ptr m p n b o kind) (r.1, r.2.1, r.2.2.1, r.2.2.2.1, r.2.2.2.2, 0) := by
    intro r h
    unfold mem_Load.f
    refine Ev.bindS (asked_f big ptr m p n b o kind) (Ev.pos ?_ (Ev.bind h (Ev.now _)))
    rw [decide_eq_true hp, hm, ht, decide_eq_true hk]
    rfl
  by_cases w0 : w = 0
  · subst w0
    have h1 := h0 rfl
    have hlen : (((((rd_T76 m b).f1).take (o + sizev ptr kind).toNat).drop o.toNat).length : Int) = sizev ptr kind := by
      rw [List.length_drop, List.length_take]
      omega
    obtain ⟨r, hr1, hr2⟩ := read_get big ptr kind ((((rd_T76 m b).f1).take (o + sizev ptr kind).toNat).drop o.toNat) hp hk hlen (fun x hx => hbm x (List.mem_of_mem_take (List.mem_of_mem_drop hx)))
    refine ⟨r, A r ?_, ?_⟩
    · unfold mem_Take.f
      refine Ev.bindS hw (Ev.pos rfl (Ev.pos b0 (Ev.pos b1 (Ev.bindS (abytes big ptr kind hk) ?_))))
      rw [e]
      exact Ev.pos o0 (Ev.pos (by omega) (Ev.pos h1 (Ev.bind hr1 (Ev.now _))))
    · unfold cellarref7_Load.f
      refine Ev.bind (Ev.plus 2 hr) (Ev.pos rfl (Ev.pos b0 (Ev.pos b1 (Ev.bind (Ev.plus 2 fun k => rsize k big ptr kind hk) ?_))))
      rw [e]
      exact Ev.pos o0 (Ev.pos (by omega) (Ev.pos h1 (Ev.bind hr2 (Ev.now _))))
  · refine ⟨(false, 0, 0, 0, w), A _ ?_, ?_⟩
    · unfold mem_Take.f
      exact Ev.bindS hw (Ev.neg w0 (Ev.now _))
    · unfold cellarref7_Load.f
      exact Ev.bind (Ev.plus 2 hr) (Ev.neg w0 (Ev.now _))
theorem load_no (big : Bool) (ptr : Int) (m : List S76) (p : Bool) (n b o kind : Int) (h : ¬ (decide (ptr = 2 ∨ ptr = 4) && (memOK m && (thereB m p n b o && decide (1 ≤ kind ∧ kind ≤ 7)))) = true) :
    Ev (fun k => mem_Load.f k big ptr m p n b o kind) (false, 0, 0, 0, 0, 1) := by
  unfold mem_Load.f
  exact Ev.bindS (asked_f big ptr m p n b o kind) (Ev.neg h (Ev.now _))
theorem copy_ev (l : List S74) (hl : l.length < 3518437208883) : Ev (fun k => cellarref0_CopyBytes.f k l) l := by
  have key : ∀ i : Int, 0 ≤ i → i ≤ l.length → Ev (fun k => cellarref0_CopyBytes.l0 k l (l.take i.toNat) i) l := by
    refine down (Q := fun i => Ev (fun k => cellarref0_CopyBytes.l0 k l (l.take i.toNat) i) l) ?_ ?_
    · refine Ev.step (fun k => by rw [cellarref0_CopyBytes.l0]) ?_
      refine Ev.neg (by omega) (Ev.val ?_)
      rw [Int.toNat_natCast, List.take_length]
    intro i i0 i1 ih
    refine Ev.step (fun k => by rw [cellarref0_CopyBytes.l0]) ?_
    refine Ev.pos i1 (Ev.pos i0 ?_)
    refine Ev.pos (by rw [List.length_take]; omega) ?_
    obtain ⟨n, rfl⟩ := Int.eq_ofNat_of_zero_le i0
    have hn : n < l.length := by omega
    rw [show ((n : Int) + 1).toNat = n + 1 by omega] at ih
    rw [w64 (z := (n : Int) + 1) (by omega) (by omega), rd_get l n hn, Int.toNat_natCast, List.take_append_getElem hn]
    exact ih
  exact key 0 (by omega) (by omega)
theorem copy_blks (m : List S76) (hl : m.length < 4398046511104) (hb : ∀ b ∈ m, b.f1.length < 3518437208883) : Ev (fun k => cellarref0_CopyBlocks.f k m) m := by
  have key : ∀ i : Int, 0 ≤ i → i ≤ m.length → Ev (fun k => cellarref0_CopyBlocks.l0 k m (m.take i.toNat) i) m := by
    refine down (Q := fun i => Ev (fun k => cellarref0_CopyBlocks.l0 k m (m.take i.toNat) i) m) ?_ ?_
    · refine Ev.step (fun k => by rw [cellarref0_CopyBlocks.l0]) ?_
      refine Ev.neg (by omega) (Ev.val ?_)
      rw [Int.toNat_natCast, List.take_length]
    intro i i0 i1 ih
    obtain ⟨n, rfl⟩ := Int.eq_ofNat_of_zero_le i0
    have hn : n < m.length := by omega
    rw [show ((n : Int) + 1).toNat = n + 1 by omega] at ih
    refine Ev.step (fun k => by rw [cellarref0_CopyBlocks.l0]) ?_
    refine Ev.pos i1 (Ev.pos i0 ?_)
    rw [rd_getT m n hn, Int.toNat_natCast]
    have hcb : Ev (fun k => cellarref0_CopyBlock.f k m[n].f0 m[n].f1) (m[n].f0, m[n].f1) := by
      unfold cellarref0_CopyBlock.f
      exact Ev.bind (copy_ev _ (hb _ (List.getElem_mem hn))) (Ev.now _)
    refine Ev.bind hcb ?_
    refine Ev.pos (by rw [List.length_take]; omega) ?_
    rw [w64 (z := (n : Int) + 1) (by omega) (by omega), show m.take n ++ [(⟨(m[n].f0, m[n].f1).1, (m[n].f0, m[n].f1).2⟩ : S76)] = m.take (n + 1) from List.take_append_getElem hn]
    exact ih
  exact key 0 (by omega) (by omega)
theorem eqb_self (l : List S74) (hl : l.length < 3518437208883) : Ev (fun k => cellarref0_EqBytes.f k l l) true := by
  have key : ∀ i : Int, 0 ≤ i → i ≤ l.length → Ev (fun k => cellarref0_EqBytes.l0 k l l i) true := by
    refine down (Q := fun i => Ev (fun k => cellarref0_EqBytes.l0 k l l i) true) ?_ ?_
    · refine Ev.step (fun k => by rw [cellarref0_EqBytes.l0]) ?_
      exact Ev.neg (by omega) (Ev.now _)
    intro i i0 i1 ih
    refine Ev.step (fun k => by rw [cellarref0_EqBytes.l0]) ?_
    refine Ev.pos i1 (Ev.pos i0 (Ev.pos i1 (Ev.neg (by simp) ?_)))
    rw [w64 (z := i + 1) (by omega) (by omega)]
    exact ih
  unfold cellarref0_EqBytes.f
  exact Ev.pos rfl (key 0 (by omega) (by omega))
theorem eqs_self (m : List S76) (hl : m.length < 4398046511104) (hb : ∀ b ∈ m, b.f1.length < 3518437208883) : Ev (fun k => cellarref0_EqBlocks.f k m m) true := by
  have key : ∀ i : Int, 0 ≤ i → i ≤ m.length → Ev (fun k => cellarref0_EqBlocks.l0 k m m i) true := by
    refine down (Q := fun i => Ev (fun k => cellarref0_EqBlocks.l0 k m m i) true) ?_ ?_
    · refine Ev.step (fun k => by rw [cellarref0_EqBlocks.l0]) ?_
      exact Ev.neg (by omega) (Ev.now _)
    intro i i0 i1 ih
    obtain ⟨n, rfl⟩ := Int.eq_ofNat_of_zero_le i0
    have hn : n < m.length := by omega
    refine Ev.step (fun k => by rw [cellarref0_EqBlocks.l0]) ?_
    refine Ev.pos i1 (Ev.pos i0 (Ev.pos i1 ?_))
    rw [rd_getT m n hn]
    have heb : Ev (fun k => cellarref0_EqBlock.f k m[n].f0 m[n].f1 m[n].f0 m[n].f1) true := by
      unfold cellarref0_EqBlock.f
      exact Ev.pos rfl (Ev.bind (eqb_self _ (hb _ (List.getElem_mem hn))) (Ev.now _))
    refine Ev.bind heb (Ev.pos rfl ?_)
    rw [w64 (z := (n : Int) + 1) (by omega) (by omega)]
    exact ih
  unfold cellarref0_EqBlocks.f
  exact Ev.pos rfl (key 0 (by omega) (by omega))
theorem weight_ev (m : List S76) (hl : m.length < 4398046511104) (hb : ∀ b ∈ m, b.f1.length < 3518437208883) : ∃ r, Ev (fun k => cellarlaw0_BlocksWeight.f k m) r ∧ 0 ≤ r ∧ r ≤ 1000000000000000 := by
  have key : ∀ i : Int, 0 ≤ i → i ≤ m.length → ∀ x : Int, 0 ≤ x → x ≤ 1000000000000000 → ∃ r, Ev (fun k => cellarlaw0_BlocksWeight.l0 k m x i) r ∧ 0 ≤ r ∧ r ≤ 1000000000000000 := by
    refine down (Q := fun i => ∀ x : Int, 0 ≤ x → x ≤ 1000000000000000 → ∃ r, Ev (fun k => cellarlaw0_BlocksWeight.l0 k m x i) r ∧ 0 ≤ r ∧ r ≤ 1000000000000000) ?_ ?_
    · intro x x0 x1
      exact ⟨x, Ev.step (fun k => by rw [cellarlaw0_BlocksWeight.l0]) (Ev.neg (by omega) (Ev.now _)), x0, x1⟩
    intro i i0 i1 ih x x0 x1
    by_cases c : x < 1048576
    · obtain ⟨n, rfl⟩ := Int.eq_ofNat_of_zero_le i0
      have hn : n < m.length := by omega
      have h1 := hb _ (List.getElem_mem hn)
      obtain ⟨r, h, r0, r1⟩ := ih (x + (m[n].f1.length : Int)) (by omega) (by omega)
      refine ⟨r, Ev.step (fun k => by rw [cellarlaw0_BlocksWeight.l0]) (Ev.pos i1 (Ev.pos c (Ev.pos i0 ?_))), r0, r1⟩
      rw [rd_getT m n hn, w64 (z := (n : Int) + 1) (by omega) (by omega), w64 (z := x + (m[n].f1.length : Int)) (by omega) (by omega)]
      exact h
    · exact ⟨x, Ev.step (fun k => by rw [cellarlaw0_BlocksWeight.l0]) (Ev.pos i1 (Ev.neg c (Ev.now _))), x0, x1⟩
  exact key 0 (by omega) (by omega) _ (by omega) (by omega)
theorem rd_getL (l : List (List S76)) (i : Nat) (h : i < l.length) : rd_L4 l (i : Int) = l[i] := by
  unfold rd_L4
  simp [List.getD_eq_getElem?_getD, List.getElem?_eq_getElem h]
section
variable (M : List (List S76)) (S : List S62) (N : List Int) (A : List S29) (hM : M.length ≤ 140737488351232) (hMm : ∀ m ∈ M, m.length < 4398046511104 ∧ ∀ b ∈ m, b.f1.length < 3518437208883) (hS : S.length ≤ 4398046510976) (hN : N.length ≤ 140737488351232) (hA : A.length ≤ 8796093021952)
include hM hMm hS hN hA
theorem heavy_ev : ∃ b, Ev (fun k => cellarlaw9_Heavy.f k M S N A) b := by
  have key : ∀ i : Int, 0 ≤ i → i ≤ M.length → ∀ x : Int, 0 ≤ x → x ≤ 4000000000000000 → ∃ r, Ev (fun k => cellarlaw9_Heavy.l0 k x i M S N A) r := by
    refine down (Q := fun i => ∀ x : Int, 0 ≤ x → x ≤ 4000000000000000 → ∃ r, Ev (fun k => cellarlaw9_Heavy.l0 k x i M S N A) r) ?_ ?_
    · intro x x0 x1
      exact ⟨_, Ev.step (fun k => by rw [cellarlaw9_Heavy.l0]) (Ev.neg (by omega) (Ev.now _))⟩
    intro i i0 i1 ih x x0 x1
    by_cases c : x < 1048576
    · obtain ⟨n, rfl⟩ := Int.eq_ofNat_of_zero_le i0
      have hn : n < M.length := by omega
      have h1 := hMm _ (List.getElem_mem hn)
      obtain ⟨t, ht, t0, t1⟩ := weight_ev M[n] h1.1 h1.2
      obtain ⟨r, h⟩ := ih (x + t) (by omega) (by omega)
      refine ⟨r, Ev.step (fun k => by rw [cellarlaw9_Heavy.l0]) (Ev.pos i1 (Ev.pos c (Ev.pos i0 ?_)))⟩
      rw [rd_getL M n hn]
      refine Ev.bind ht ?_
      rw [w64 (z := (n : Int) + 1) (by omega) (by omega), w64 (z := x + t) (by omega) (by omega)]
      exact h
    · exact ⟨_, Ev.step (fun k => by rw [cellarlaw9_Heavy.l0]) (Ev.pos i1 (Ev.neg c (Ev.now _)))⟩
  unfold cellarlaw9_Heavy.f
  rw [w64 (z := (S.length : Int) + N.length) (by omega) (by omega), w64 (by omega) (by omega)]
  exact key 0 (by omega) (by omega) _ (by omega) (by omega)
theorem machines_of : ∃ ms, cellarlaw8_Machines.f A = some ms ∧ 1 ≤ ms.length ∧ ms.length ≤ 6 := by
  have _uhM := hM; have _uhMm := hMm; have _uhS := hS; have _uhN := hN
  unfold cellarlaw8_Machines.f
  rw [Option.bind_some, if_pos (by simp; omega), Option.bind_some]
  split
  · split
    · exact ⟨_, rfl, by rw [List.length_take]; simp; omega, by rw [List.length_take]; omega⟩
    · omega
  · exact ⟨_, rfl, by simp, by omega⟩
theorem ptrs_ev (m : List S76) : ∃ L, Ev (fun k => cellarlaw9_pointers.f k M S N A m) L ∧ L.length ≤ 40 := by
  have _uhM := hM; have _uhMm := hMm; have _uhN := hN; have _uhA := hA
  have key : ∀ i : Int, 1 ≤ i → i ≤ 7 → ∀ L : List S62, (L.length : Int) ≤ 4 + 3 * i → ∃ L', Ev (fun k => cellarlaw9_pointers.l0 k m L i M S N A) L' ∧ L'.length ≤ 40 := by
    refine down (Q := fun i => ∀ L : List S62, (L.length : Int) ≤ 4 + 3 * i → ∃ L', Ev (fun k => cellarlaw9_pointers.l0 k m L i M S N A) L' ∧ L'.length ≤ 40) ?_ ?_
    · intro L hL
      refine ⟨L, Ev.step (fun k => by rw [cellarlaw9_pointers.l0]) ?_, by omega⟩
      exact Ev.cond (fun _ => Ev.neg (by omega) (Ev.now _)) (fun _ => Ev.now _)
    intro i i0 i1 ih L hL
    by_cases c : i < (m.length : Int)
    · obtain ⟨L', h, hl⟩ := ih (L ++ ([(⟨true, 0, i, 0⟩ : S62), (⟨true, 0, i, mn (((rd_T76 m i).f1).length : Int) 32⟩ : S62), (⟨true, 0, i, Int.tmod (wrap64 ((wrap64 (i * 3)) + (N.length : Int))) 9⟩ : S62)] : List S62)) (by rw [List.length_append]; simp; omega)
      refine ⟨L', ?_, hl⟩
      refine Ev.step (fun k => by rw [cellarlaw9_pointers.l0]) ?_
      refine Ev.pos c (Ev.pos i1 (Ev.pos (by omega) (Ev.bindS rfl (Ev.pos ?_ ?_))))
      · show L.length + 3 < 4398046511104
        omega
      rw [w64 (z := i + 1) (by omega) (by omega)]
      exact h
    · exact ⟨L, Ev.step (fun k => by rw [cellarlaw9_pointers.l0]) (Ev.neg c (Ev.now _)), by omega⟩
  have J : ∀ L : List S62, L.length ≤ 7 → ∃ L', Ev (fun k => cellarlaw9_pointers.j0 k m L M S N A) L' ∧ L'.length ≤ 40 := by
    intro L hL
    obtain ⟨L', h, hl⟩ := key 1 (by omega) (by omega) L (by omega)
    exact ⟨L', Ev.step (fun k => by rw [cellarlaw9_pointers.j0]) h, hl⟩
  unfold cellarlaw9_pointers.f
  by_cases c : ((([(⟨true, 0, 0, 0⟩ : S62), (⟨true, 0, 50, 0⟩ : S62)] : List S62) ++ S).length : Int) > 7
  · obtain ⟨L', h, hl⟩ := J ((([(⟨true, 0, 0, 0⟩ : S62), (⟨true, 0, 50, 0⟩ : S62)] : List S62) ++ S).take (7 : Int).toNat) (by rw [List.length_take]; omega)
    refine ⟨L', ?_, hl⟩
    refine Ev.bindS rfl (Ev.pos ?_ (Ev.bindS rfl (Ev.pos c (Ev.pos (by omega) h))))
    show 2 + S.length < 4398046511104
    omega
  · obtain ⟨L', h, hl⟩ := J (([(⟨true, 0, 0, 0⟩ : S62), (⟨true, 0, 50, 0⟩ : S62)] : List S62) ++ S) (by omega)
    refine ⟨L', ?_, hl⟩
    refine Ev.bindS rfl (Ev.pos ?_ (Ev.bindS rfl (Ev.neg c h)))
    show 2 + S.length < 4398046511104
    omega
omit hM hMm hS hN hA
variable (ms : List S29) (h1 : 1 ≤ ms.length) (h6 : ms.length ≤ 6)
include h1 h6
theorem kinds_ev (m : List S76) (ps : List S62) (hps : ps.length ≤ 40) (i x : Int) (x0 : 0 ≤ x) (x1 : x < (ps.length : Int)) (nx : Ev (fun k => cellarlaw9_MemLoads.l1 k ms i m (memOK m) ps (x + 1) M S N A) true) :
    ∀ kind : Int, 0 ≤ kind → kind ≤ 12 → Ev (fun k => cellarlaw9_MemLoads.l2 k ms i m (memOK m) ps x kind M S N A) true := by
  refine down (Q := fun kind => Ev (fun k => cellarlaw9_MemLoads.l2 k ms i m (memOK m) ps x kind M S N A) true) ?_ ?_
  · refine Ev.step (fun k => by rw [cellarlaw9_MemLoads.l2]) ?_
    refine Ev.neg (by omega) ?_
    rw [w64 (z := x + 1) (by omega) (by omega)]
    exact nx
  intro kind k0 k1 ih
  have J6 : Ev (fun k => cellarlaw9_MemLoads.j6 k ms i m (memOK m) ps x kind false M S N A) true := by
    refine Ev.step (fun k => by rw [cellarlaw9_MemLoads.j6]) ?_
    refine Ev.neg (by decide) ?_
    rw [w64 (z := kind + 1) (by omega) (by omega)]
    exact ih
  have J5 : ∀ (bad e : Int) (a : Bool) (b c d : Int), Ev (fun k => cellarlaw9_MemLoads.j5 k ms i m (memOK m) ps x kind bad e e bad M S N A a b c d a b c d) true := by
    intro bad e a b c d
    refine Ev.step (fun k => by rw [cellarlaw9_MemLoads.j5]) ?_
    refine Ev.bindS rfl (Ev.pos rfl (Ev.neg (by simp) ?_))
    rw [bne_self_eq_false]
    exact J6
  have t0 : 0 ≤ Int.tmod (wrap64 (x + kind)) (ms.length : Int) := Int.tmod_nonneg _ (by rw [w64 (by omega) (by omega)]; omega)
  have t1 : Int.tmod (wrap64 (x + kind)) (ms.length : Int) < (ms.length : Int) := Int.tmod_lt_of_pos _ (by omega)
  refine Ev.step (fun k => by rw [cellarlaw9_MemLoads.l2]) ?_
  refine Ev.pos (by omega) (Ev.neg (by omega) (Ev.pos t0 (Ev.pos t1 (Ev.pos x0 (Ev.pos x1 ?_)))))
  generalize rd_T29 ms (Int.tmod (wrap64 (x + kind)) (ms.length : Int)) = q
  generalize hs : rd_T62 ps x = s
  -- refused
  have No : ∀ big ptr, Ev (fun k => cellarlaw9_MemLoads.j4 k ms i m (memOK m) ps x kind 0 1 1 0 false M S N A big ptr false 0 0 0 false 0 0 0) true := by
    intro big ptr
    refine Ev.step (fun k => by rw [cellarlaw9_MemLoads.j4]) ?_
    exact Ev.neg (by decide) (J5 0 1 false 0 0 0)
  by_cases hm : memOK m = true
  case neg =>
    have hmf : memOK m = false := by simpa using hm
    refine Ev.bind (load_no q.f0 q.f1 m s.f0 s.f1 s.f2 s.f3 kind (by rw [hmf]; simp)) (Ev.neg hm ?_)
    exact No _ _
  by_cases hp : q.f1 = 2 ∨ q.f1 = 4
  case neg =>
    refine Ev.bind (load_no q.f0 q.f1 m s.f0 s.f1 s.f2 s.f3 kind (by rw [decide_eq_false hp]; simp)) (Ev.pos hm (Ev.bindS (rabi _ _) (Ev.neg (by simpa using hp) ?_)))
    exact No _ _
  have hkf : cellarref1_Kind.f kind = some (decide (1 ≤ kind ∧ kind ≤ 7)) := by unfold cellarref1_Kind.f; rw [btw, Option.bind_some]
  by_cases hk : 1 ≤ kind ∧ kind ≤ 7
  case neg =>
    refine Ev.bind (load_no q.f0 q.f1 m s.f0 s.f1 s.f2 s.f3 kind (by rw [decide_eq_false hk]; simp)) (Ev.pos hm (Ev.bindS (rabi _ _) (Ev.pos (decide_eq_true hp) (Ev.bindS hkf (Ev.neg (by simpa using hk) ?_)))))
    exact No _ _
  by_cases ht : thereB m s.f0 s.f1 s.f2 s.f3 = true
  case neg =>
    have htf : thereB m s.f0 s.f1 s.f2 s.f3 = false := by simpa using ht
    refine Ev.bind (load_no q.f0 q.f1 m s.f0 s.f1 s.f2 s.f3 kind (by rw [htf]; simp)) (Ev.pos hm (Ev.bindS (rabi _ _) (Ev.pos (decide_eq_true hp) (Ev.bindS hkf (Ev.pos (decide_eq_true hk) (Ev.bind (ref_ptr m _ _ _ _) ?_))))))
    rw [htf]
    exact No _ _
  obtain ⟨r, hr1, hr2⟩ := load_ev q.f0 q.f1 m s.f0 s.f1 s.f2 s.f3 kind hp hm ht hk
  refine Ev.bind hr1 (Ev.pos hm (Ev.bindS (rabi _ _) (Ev.pos (decide_eq_true hp) (Ev.bindS hkf (Ev.pos (decide_eq_true hk) (Ev.bind (ref_ptr m _ _ _ _) ?_))))))
  rw [ht]
  refine Ev.step (fun k => by rw [cellarlaw9_MemLoads.j4]) ?_
  refine Ev.pos rfl (Ev.pos x0 (Ev.pos x1 ?_))
  rw [hs]
  exact Ev.bind hr2 (J5 r.2.2.2.2 0 r.1 r.2.1 r.2.2.1 r.2.2.2.1)
theorem wakes_ev : Ev (fun k => cellarlaw9_wakes.f k) true := by
  have _uh1 := h1; have _uh6 := h6
  refine Ev.plus 30 fun k => ?_
  kernel_rfl
include hM hMm hS hN hA
theorem all_ev : ∀ i : Int, 0 ≤ i → i ≤ M.length → Ev (fun k => cellarlaw9_MemLoads.l0 k ms i M S N A) true := by
  have fin : ∀ i, Ev (fun k => cellarlaw9_MemLoads.j1 k ms i false M S N A) true := by
    intro i
    refine Ev.step (fun k => by rw [cellarlaw9_MemLoads.j1]) ?_
    exact Ev.neg (by decide) (Ev.bind (wakes_ev ms h1 h6) (Ev.now _))
  refine down (Q := fun i => Ev (fun k => cellarlaw9_MemLoads.l0 k ms i M S N A) true) ?_ ?_
  · exact Ev.step (fun k => by rw [cellarlaw9_MemLoads.l0]) (Ev.neg (by omega) (fin _))
  intro i i0 i1 ih
  refine Ev.step (fun k => by rw [cellarlaw9_MemLoads.l0]) ?_
  refine Ev.pos i1 ?_
  by_cases c : i < 5
  case neg =>
    rw [decide_eq_false c]
    exact fin _
  rw [decide_eq_true c]
  obtain ⟨n, rfl⟩ := Int.eq_ofNat_of_zero_le i0
  have hn : n < M.length := by omega
  have hb := hMm _ (List.getElem_mem hn)
  have hm : rd_L4 M (n : Int) = M[n] := rd_getL M n hn
  generalize M[n] = m at hb hm
  obtain ⟨ps, hps, hpl⟩ := ptrs_ev M S N A hM hMm hS hN hA m
  refine Ev.step (fun k => by rw [cellarlaw9_MemLoads.j1]) ?_
  refine Ev.pos rfl (Ev.pos i0 (Ev.pos i1 ?_))
  rw [hm]
  refine Ev.bind (copy_blks m hb.1 hb.2) (Ev.bind (ref_mem m (by omega)) (Ev.bindS (check_m m) (Ev.bindS rfl (Ev.neg ?_ (Ev.bind hps ?_)))))
  · cases memOK m <;> decide
  have L1 : ∀ x : Int, 0 ≤ x → x ≤ ps.length → Ev (fun k => cellarlaw9_MemLoads.l1 k ms n m (memOK m) ps x M S N A) true := by
    refine down (Q := fun x => Ev (fun k => cellarlaw9_MemLoads.l1 k ms n m (memOK m) ps x M S N A) true) ?_ ?_
    · refine Ev.step (fun k => by rw [cellarlaw9_MemLoads.l1]) (Ev.neg (by omega) (Ev.pos i0 (Ev.pos i1 ?_)))
      rw [hm]
      refine Ev.bind (eqs_self m hb.1 hb.2) (Ev.pos rfl ?_)
      rw [w64 (z := (n : Int) + 1) (by omega) (by omega)]
      exact ih
    intro x x0 x1 ihx
    refine Ev.step (fun k => by rw [cellarlaw9_MemLoads.l1]) ?_
    refine Ev.pos x1 ?_
    exact kinds_ev M S N A ms h1 h6 m ps hpl n x x0 x1 ihx 0 (by omega) (by omega)
  exact L1 0 (by omega) (by omega)
end
theorem loads_true (M : List (List S76)) (S : List S62) (N : List Int) (A : List S29) (hM : M.length ≤ 140737488351232) (hMm : ∀ m ∈ M, m.length < 4398046511104 ∧ ∀ b ∈ m, b.f1.length < 3518437208883) (hS : S.length ≤ 4398046510976) (hN : N.length ≤ 140737488351232) (hA : A.length ≤ 8796093021952) :
    Ev (fun k => cellarlaw9_MemLoads.f k M S N A) true := by
  unfold cellarlaw9_MemLoads.f
  obtain ⟨b, hb⟩ := heavy_ev M S N A hM hMm hS hN hA
  refine Ev.bind hb ?_
  cases b with
  | true => exact Ev.pos rfl (Ev.now _)
  | false =>
    refine Ev.neg (by decide) ?_
    obtain ⟨ms, hms, h1, h6⟩ := machines_of M S N A hM hMm hS hN hA
    exact Ev.bindS hms (all_ev M S N A hM hMm hS hN hA ms h1 h6 0 (by omega) (by omega))
end Go.Proofs.Ytjoplkillkhiaaa.D
