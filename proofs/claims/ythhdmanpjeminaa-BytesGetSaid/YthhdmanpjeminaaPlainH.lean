/- Bytes as scalars: what the program's bytes tells of any bytes is what the reference tells. No Go and no memory in it. -/
import Derived.Test.YthhdmanpjeminaaHx13
import Derived.Test.YthhdmanpjeminaaFn
import Derived.Test.YthhdmanpjeminaaVMore
import Derived.Test.YthhdmanpjeminaaEvs
namespace Go.Proofs.Ythhdmanpjeminaa.H
open Go.RowKit Go.Proofs.Ythhdmanpjeminaa.Fn Go.Proofs.YthhdmanpjeminaaW.PrintWords Go.Proofs.YthhdmanpjeminaaW.PrintLast Go.Proofs.YthhdmanpjeminaaW.PrintMore Go.Proofs.Ythhdmanpjeminaa.Evs
set_option linter.unusedVariables false
set_option linter.unusedSimpArgs false
theorem mask_nat (n : Int) (j : Nat) : ((BitVec.ofInt 64 n).toNat &&& (2 ^ j - 1) : Nat) = (n % 18446744073709551616).toNat % 2 ^ j := by
  rw [Nat.and_two_pow_sub_one_eq_mod, BitVec.toNat_ofInt]
  rfl
theorem mask_i64 (n : Int) (j : Nat) (m : Nat) (hm : m = 2 ^ j - 1) (hj : j ≤ 32) : Go.bits .and .i64 n (m : Int) = (((n % 18446744073709551616).toNat % 2 ^ j : Nat) : Int) := by
  have hp : 2 ^ j ≤ 2 ^ 32 := Nat.pow_le_pow_right (by decide) hj
  have h0 : 0 < 2 ^ j := Nat.two_pow_pos j
  have h1 : (n % 18446744073709551616).toNat % 2 ^ j < 2 ^ 32 := Nat.lt_of_lt_of_le (Nat.mod_lt _ h0) hp
  have e : (BitVec.ofInt 64 (m : Int)).toNat = m := by
    rw [BitVec.ofInt_natCast, BitVec.toNat_ofNat]
    exact Nat.mod_eq_of_lt (by omega)
  show IntKind.i64.wrap ((BitVec.ofInt 64 n &&& BitVec.ofInt 64 (m : Int)).toNat : Int) = _
  rw [BitVec.toNat_and, e, hm, mask_nat, IntKind.wrap_i64]
  omega
theorem mask8 (n : Int) : Go.bits .and .i64 n 255 = n % 256 := by
  have h := mask_i64 n 8 255 (by decide) (by decide)
  have e : ((255 : Nat) : Int) = 255 := rfl
  rw [e] at h
  rw [h]
  omega
theorem mask16 (n : Int) : Go.bits .and .i64 n 65535 = n % 65536 := by
  have h := mask_i64 n 16 65535 (by decide) (by decide)
  have e : ((65535 : Nat) : Int) = 65535 := rfl
  rw [e] at h
  rw [h]
  omega
theorem mask32 (n : Int) : Go.bits .and .i64 n 4294967295 = n % 4294967296 := by
  have h := mask_i64 n 32 4294967295 (by decide) (by decide)
  have e : ((4294967295 : Nat) : Int) = 4294967295 := rfl
  rw [e] at h
  rw [h]
  omega
/-- What is known of a kind of numbers: its width w, half of its numbers h, all of them P, its bytes b. -/
structure KD (kind w h P b : Int) : Prop where
  of : word_Of.f kind = some w
  wd : ∀ k, cellarref1_Width.f (k + 2) kind = some w
  isk : word_IsKind.f kind = some true
  w1 : 8 ≤ w
  w2 : w ≤ 32
  s1 : shl .i64 1 w = P
  s2 : shl .i64 1 (w - 1) = h
  PP : P = 2 * h
  h1 : 128 ≤ h
  h2 : h ≤ 2147483648
  msk : ∀ n, Go.bits .and .i64 n (P - 1) = n % P
  wb : wrap64 (Int.tdiv w 8) = b
  bb : (b = 1 ∧ P = 256) ∨ (b = 2 ∧ P = 65536) ∨ (b = 4 ∧ P = 4294967296)
  k7 : 1 ≤ kind ∧ kind ≤ 6
theorem kd_of (kind : Int) (h0 : 1 ≤ kind) (h1 : kind ≤ 6) : ∃ w h P b, KD kind w h P b := by
  have : kind = 1 ∨ kind = 2 ∨ kind = 3 ∨ kind = 4 ∨ kind = 5 ∨ kind = 6 := by omega
  rcases this with rfl | rfl | rfl | rfl | rfl | rfl
  · exact ⟨8, 128, 256, 1, by decide +kernel, fun k => rfl, by decide +kernel, by decide, by decide, by decide +kernel, by decide +kernel, by decide, by decide, by decide, mask8, by decide +kernel, .inl ⟨rfl, rfl⟩, by decide⟩
  · exact ⟨8, 128, 256, 1, by decide +kernel, fun k => rfl, by decide +kernel, by decide, by decide, by decide +kernel, by decide +kernel, by decide, by decide, by decide, mask8, by decide +kernel, .inl ⟨rfl, rfl⟩, by decide⟩
  · exact ⟨16, 32768, 65536, 2, by decide +kernel, fun k => rfl, by decide +kernel, by decide, by decide, by decide +kernel, by decide +kernel, by decide, by decide, by decide, mask16, by decide +kernel, .inr (.inl ⟨rfl, rfl⟩), by decide⟩
  · exact ⟨16, 32768, 65536, 2, by decide +kernel, fun k => rfl, by decide +kernel, by decide, by decide, by decide +kernel, by decide +kernel, by decide, by decide, by decide, mask16, by decide +kernel, .inr (.inl ⟨rfl, rfl⟩), by decide⟩
  · exact ⟨32, 2147483648, 4294967296, 4, by decide +kernel, fun k => rfl, by decide +kernel, by decide, by decide, by decide +kernel, by decide +kernel, by decide, by decide, by decide, mask32, by decide +kernel, .inr (.inr ⟨rfl, rfl⟩), by decide⟩
  · exact ⟨32, 2147483648, 4294967296, 4, by decide +kernel, fun k => rfl, by decide +kernel, by decide, by decide, by decide +kernel, by decide +kernel, by decide, by decide, by decide, mask32, by decide +kernel, .inr (.inr ⟨rfl, rfl⟩), by decide⟩
theorem no_kind (kind : Int) (h : kind < 1 ∨ 6 < kind) (k : Nat) : cellarref1_Width.f (k + 2) kind = some 0 := by
  unfold cellarref1_Width.f
  rw [if_neg (by omega)]
  simp only [cellarref1_Width.j0]
  rw [if_neg (by simp; omega), if_neg (by omega)]
  simp only [cellarref1_Width.j1]
  rw [if_neg (by simp; omega), if_neg (by omega), if_neg (by omega)]
section
variable {kind w h P b : Int} (K : KD kind w h P b)
include K
theorem KD.pm : wrap64 (P - 1) = P - 1 := by have := K.PP; have := K.h1; have := K.h2; exact w64 (by omega) (by omega)
theorem KD.w0 : 0 ≤ w := by have := K.w1; omega
theorem KD.number (n : Int) : cellarref1_Number.f n w = some (decide (0 ≤ n ∧ n < P)) := by
  unfold cellarref1_Number.f cellarref0_Num.f
  rw [if_pos K.w0, K.s1, K.pm]
  by_cases hn : n ≥ 0
  · rw [if_pos hn, Option.bind_some]
    congr 1
    rw [decide_eq_decide]
    omega
  · rw [if_neg hn, Option.bind_some]
    congr 1
    symm
    rw [decide_eq_false_iff_not]
    omega
end
theorem amay (b : Bool) (p : Int) : word_May.f b p = some (decide (p = 2 ∨ p = 4)) := by
  unfold word_May.f
  by_cases c : p = 2
  · simp [c]
  · by_cases d : p = 4
    · simp [d]
    · simp [c, d]
theorem rabi (b : Bool) (p : Int) : cellarref1_Abi.f b p = some (decide (p = 2 ∨ p = 4)) := amay b p
theorem num_le (n m : Int) : cellarref0_Num.f n m = some (decide (0 ≤ n ∧ n ≤ m)) := by
  unfold cellarref0_Num.f
  by_cases c : n ≥ 0
  · rw [if_pos c]
    congr 1
    rw [decide_eq_decide]
    omega
  · rw [if_neg c]
    congr 1
    symm
    rw [decide_eq_false_iff_not]
    omega
theorem up_le (n m : Int) : bytes_up.f n m = some (decide (0 ≤ n ∧ n ≤ m)) := num_le n m
theorem btw (n a m : Int) : cellarref0_Between.f n a m = some (decide (a ≤ n ∧ n ≤ m)) := by
  unfold cellarref0_Between.f
  by_cases c : n ≥ a
  · rw [if_pos c]
    congr 1
    rw [decide_eq_decide]
    omega
  · rw [if_neg c]
    congr 1
    symm
    rw [decide_eq_false_iff_not]
    omega
theorem ascalar (kind : Int) : word_IsScalar.f kind = some (decide (1 ≤ kind ∧ kind ≤ 7)) := btw kind 1 7
/-- How many bytes a scalar has. -/
def sizev (p kind : Int) : Int := if kind = 7 then p else wrap64 (Int.tdiv ((word_Of.f kind).getD 0) 8)
theorem rsize (k : Nat) (b : Bool) (p kind : Int) (h : 1 ≤ kind ∧ kind ≤ 7) : cellarref1_Size.f (k + 2) b p kind = some (sizev p kind) := by
  unfold cellarref1_Size.f sizev
  by_cases c : kind = 7
  · rw [if_pos c, if_pos c]
  · obtain ⟨w, hh, P, s, K⟩ := kd_of kind (by omega) (by omega)
    rw [if_neg c, if_neg c, K.wd, K.of]
    rfl
theorem abytes (b : Bool) (p kind : Int) (h : 1 ≤ kind ∧ kind ≤ 7) : word_Bytes.f b p kind = some (sizev p kind) := by
  unfold word_Bytes.f sizev
  by_cases e : kind = 7
  · rw [if_pos e, if_pos e]
  · obtain ⟨w, hh, P, s, K⟩ := kd_of kind (by omega) (by omega)
    rw [if_neg e, if_neg e, K.of]
    rfl
theorem size_small (p kind : Int) (hp : p = 2 ∨ p = 4) (h : 1 ≤ kind ∧ kind ≤ 7) : sizev p kind = 1 ∨ sizev p kind = 2 ∨ sizev p kind = 4 := by
  unfold sizev
  by_cases e : kind = 7
  · rw [if_pos e]
    omega
  · obtain ⟨w, hh, P, s, K⟩ := kd_of kind (by omega) (by omega)
    rw [if_neg e, K.of]
    show wrap64 (Int.tdiv w 8) = 1 ∨ wrap64 (Int.tdiv w 8) = 2 ∨ wrap64 (Int.tdiv w 8) = 4
    rw [K.wb]
    rcases K.bb with ⟨h, _⟩ | ⟨h, _⟩ | ⟨h, _⟩ <;> simp [h]
def isB (x : S51) : Bool := decide ((x.f0 = 0 ∧ x.f1 = 0 ∧ x.f2 = 0 ∧ x.f3 = 0 ∧ x.f4 = 0) ∨ (x.f0 = 1 ∧ (0 ≤ x.f1 ∧ x.f1 ≤ 255) ∧ x.f2 = 0 ∧ x.f3 = 0 ∧ x.f4 = 0) ∨ (x.f0 = 2 ∧ x.f1 = 0 ∧ (1 ≤ x.f2 ∧ x.f2 ≤ 32) ∧ (0 ≤ x.f3 ∧ x.f3 ≤ 32) ∧ 0 ≤ x.f4 ∧ x.f4 ≤ 3))
theorem is_b (x : S51) : bytes_Is.f x.f0 x.f1 x.f2 x.f3 x.f4 = some (isB x) := by
  unfold bytes_Is.f isB
  simp only [up_le, Option.bind_some]
  by_cases h0 : x.f0 = 0
  · rw [if_pos h0]
    congr 1
    rw [Bool.eq_iff_iff]
    simp [h0]
  · rw [if_neg h0]
    by_cases h1 : x.f0 = 1
    · rw [if_pos h1]
      by_cases c : 0 ≤ x.f1 ∧ x.f1 ≤ 255
      · rw [if_pos (decide_eq_true c)]
        congr 1
        rw [Bool.eq_iff_iff]
        simp [h1, c]
      · rw [if_neg (by simpa using c)]
        congr 1
        symm
        rw [decide_eq_false_iff_not]
        omega
    · rw [if_neg h1]
      by_cases h2 : x.f0 = 2
      · rw [if_pos h2]
        by_cases c1 : x.f1 = 0
        · rw [if_pos c1]
          by_cases c2 : x.f2 ≥ 1
          · rw [if_pos c2]
            by_cases c3 : x.f2 ≤ 32
            · rw [if_pos c3]
              by_cases c4 : 0 ≤ x.f3 ∧ x.f3 ≤ 32
              · rw [if_pos (decide_eq_true c4)]
                congr 1
                rw [decide_eq_decide]
                omega
              · rw [if_neg (by simpa using c4)]
                congr 1
                symm
                rw [decide_eq_false_iff_not]
                omega
            · rw [if_neg c3]
              congr 1
              symm
              rw [decide_eq_false_iff_not]
              omega
          · rw [if_neg c2]
            congr 1
            symm
            rw [decide_eq_false_iff_not]
            omega
        · rw [if_neg c1]
          congr 1
          symm
          rw [decide_eq_false_iff_not]
          omega
      · rw [if_neg h2]
        congr 1
        symm
        rw [decide_eq_false_iff_not]
        omega
def mayS (kind : Int) (p : Bool) (n b o : Int) : Bool :=
  if kind = 7 then decide (p = true ∧ n = 0 ∧ (0 ≤ b ∧ b ≤ 32) ∧ (0 ≤ o ∧ o ≤ 32) ∧ (0 < b ∨ o = 0))
  else decide ((1 ≤ kind ∧ kind ≤ 6) ∧ p = false ∧ (0 ≤ n ∧ n < shl .i64 1 ((word_Of.f kind).getD 0)) ∧ b = 0 ∧ o = 0)
theorem set_mid {α : Type} (A B : List α) (z v : α) (i : Nat) (h : A.length = i) : (A ++ z :: B).set i v = A ++ v :: B := by
  subst h
  rw [List.set_append_right _ _ (Nat.le_refl _), Nat.sub_self]
  rfl
/-- The first i of n are told by g, the others are nothing yet. -/
def fillL (g : Nat → S51) (i n : Nat) : List S51 := (List.range i).map g ++ List.replicate (n - i) z51
theorem fill_len (g : Nat → S51) (i n : Nat) (h : i ≤ n) : (fillL g i n).length = n := by simp [fillL]; omega
theorem fill_set (g : Nat → S51) (i n : Nat) (h : i < n) : (fillL g i n).set i (g i) = fillL g (i + 1) n := by
  unfold fillL
  rw [show n - i = (n - (i + 1)) + 1 by omega, List.replicate_succ, set_mid _ _ _ _ _ (by simp), List.range_succ, List.map_append, List.append_assoc]
  rfl
theorem fill_all (g : Nat → S51) (n : Nat) : fillL g n n = (List.range n).map g := by simp [fillL]
theorem fill_none (g : Nat → S51) (n : Nat) : fillL g 0 n = List.replicate n z51 := by simp [fillL]
theorem rd_get (l : List S51) (i : Nat) (h : i < l.length) : rd_T51 l (i : Int) = l[i] := by
  unfold rd_T51
  simp [List.getD_eq_getElem?_getD, List.getElem?_eq_getElem h]
theorem ne_b (x : S51) (a b c d e : Int) : (!(x.f0 == a) || (!(x.f1 == b) || (!(x.f2 == c) || (!(x.f3 == d) || (!(x.f4 == e)))))) = true ↔ ¬ x = ⟨a, b, c, d, e⟩ := by
  obtain ⟨x0, x1, x2, x3, x4⟩ := x
  simp only [S51.mk.injEq, Bool.or_eq_true, Bool.not_eq_true', beq_eq_false_iff_ne, ne_eq]
  constructor
  · rintro h ⟨h0, h1, h2, h3, h4⟩
    rcases h with h | h | h | h | h
    · exact h h0
    · exact h h1
    · exact h h2
    · exact h h3
    · exact h h4
  · intro h
    by_cases h0 : x0 = a
    · by_cases h1 : x1 = b
      · by_cases h2 : x2 = c
        · by_cases h3 : x3 = d
          · exact .inr (.inr (.inr (.inr fun h4 => h ⟨h0, h1, h2, h3, h4⟩)))
          · exact .inr (.inr (.inr (.inl h3)))
        · exact .inr (.inr (.inl h2))
      · exact .inr (.inl h1)
    · exact .inl h0
theorem eq_ev (l m : List S51) (hl : l.length ≤ 1000000) : (l = m → Ev (fun k => cellarref0_EqBytes.f k l m) true) ∧ (¬ l = m → Ev (fun k => cellarref0_EqBytes.f k l m) false) := by
  unfold cellarref0_EqBytes.f
  by_cases hlen : l.length = m.length
  · have key : ∀ i : Int, 0 ≤ i → i ≤ l.length → (l.drop i.toNat = m.drop i.toNat → Ev (fun k => cellarref0_EqBytes.l0 k l m i) true) ∧ (¬ l.drop i.toNat = m.drop i.toNat → Ev (fun k => cellarref0_EqBytes.l0 k l m i) false) := by
      refine down (Q := fun i => (l.drop i.toNat = m.drop i.toNat → Ev (fun k => cellarref0_EqBytes.l0 k l m i) true) ∧ (¬ l.drop i.toNat = m.drop i.toNat → Ev (fun k => cellarref0_EqBytes.l0 k l m i) false)) ?_ ?_
      · refine ⟨fun _ => ?_, fun h => absurd ?_ h⟩
        · refine Ev.step (fun k => by rw [cellarref0_EqBytes.l0]) ?_
          exact Ev.neg (by omega) (Ev.now _)
        · rw [Int.toNat_natCast, List.drop_length, hlen, List.drop_length]
      intro i i0 i1 ih
      obtain ⟨n, rfl⟩ := Int.eq_ofNat_of_zero_le i0
      have hn : n < l.length := by omega
      have hm : n < m.length := by omega
      rw [show ((n : Int) + 1).toNat = n + 1 by omega] at ih
      rw [Int.toNat_natCast, List.drop_eq_getElem_cons hn, List.drop_eq_getElem_cons hm]
      have step : ∀ r, (l[n] = m[n] → Ev (fun k => cellarref0_EqBytes.l0 k l m ((n : Int) + 1)) r) → (¬ l[n] = m[n] → r = false) → Ev (fun k => cellarref0_EqBytes.l0 k l m (n : Int)) r := by
        intro r h1 h2
        refine Ev.step (fun k => by rw [cellarref0_EqBytes.l0]) ?_
        refine Ev.pos i1 (Ev.pos i0 ?_)
        refine Ev.pos (by omega) ?_
        rw [rd_get l n hn, rd_get m n hm]
        by_cases e : l[n] = m[n]
        · refine Ev.neg (fun h => (ne_b _ _ _ _ _ _).1 h e) ?_
          rw [w64 (z := (n : Int) + 1) (by omega) (by omega)]
          exact h1 e
        · refine Ev.pos ((ne_b _ _ _ _ _ _).2 e) ?_
          rw [h2 e]
          exact Ev.now _
      refine ⟨fun h => ?_, fun h => ?_⟩
      · injection h with ha hb
        exact step true (fun _ => ih.1 hb) (fun h => absurd ha h)
      · refine step false (fun e => ih.2 (fun hb => h (by rw [e, hb]))) (fun _ => rfl)
    have k0 := key 0 (by omega) (by omega)
    exact ⟨fun h => Ev.pos (by omega) (k0.1 (by simpa using h)), fun h => Ev.pos (by omega) (k0.2 (by simpa using h))⟩
  · exact ⟨fun h => absurd (by rw [h]) hlen, fun _ => Ev.neg (by omega) (Ev.now _)⟩
def bt8 (n k : Int) : Int := Go.bits .and .i64 (shr .i64 n (wrap64 (8 * k))) 255
/-- A scalar's bytes. -/
def putL (big : Bool) (sz : Nat) (p : Bool) (n b o : Int) : List S51 :=
  (List.range sz).map fun (i : Nat) => if p = true then (if b > 0 then ⟨2, 0, b, o, (i : Int)⟩ else ⟨1, 0, 0, 0, 0⟩) else ⟨1, bt8 n (if big = true then Int.ofNat (sz - 1 - i) else (i : Int)), 0, 0, 0⟩
theorem put_of (kind : Int) (p : Bool) (n b o : Int) (h : mayS kind p n b o = true) : (kind = 7 ∧ p = true ∧ n = 0 ∧ 0 ≤ b ∧ b ≤ 32 ∧ 0 ≤ o ∧ o ≤ 32 ∧ (0 < b ∨ o = 0)) ∨ ((1 ≤ kind ∧ kind ≤ 6) ∧ p = false ∧ b = 0 ∧ o = 0 ∧ ∃ w hh P c, KD kind w hh P c ∧ 0 ≤ n ∧ n < P) := by
  unfold mayS at h
  by_cases e : kind = 7
  · rw [if_pos e, decide_eq_true_eq] at h
    exact .inl ⟨e, h.1, h.2.1, h.2.2.1.1, h.2.2.1.2, h.2.2.2.1.1, h.2.2.2.1.2, h.2.2.2.2⟩
  · rw [if_neg e, decide_eq_true_eq] at h
    obtain ⟨hk, hp, hn, hb, ho⟩ := h
    obtain ⟨w, hh, P, c, K⟩ := kd_of kind hk.1 hk.2
    rw [K.of, Option.getD_some, K.s1] at hn
    exact .inr ⟨hk, hp, hb, ho, w, hh, P, c, K, hn⟩
theorem put_len (big : Bool) (sz : Nat) (p : Bool) (n b o : Int) : (putL big sz p n b o).length = sz := by simp [putL]
theorem rput_ev (big : Bool) (ptr kind : Int) (p : Bool) (n b o : Int) (hp : ptr = 2 ∨ ptr = 4) (h : mayS kind p n b o = true) :
    Ev (fun k => cellarref7_Put.f k big ptr kind p n b o) (putL big (sizev ptr kind).toNat p n b o) := by
  have hk : 1 ≤ kind ∧ kind ≤ 7 := by rcases put_of kind p n b o h with ⟨e, _⟩ | ⟨e, _⟩ <;> omega
  have hs := size_small ptr kind hp hk
  unfold cellarref7_Put.f
  refine Ev.bind (Ev.plus 2 fun k => rsize k big ptr kind hk) ?_
  generalize sizev ptr kind = sz at hs ⊢
  obtain ⟨m, rfl⟩ : ∃ m : Nat, sz = m := ⟨sz.toNat, by omega⟩
  rw [Int.toNat_natCast]
  refine Ev.pos (by omega) (Ev.pos (by omega) ?_)
  have key : ∀ g : Nat → S51, putL big m p n b o = (List.range m).map g → (∀ i : Nat, g i = if p = true then (if b > 0 then ⟨2, 0, b, o, (i : Int)⟩ else ⟨1, 0, 0, 0, 0⟩) else ⟨1, bt8 n (if big = true then Int.ofNat (m - 1 - i) else (i : Int)), 0, 0, 0⟩) →
      Ev (fun k => cellarref7_Put.l0 k m (List.replicate m z51) 0 big ptr p n b o) (putL big m p n b o) := by
    intro g hl hg
    suffices H : ∀ i : Int, 0 ≤ i → i ≤ m → Ev (fun k => cellarref7_Put.l0 k m (fillL g i.toNat m) i big ptr p n b o) (putL big m p n b o) by
      have := H 0 (by omega) (by omega)
      rwa [show (0 : Int).toNat = 0 from rfl, fill_none] at this
    refine down (Q := fun i => Ev (fun k => cellarref7_Put.l0 k m (fillL g i.toNat m) i big ptr p n b o) (putL big m p n b o)) ?_ ?_
    · refine Ev.step (fun k => by rw [cellarref7_Put.l0]) ?_
      refine Ev.neg (by omega) ?_
      rw [Int.toNat_natCast, fill_all, hl]
      exact Ev.now _
    intro i i0 i1 ih
    obtain ⟨j, rfl⟩ := Int.eq_ofNat_of_zero_le i0
    have hj : j < m := by omega
    rw [show ((j : Int) + 1).toNat = j + 1 by omega, ← fill_set g j m hj, hg j] at ih
    have hlen := fill_len g j m (by omega)
    rw [Int.toNat_natCast]
    have J : ∀ x : Int, 0 ≤ x → x < 4 → (p = false → x = if big = true then Int.ofNat (m - 1 - j) else (j : Int)) → Ev (fun k => cellarref7_Put.j1 k m (fillL g j m) j x big ptr p n b o) (putL big m p n b o) := by
      intro x x0 x1 hx
      refine Ev.step (fun k => by rw [cellarref7_Put.j1]) ?_
      refine Ev.pos (by rw [w64 (by omega) (by omega)]; omega) (Ev.pos i0 ?_)
      refine Ev.pos (by rw [hlen]; exact i1) (Ev.bindS rfl ?_)
      rw [Int.toNat_natCast, w64 (z := (j : Int) + 1) (by omega) (by omega)]
      cases p with
      | true =>
        refine Ev.pos rfl (Ev.bindS rfl ?_)
        rw [if_pos rfl] at ih
        by_cases c : b > 0
        · rw [if_pos c] at ih
          refine Ev.pos c ?_
          rw [List.set_set, List.set_set]
          exact ih
        · rw [if_neg c] at ih
          refine Ev.neg c ?_
          rw [List.set_set]
          exact ih
      | false =>
        refine Ev.neg (by decide) ?_
        rw [if_neg (by decide), ← hx rfl] at ih
        exact ih
    refine Ev.step (fun k => by rw [cellarref7_Put.l0]) ?_
    refine Ev.pos i1 ?_
    cases big with
    | true =>
      refine Ev.pos rfl ?_
      rw [w64 (z := (m : Int) - 1) (by omega) (by omega), w64 (by omega) (by omega)]
      refine J _ (by omega) (by omega) fun _ => ?_
      rw [if_pos rfl]
      show _ = ((m - 1 - j : Nat) : Int)
      omega
    | false =>
      refine Ev.neg (by decide) ?_
      exact J _ (by omega) (by omega) fun _ => by rw [if_neg (by decide)]
  exact key _ rfl fun i => rfl
theorem wakes_ev : Ev (fun k => cellarlaw8_wakes.f k) true := by
  refine Ev.plus 12 fun k => ?_
  kernel_rfl
theorem machines (A : List S38) (hA : A.length ≤ 300) : ∃ ms, cellarlaw8_Machines.f A = some ms ∧ ms.length ≤ 6 := by
  unfold cellarlaw8_Machines.f
  rw [Option.bind_some, if_pos (by simp; omega), Option.bind_some]
  split
  · split
    · exact ⟨_, rfl, by rw [List.length_take]; omega⟩
    · omega
  · exact ⟨_, rfl, by omega⟩
theorem heavy (A : List S38) (S : List S33) (B : List S51) (hA : A.length ≤ 140737488351232) (hS : S.length ≤ 140737488351232) (hB : B.length ≤ 140737488351232) :
    cellarlaw8_Heavy.f A S B = some (decide (300 < A.length + S.length + B.length)) := by
  unfold cellarlaw8_Heavy.f
  congr 1
  rw [decide_eq_decide, w64 (z := (A.length : Int) + S.length) (by omega) (by omega), w64 (by omega) (by omega)]
  omega
theorem state_b (l : List S51) (n : Int) : bytes_state.f l n = some (l.any fun x => x.f0 == n) := any_some (fun _ => rfl) l
def cnt (l : List S51) : Int := ((l.countP fun x => x.f0 == 2 : Nat) : Int)
section
variable (big : Bool) (ptr kind : Int) (l : List S51) (hl : l.length ≤ 4)
include hl
theorem get_empty (h : ∃ x ∈ l, x.f0 = 0) : Ev (fun k => cellarref7_Get.f k big ptr kind l) (false, 0, 0, 0, 7) := by
  have key : ∀ i : Int, 0 ≤ i → i ≤ l.length → ∀ x8 : Int, 0 ≤ x8 → x8 ≤ i → (∃ j : Nat, i ≤ (j : Int) ∧ ∃ hj : j < l.length, l[j].f0 = 0) → Ev (fun k => cellarref7_Get.l0 k kind l x8 i big ptr) (false, 0, 0, 0, 7) := by
    refine down (Q := fun i => ∀ x8 : Int, 0 ≤ x8 → x8 ≤ i → (∃ j : Nat, i ≤ (j : Int) ∧ ∃ hj : j < l.length, l[j].f0 = 0) → Ev (fun k => cellarref7_Get.l0 k kind l x8 i big ptr) (false, 0, 0, 0, 7)) ?_ ?_
    · rintro x8 _ _ ⟨j, h1, h2, _⟩
      omega
    rintro i i0 i1 ih x8 a0 a1 ⟨j, h1, h2, h3⟩
    obtain ⟨n, rfl⟩ := Int.eq_ofNat_of_zero_le i0
    have hn : n < l.length := by omega
    refine Ev.step (fun k => by rw [cellarref7_Get.l0]) ?_
    refine Ev.pos i1 (Ev.pos i0 ?_)
    rw [rd_get l n hn]
    by_cases c : l[n].f0 = 0
    · exact Ev.pos c (Ev.now _)
    · refine Ev.neg c ?_
      have hne : (n : Int) + 1 ≤ (j : Int) := by
        rcases Nat.lt_or_ge n j with h | h
        · omega
        · obtain rfl : j = n := by omega
          exact absurd h3 c
      rw [w64 (z := (n : Int) + 1) (by omega) (by omega), w64 (z := x8 + 1) (by omega) (by omega)]
      by_cases d : l[n].f0 = 2
      · exact Ev.pos d (ih (x8 + 1) (by omega) (by omega) ⟨j, hne, h2, h3⟩)
      · exact Ev.neg d (ih x8 (by omega) (by omega) ⟨j, hne, h2, h3⟩)
  obtain ⟨x, hx, h0⟩ := h
  obtain ⟨j, hj, rfl⟩ := List.mem_iff_getElem.1 hx
  exact key 0 (by omega) (by omega) 0 (by omega) (by omega) ⟨j, by omega, hj, h0⟩
theorem cnt_le (i : Nat) : 0 ≤ cnt (l.take i) ∧ cnt (l.take i) ≤ 4 := by
  unfold cnt
  have h1 : (l.take i).countP (fun x => x.f0 == 2) ≤ (l.take i).length := List.countP_le_length
  have h2 : (l.take i).length ≤ l.length := by rw [List.length_take]; omega
  omega
theorem get_run (h : ∀ x ∈ l, x.f0 ≠ 0) (r : Bool × Int × Int × Int × Int) (hr : Ev (fun k => cellarref7_Get.l0 k kind l (cnt l) l.length big ptr) r) : Ev (fun k => cellarref7_Get.f k big ptr kind l) r := by
  have key : ∀ i : Int, 0 ≤ i → i ≤ l.length → Ev (fun k => cellarref7_Get.l0 k kind l (cnt (l.take i.toNat)) i big ptr) r := by
    refine down (Q := fun i => Ev (fun k => cellarref7_Get.l0 k kind l (cnt (l.take i.toNat)) i big ptr) r) ?_ ?_
    · rw [Int.toNat_natCast, List.take_length]
      exact hr
    intro i i0 i1 ih
    obtain ⟨n, rfl⟩ := Int.eq_ofNat_of_zero_le i0
    have hn : n < l.length := by omega
    have hc := cnt_le l hl n
    refine Ev.step (fun k => by rw [cellarref7_Get.l0]) ?_
    refine Ev.pos i1 (Ev.pos i0 ?_)
    rw [rd_get l n hn]
    refine Ev.neg (h _ (List.getElem_mem hn)) ?_
    rw [show ((n : Int) + 1).toNat = n + 1 by omega, ← List.take_append_getElem hn] at ih
    rw [Int.toNat_natCast, w64 (z := (n : Int) + 1) (by omega) (by omega), w64 (z := cnt (l.take n) + 1) (by omega) (by omega)]
    by_cases d : l[n].f0 = 2
    · refine Ev.pos d ?_
      rwa [show cnt (l.take n ++ [l[n]]) = cnt (l.take n) + 1 by unfold cnt; rw [List.countP_append, List.countP_singleton, if_pos (beq_iff_eq.2 d)]; omega] at ih
    · refine Ev.neg d ?_
      rwa [show cnt (l.take n ++ [l[n]]) = cnt (l.take n) by unfold cnt; rw [List.countP_append, List.countP_singleton, if_neg (fun c => d (beq_iff_eq.1 c))]; omega] at ih
  exact key 0 (by omega) (by omega)
/-- What a pointer's byte must be. -/
def want (B O : Int) (i : Nat) : S51 := if B > 0 then ⟨2, 0, B, O, (i : Int)⟩ else ⟨1, 0, 0, 0, 0⟩
theorem pointer_at (h0 : 0 < l.length) (r : Bool × Int × Int × Int × Int) (hy : (∀ (i : Nat) (h : i < l.length), l[i] = want l[0].f2 l[0].f3 i) → r = ((true, 0, l[0].f2, l[0].f3, 0) : Bool × Int × Int × Int × Int)) (hn : (∃ (i : Nat) (h : i < l.length), ¬ l[i] = want l[0].f2 l[0].f3 i) → r = (false, 0, 0, 0, 8)) : Ev (fun k => bytes_pointer.f k l) r := by
  unfold bytes_pointer.f
  refine Ev.pos (by omega) ?_
  rw [show rd_T51 l 0 = l[0] from rd_get l 0 h0]
  generalize hB : l[0].f2 = B at hy hn ⊢
  generalize hO : l[0].f3 = O at hy hn ⊢
  have key : ∀ i : Int, 0 ≤ i → i ≤ l.length → (∀ (j : Nat) (h : j < l.length), (j : Int) < i → l[j] = want B O j) → Ev (fun k => bytes_pointer.l0 k l l.length i true 0 B O) r := by
    refine down (Q := fun i => (∀ (j : Nat) (h : j < l.length), (j : Int) < i → l[j] = want B O j) → Ev (fun k => bytes_pointer.l0 k l l.length i true 0 B O) r) ?_ ?_
    · intro hall
      refine Ev.step (fun k => by rw [bytes_pointer.l0]) ?_
      refine Ev.neg (by omega) ?_
      rw [hy fun i h => hall i h (by omega)]
      exact Ev.now _
    intro i i0 i1 ih hall
    obtain ⟨n, rfl⟩ := Int.eq_ofNat_of_zero_le i0
    have hn' : n < l.length := by omega
    have J : ∀ a b c d e : Int, want B O n = ⟨a, b, c, d, e⟩ → Ev (fun k => bytes_pointer.j1 k l l.length n true 0 B O l[n].f0 l[n].f1 l[n].f2 l[n].f3 l[n].f4 a b c d e) r := by
      intro a b c d e hw
      refine Ev.step (fun k => by rw [bytes_pointer.j1]) ?_
      by_cases q : l[n] = ⟨a, b, c, d, e⟩
      · refine Ev.neg (fun h => (ne_b _ _ _ _ _ _).1 h q) ?_
        rw [w64 (z := (n : Int) + 1) (by omega) (by omega)]
        refine ih fun j hj hlt => ?_
        rcases Nat.lt_or_ge j n with h | h
        · exact hall j hj (by omega)
        · obtain rfl : j = n := by omega
          rw [q, hw]
      · refine Ev.pos ((ne_b _ _ _ _ _ _).2 q) ?_
        rw [hn ⟨n, hn', by rw [hw]; exact q⟩]
        exact Ev.now _
    refine Ev.step (fun k => by rw [bytes_pointer.l0]) ?_
    refine Ev.pos i1 (Ev.pos i0 (Ev.pos i1 ?_))
    rw [rd_get l n hn']
    by_cases c : B > 0
    · exact Ev.pos c (J _ _ _ _ _ (by unfold want; rw [if_pos c]))
    · exact Ev.neg c (J _ _ _ _ _ (by unfold want; rw [if_neg c]))
  exact key 0 (by omega) (by omega) (fun j _ h => by omega)
theorem num_ev : ∀ i : Int, 0 ≤ i → i ≤ l.length → ∀ n : Int, ∃ r, Ev (fun k => bytes_Read.l0 k l n l.length i big ptr) r ∧ Ev (fun k => cellarref7_Get.l2 k l n i big ptr) r := by
  refine down (Q := fun i => ∀ n : Int, ∃ r, Ev (fun k => bytes_Read.l0 k l n l.length i big ptr) r ∧ Ev (fun k => cellarref7_Get.l2 k l n i big ptr) r) ?_ ?_
  · intro n
    refine ⟨(false, n, 0, 0, 0), Ev.step (fun k => by rw [bytes_Read.l0]) (Ev.neg (by omega) (Ev.now _)), Ev.step (fun k => by rw [cellarref7_Get.l2]) (Ev.neg (by omega) (Ev.now _))⟩
  intro i i0 i1 ih n
  have e1 : wrap64 ((l.length : Int) - 1) = (l.length : Int) - 1 := w64 (by omega) (by omega)
  have e2 : wrap64 ((l.length : Int) - 1 - i) = (l.length : Int) - 1 - i := w64 (by omega) (by omega)
  have e3 : wrap64 (i + 1) = i + 1 := w64 (by omega) (by omega)
  cases big with
  | true =>
    obtain ⟨r, h1, h2⟩ := ih (Go.bits .or .i64 (wrap64 (n * 256)) (rd_T51 l i).f1)
    refine ⟨r, Ev.step (fun k => by rw [bytes_Read.l0]) (Ev.pos i1 ?_), Ev.step (fun k => by rw [cellarref7_Get.l2]) (Ev.pos i1 (Ev.pos rfl (Ev.pos i0 ?_)))⟩
    · rw [e1, e2]
      refine Ev.pos (by omega) (Ev.pos (by omega) (Ev.pos rfl (Ev.pos i0 (Ev.pos i1 ?_))))
      refine Ev.step (fun k => by rw [bytes_Read.j1]) ?_
      rw [e3]
      exact h1
    · rw [e3]
      exact h2
  | false =>
    obtain ⟨r, h1, h2⟩ := ih (Go.bits .or .i64 (wrap64 (n * 256)) (rd_T51 l ((l.length : Int) - 1 - i)).f1)
    refine ⟨r, Ev.step (fun k => by rw [bytes_Read.l0]) (Ev.pos i1 ?_), Ev.step (fun k => by rw [cellarref7_Get.l2]) (Ev.pos i1 (Ev.neg (by decide) ?_))⟩
    · rw [e1, e2]
      refine Ev.pos (by omega) (Ev.pos (by omega) (Ev.neg (by decide) ?_))
      refine Ev.step (fun k => by rw [bytes_Read.j1]) ?_
      rw [e3]
      exact h1
    · rw [e1, e2]
      refine Ev.pos (by omega) (Ev.pos (by omega) ?_)
      rw [e3]
      exact h2
theorem l1_ev (r : Bool × Int × Int × Int × Int) (hy : (∀ x ∈ l, x.f1 = 0) → r = (true, 0, 0, 0, 0)) (hn : (∃ x ∈ l, ¬ x.f1 = 0) → r = (false, 0, 0, 0, 8)) : Ev (fun k => cellarref7_Get.l1 k l 0) r := by
  have key : ∀ i : Int, 0 ≤ i → i ≤ l.length → (∀ (j : Nat) (h : j < l.length), (j : Int) < i → l[j].f1 = 0) → Ev (fun k => cellarref7_Get.l1 k l i) r := by
    refine down (Q := fun i => (∀ (j : Nat) (h : j < l.length), (j : Int) < i → l[j].f1 = 0) → Ev (fun k => cellarref7_Get.l1 k l i) r) ?_ ?_
    · intro hall
      refine Ev.step (fun k => by rw [cellarref7_Get.l1]) ?_
      refine Ev.neg (by omega) ?_
      rw [hy fun x hx => by obtain ⟨j, hj, rfl⟩ := List.mem_iff_getElem.1 hx; exact hall j hj (by omega)]
      exact Ev.now _
    intro i i0 i1 ih hall
    obtain ⟨n, rfl⟩ := Int.eq_ofNat_of_zero_le i0
    have hn' : n < l.length := by omega
    refine Ev.step (fun k => by rw [cellarref7_Get.l1]) ?_
    refine Ev.pos i1 (Ev.pos i0 ?_)
    rw [rd_get l n hn']
    by_cases c : l[n].f1 = 0
    · refine Ev.pos c ?_
      rw [w64 (z := (n : Int) + 1) (by omega) (by omega)]
      refine ih fun j hj hlt => ?_
      rcases Nat.lt_or_ge j n with h | h
      · exact hall j hj (by omega)
      · obtain rfl : j = n := by omega
        exact c
    · refine Ev.neg c ?_
      rw [hn ⟨_, List.getElem_mem hn', c⟩]
      exact Ev.now _
  exact key 0 (by omega) (by omega) (fun j _ h => by omega)
end
theorem isB_cases {x : S51} (h : isB x = true) (h0 : x.f0 ≠ 0) : (x.f0 = 1 ∧ x.f2 = 0 ∧ x.f3 = 0 ∧ x.f4 = 0) ∨ (x.f0 = 2 ∧ x.f1 = 0 ∧ 1 ≤ x.f2 ∧ x.f2 ≤ 32 ∧ 0 ≤ x.f3 ∧ x.f3 ≤ 32) := by
  unfold isB at h
  rw [decide_eq_true_eq] at h
  rcases h with h | h | h
  · exact absurd h.1 h0
  · exact .inl ⟨h.1, h.2.2⟩
  · exact .inr ⟨h.1, h.2.1, h.2.2.1.1, h.2.2.1.2, h.2.2.2.1.1, h.2.2.2.1.2⟩
theorem read_get (big : Bool) (ptr kind : Int) (l : List S51) (hp : ptr = 2 ∨ ptr = 4) (hk : 1 ≤ kind ∧ kind ≤ 7) (hlen : (l.length : Int) = sizev ptr kind) (hb : ∀ x ∈ l, isB x = true) :
    ∃ r, Ev (fun k => bytes_Read.f k big ptr kind l) r ∧ Ev (fun k => cellarref7_Get.f k big ptr kind l) r := by
  have hs := size_small ptr kind hp hk
  have hl4 : l.length ≤ 4 := by omega
  have hl0 : 0 < l.length := by omega
  by_cases e0 : ∃ x ∈ l, x.f0 = 0
  · refine ⟨(false, 0, 0, 0, 7), ?_, get_empty big ptr kind l hl4 e0⟩
    unfold bytes_Read.f
    refine Ev.bindS (state_b l 0) (Ev.pos ?_ (Ev.now _))
    rw [List.any_eq_true]
    obtain ⟨x, hx, h0⟩ := e0
    exact ⟨x, hx, beq_iff_eq.2 h0⟩
  have e0' : ∀ x ∈ l, x.f0 ≠ 0 := fun x hx h => e0 ⟨x, hx, h⟩
  have s0 : (l.any fun x => x.f0 == 0) = false := by
    rw [List.any_eq_false]
    exact fun x hx h => e0' x hx (beq_iff_eq.1 h)
  have hcnt0 : cnt l = 0 ↔ ∀ x ∈ l, x.f0 ≠ 2 := by
    unfold cnt
    rw [Int.natCast_eq_zero, List.countP_eq_zero]
    exact ⟨fun h x hx e => h x hx (beq_iff_eq.2 e), fun h x hx e => h x hx (beq_iff_eq.1 e)⟩
  have hcntp : 0 ≤ cnt l := by unfold cnt; omega
  have A0 : l[0] ∈ l := List.getElem_mem hl0
  by_cases k7 : kind = 7
  · -- a pointer
    have R : ∀ r, Ev (fun k => bytes_pointer.f k l) r → Ev (fun k => bytes_Read.f k big ptr kind l) r := by
      intro r h
      unfold bytes_Read.f
      refine Ev.bindS (state_b l 0) ?_
      rw [s0]
      exact Ev.neg (by decide) (Ev.pos k7 (Ev.bind h (Ev.now _)))
    have G : ∀ r, (cnt l = 0 → Ev (fun k => cellarref7_Get.l1 k l 0) r) → (¬ cnt l = 0 → Ev (fun k => if l[0].f0 = 2 then ((cellarref7_Put.f k big ptr kind true 0 l[0].f2 l[0].f3).bind fun t => (cellarref0_EqBytes.f k t l).bind fun b => if b = true then (some ((true, 0, l[0].f2, l[0].f3, 0) : Bool × Int × Int × Int × Int)) else (some (false, 0, 0, 0, 8))) else (some (false, 0, 0, 0, 8))) r) → Ev (fun k => cellarref7_Get.f k big ptr kind l) r := by
      intro r h1 h2
      refine get_run big ptr kind l hl4 e0' r ?_
      refine Ev.step (fun k => by rw [cellarref7_Get.l0]) ?_
      refine Ev.neg (by omega) (Ev.pos k7 ?_)
      by_cases c : cnt l = 0
      · exact Ev.pos c (h1 c)
      · refine Ev.neg c (Ev.pos (by omega) ?_)
        rw [show rd_T51 l 0 = l[0] from rd_get l 0 hl0]
        exact h2 c
    by_cases hall : ∀ (i : Nat) (h : i < l.length), l[i] = want l[0].f2 l[0].f3 i
    · refine ⟨(true, 0, l[0].f2, l[0].f3, 0), R _ (pointer_at l hl4 hl0 _ (fun _ => rfl) (fun ⟨i, h, hn⟩ => absurd (hall i h) hn)), G _ (fun c => ?_) (fun c => ?_)⟩
      · have h2 := hcnt0.1 c
        have hz : l[0].f2 = 0 ∧ l[0].f3 = 0 := by
          rcases isB_cases (hb _ A0) (e0' _ A0) with h | h
          · exact ⟨h.2.1, h.2.2.1⟩
          · exact absurd h.1 (h2 _ A0)
        refine l1_ev l hl4 _ (fun _ => by rw [hz.1, hz.2]) (fun ⟨x, hx, hx1⟩ => ?_)
        obtain ⟨j, hj, rfl⟩ := List.mem_iff_getElem.1 hx
        have := hall j hj
        unfold want at this
        rw [hz.1, if_neg (by decide)] at this
        rw [this] at hx1
        exact absurd rfl hx1
      · have hB : l[0].f0 = 2 := by
          rcases isB_cases (hb _ A0) (e0' _ A0) with h | h
          · exfalso
            refine c (hcnt0.2 fun x hx e => ?_)
            obtain ⟨j, hj, rfl⟩ := List.mem_iff_getElem.1 hx
            have := hall j hj
            unfold want at this
            rw [h.2.1, if_neg (by decide)] at this
            rw [this] at e
            exact absurd e (by decide)
          · exact h.1
        rcases isB_cases (hb _ A0) (e0' _ A0) with h | h
        · omega
        have hm : mayS 7 true 0 l[0].f2 l[0].f3 = true := by
          unfold mayS
          rw [if_pos rfl, decide_eq_true_eq]
          exact ⟨rfl, rfl, ⟨by omega, by omega⟩, ⟨by omega, by omega⟩, by omega⟩
        refine Ev.pos hB ?_
        rw [k7]
        refine Ev.bind (rput_ev big ptr 7 true 0 l[0].f2 l[0].f3 hp hm) ?_
        have hput : putL big (sizev ptr 7).toNat true 0 l[0].f2 l[0].f3 = l := by
          apply List.ext_getElem
          · rw [put_len, ← k7]
            omega
          · intro i h1 h2
            rw [hall i h2]
            simp [putL, want]
        rw [hput]
        exact Ev.bind ((eq_ev l l (by omega)).1 rfl) (Ev.pos rfl (Ev.now _))
    · have hex : ∃ (i : Nat) (h : i < l.length), ¬ l[i] = want l[0].f2 l[0].f3 i := by
        rcases Classical.em (∃ (i : Nat) (h : i < l.length), ¬ l[i] = want l[0].f2 l[0].f3 i) with h | h
        · exact h
        · exact absurd (fun i hi => Classical.byContradiction fun hn => h ⟨i, hi, hn⟩) hall
      refine ⟨(false, 0, 0, 0, 8), R _ (pointer_at l hl4 hl0 _ (fun h => absurd h hall) (fun _ => rfl)), G _ (fun c => ?_) (fun c => ?_)⟩
      · have h2 := hcnt0.1 c
        have one : ∀ x ∈ l, x.f0 = 1 ∧ x.f2 = 0 ∧ x.f3 = 0 ∧ x.f4 = 0 := fun x hx => by
          rcases isB_cases (hb x hx) (e0' x hx) with h | h
          · exact h
          · exact absurd h.1 (h2 x hx)
        refine l1_ev l hl4 _ (fun hz => ?_) (fun _ => rfl)
        exfalso
        refine hall fun i hi => ?_
        have hi2 := one _ (List.getElem_mem hi)
        have h02 := one _ A0
        unfold want
        rw [h02.2.1, if_neg (by decide)]
        obtain ⟨a, b, c2, d⟩ := hi2
        have hz1 := hz _ (List.getElem_mem hi)
        generalize l[i] = y at *
        obtain ⟨y0, y1, y2, y3, y4⟩ := y
        simp only at a b c2 d hz1
        rw [a, b, c2, d, hz1]
      · by_cases hB : l[0].f0 = 2
        · rcases isB_cases (hb _ A0) (e0' _ A0) with h | h
          · omega
          have hm : mayS 7 true 0 l[0].f2 l[0].f3 = true := by
            unfold mayS
            rw [if_pos rfl, decide_eq_true_eq]
            exact ⟨rfl, rfl, ⟨by omega, by omega⟩, ⟨by omega, by omega⟩, by omega⟩
          refine Ev.pos hB ?_
          rw [k7]
          refine Ev.bind (rput_ev big ptr 7 true 0 l[0].f2 l[0].f3 hp hm) ?_
          have hput : ¬ putL big (sizev ptr 7).toNat true 0 l[0].f2 l[0].f3 = l := by
            intro e
            refine hall fun i hi => ?_
            have hi' : i < (putL big (sizev ptr 7).toNat true 0 l[0].f2 l[0].f3).length := by rw [e]; exact hi
            have : l[i] = (putL big (sizev ptr 7).toNat true 0 l[0].f2 l[0].f3)[i] := by
              congr 1
              exact e.symm
            rw [this]
            simp [putL, want]
          exact Ev.bind ((eq_ev _ l (by rw [put_len]; have := size_small ptr 7 hp (by omega); omega)).2 hput) (Ev.neg (by decide) (Ev.now _))
        · exact Ev.neg hB (Ev.now _)
  · -- a number
    by_cases s2 : ∃ x ∈ l, x.f0 = 2
    · have h2 : (l.any fun x => x.f0 == 2) = true := by
        rw [List.any_eq_true]
        obtain ⟨x, hx, h0⟩ := s2
        exact ⟨x, hx, beq_iff_eq.2 h0⟩
      have hc : ¬ cnt l = 0 := fun c => by
        obtain ⟨x, hx, h0⟩ := s2
        exact hcnt0.1 c x hx h0
      refine ⟨(false, 0, 0, 0, 8), ?_, get_run big ptr kind l hl4 e0' _ ?_⟩
      · unfold bytes_Read.f
        refine Ev.bindS (state_b l 0) ?_
        rw [s0]
        refine Ev.neg (by decide) (Ev.neg k7 (Ev.bindS (state_b l 2) ?_))
        rw [h2]
        exact Ev.pos rfl (Ev.now _)
      · refine Ev.step (fun k => by rw [cellarref7_Get.l0]) ?_
        exact Ev.neg (by omega) (Ev.neg k7 (Ev.pos (by omega) (Ev.now _)))
    · have h2 : (l.any fun x => x.f0 == 2) = false := by
        rw [List.any_eq_false]
        exact fun x hx h => s2 ⟨x, hx, beq_iff_eq.1 h⟩
      have hc : cnt l = 0 := hcnt0.2 fun x hx h => s2 ⟨x, hx, h⟩
      obtain ⟨r, h1, h3⟩ := num_ev big ptr l hl4 0 (by omega) (by omega) 0
      refine ⟨r, ?_, get_run big ptr kind l hl4 e0' _ ?_⟩
      · unfold bytes_Read.f
        refine Ev.bindS (state_b l 0) ?_
        rw [s0]
        refine Ev.neg (by decide) (Ev.neg k7 (Ev.bindS (state_b l 2) ?_))
        rw [h2]
        exact Ev.neg (by decide) h1
      · refine Ev.step (fun k => by rw [cellarref7_Get.l0]) ?_
        refine Ev.neg (by omega) (Ev.neg k7 (Ev.neg (by omega) h3))
theorem ref_b (x : S51) : cellarref7_Byte.f x.f0 x.f1 x.f2 x.f3 x.f4 = some (isB x) := by
  unfold cellarref7_Byte.f isB
  simp only [num_le, btw, Option.bind_some]
  by_cases h0 : x.f0 = 0
  · rw [if_pos h0]
    congr 1
    rw [Bool.eq_iff_iff]
    simp [h0]
  · rw [if_neg h0]
    by_cases h1 : x.f0 = 1
    · rw [if_pos h1]
      by_cases c : 0 ≤ x.f1 ∧ x.f1 ≤ 255
      · rw [if_pos (decide_eq_true c)]
        by_cases c2 : x.f2 = 0
        · rw [if_pos c2]
          by_cases c3 : x.f3 = 0
          · rw [if_pos c3]
            congr 1
            rw [Bool.eq_iff_iff]
            simp [h1, c, c2, c3]
          · rw [if_neg c3]
            congr 1
            symm
            rw [decide_eq_false_iff_not]
            omega
        · rw [if_neg c2]
          congr 1
          symm
          rw [decide_eq_false_iff_not]
          omega
      · rw [if_neg (by simpa using c)]
        congr 1
        symm
        rw [decide_eq_false_iff_not]
        omega
    · rw [if_neg h1]
      by_cases h2 : x.f0 = 2
      · rw [if_pos h2]
        by_cases c1 : x.f1 = 0
        · rw [if_pos c1]
          by_cases c2 : 1 ≤ x.f2 ∧ x.f2 ≤ 32
          · rw [if_pos (decide_eq_true c2)]
            by_cases c4 : 0 ≤ x.f3 ∧ x.f3 ≤ 32
            · rw [if_pos (decide_eq_true c4)]
              congr 1
              rw [decide_eq_decide]
              omega
            · rw [if_neg (by simpa using c4)]
              congr 1
              symm
              rw [decide_eq_false_iff_not]
              omega
          · rw [if_neg (by simpa using c2)]
            congr 1
            symm
            rw [decide_eq_false_iff_not]
            omega
        · rw [if_neg c1]
          congr 1
          symm
          rw [decide_eq_false_iff_not]
          omega
      · rw [if_neg h2]
        congr 1
        symm
        rw [decide_eq_false_iff_not]
        omega
theorem ref_s (k : Nat) (kind : Int) (p : Bool) (n b o : Int) : cellarref7_Scalar.f (k + 2) kind p n b o = some (mayS kind p n b o) := by
  unfold cellarref7_Scalar.f mayS
  simp only [num_le, Option.bind_some]
  by_cases h7 : kind = 7
  · rw [if_pos h7, if_pos h7]
    cases p with
    | true =>
      rw [if_pos rfl]
      by_cases c1 : n = 0
      · rw [if_pos c1]
        by_cases c2 : 0 ≤ b ∧ b ≤ 32
        · rw [if_pos (decide_eq_true c2)]
          by_cases c3 : 0 ≤ o ∧ o ≤ 32
          · rw [if_pos (decide_eq_true c3)]
            by_cases c4 : b > 0
            · rw [if_pos c4]
              congr 1
              symm
              rw [decide_eq_true_iff]
              exact ⟨rfl, c1, c2, c3, .inl c4⟩
            · rw [if_neg c4]
              congr 1
              rw [Bool.eq_iff_iff]
              simp [c1, c2, c3]
              omega
          · rw [if_neg (by simpa using c3)]
            congr 1
            symm
            rw [decide_eq_false_iff_not]
            omega
        · rw [if_neg (by simpa using c2)]
          congr 1
          symm
          rw [decide_eq_false_iff_not]
          omega
      · rw [if_neg c1]
        congr 1
        symm
        rw [decide_eq_false_iff_not]
        omega
    | false => simp
  · rw [if_neg h7, if_neg h7]
    by_cases hk : 1 ≤ kind ∧ kind ≤ 6
    · obtain ⟨w, hh, P, s, K⟩ := kd_of kind hk.1 hk.2
      have w1 := K.w1
      rw [K.wd, K.of, Option.bind_some, if_pos (by omega)]
      cases p with
      | true => simp
      | false =>
        rw [if_neg (by decide), Option.bind_some, K.number]
        simp only [Option.getD_some, K.s1]
        by_cases d : b = 0
        · rw [if_pos d]
          by_cases e : o = 0
          · rw [if_pos e, Option.bind_some]
            congr 1
            rw [decide_eq_decide]
            constructor
            · intro c
              exact ⟨hk, trivial, c, d, e⟩
            · intro c
              exact c.2.2.1
          · rw [if_neg e]
            congr 1
            symm
            rw [decide_eq_false_iff_not]
            omega
        · rw [if_neg d]
          congr 1
          symm
          rw [decide_eq_false_iff_not]
          omega
    · rw [no_kind kind (by omega), Option.bind_some, if_neg (by decide)]
      congr 1
      symm
      rw [decide_eq_false_iff_not]
      omega
theorem copy_ev (l : List S51) (hl : l.length < 3518437208883) : Ev (fun k => cellarref0_CopyBytes.f k l) l := by
  have key : ∀ i : Int, 0 ≤ i → i ≤ l.length → Ev (fun k => cellarref0_CopyBytes.l0 k l (l.take i.toNat) i) l := by
    refine down (Q := fun i => Ev (fun k => cellarref0_CopyBytes.l0 k l (l.take i.toNat) i) l) ?_ ?_
    · refine Ev.step (fun k => by rw [cellarref0_CopyBytes.l0]) ?_
      refine Ev.neg (by omega) (Ev.val ?_)
      rw [Int.toNat_natCast, List.take_length]
    intro i i0 i1 ih
    refine Ev.step (fun k => by rw [cellarref0_CopyBytes.l0]) ?_
    refine Ev.pos i1 (Ev.pos i0 ?_)
    refine Ev.pos (by rw [List.length_take]; omega) ?_
    obtain ⟨n, rfl⟩ := Int.eq_ofNat_of_zero_le i0
    have hn : n < l.length := by omega
    rw [show ((n : Int) + 1).toNat = n + 1 by omega] at ih
    rw [w64 (z := (n : Int) + 1) (by omega) (by omega), rd_get l n hn, Int.toNat_natCast, List.take_append_getElem hn]
    exact ih
  exact key 0 (by omega) (by omega)
theorem any_not (l : List S51) : api_Byte_37.f l 38 = some (!(l.all isB)) := by
  unfold api_Byte_37.f
  rw [if_pos rfl, any_some (f := fun x => !isB x) (fun x => by unfold bytes_Get_1.f; rw [is_b]; rfl)]
  congr 1
  rw [List.not_all_eq_any_not]
theorem bytes_all (l : List S51) (hl : l.length ≤ 1000000) : Ev (fun k => cellarref7_Bytes.f k l) (l.all isB) := by
  have key : ∀ i : Int, 0 ≤ i → i ≤ l.length → Ev (fun k => cellarref7_Bytes.l0 k l i) ((l.drop i.toNat).all isB) := by
    refine down (Q := fun i => Ev (fun k => cellarref7_Bytes.l0 k l i) ((l.drop i.toNat).all isB)) ?_ ?_
    · refine Ev.step (fun k => by rw [cellarref7_Bytes.l0]) ?_
      rw [Int.toNat_natCast, List.drop_length]
      exact Ev.neg (by omega) (Ev.now _)
    intro i i0 i1 ih
    obtain ⟨n, rfl⟩ := Int.eq_ofNat_of_zero_le i0
    have hn : n < l.length := by omega
    rw [show ((n : Int) + 1).toNat = n + 1 by omega] at ih
    rw [Int.toNat_natCast, List.drop_eq_getElem_cons hn, List.all_cons]
    refine Ev.step (fun k => by rw [cellarref7_Bytes.l0]) ?_
    refine Ev.pos i1 (Ev.pos i0 ?_)
    rw [rd_get l n hn]
    refine Ev.bindS (ref_b _) ?_
    cases h : isB l[n] with
    | true =>
      refine Ev.pos rfl ?_
      rw [w64 (z := (n : Int) + 1) (by omega) (by omega), Bool.true_and]
      exact ih
    | false => exact Ev.neg (by decide) (Ev.now _)
  exact key 0 (by omega) (by omega)
def RowsOK (L : List (List S51)) : Prop := ∀ r ∈ L, r.length ≤ 300
def Fin' (F : Nat → Option (List (List S51))) : Prop := ∃ L, Ev F L ∧ RowsOK L ∧ L.length ≤ 2000
theorem Fin'.imp {F G : Nat → Option (List (List S51))} (hE : ∀ L, Ev G L → Ev F L) (h : Fin' G) : Fin' F := by
  obtain ⟨L, h1, h2⟩ := h
  exact ⟨L, hE L h1, h2⟩
theorem RowsOK.app {L M : List (List S51)} (h : RowsOK L) (h' : RowsOK M) : RowsOK (L ++ M) := fun r hr => (List.mem_append.1 hr).elim (h r) (h' r)
theorem rows_end (A : List S38) (S : List S33) (B : List S51) (ms : List S38) (n : Int) (hn : 1 ≤ n ∧ n ≤ 4) (y : List (List S51)) (x9 : Int) (hy : RowsOK y) (hl : y.length ≤ 1900) :
    Fin' (fun k => cellarlaw8_rows.j3 k n ms y x9 false A S B) := by
  refine ⟨y ++ [[], List.replicate n.toNat z51], ?_, RowsOK.app hy ?_, by simp; omega⟩
  · refine Ev.step (fun k => by rw [cellarlaw8_rows.j3]) ?_
    refine Ev.neg (by decide) (Ev.pos (by omega) (Ev.pos (by omega) (Ev.bindS rfl (Ev.pos ?_ (Ev.now _)))))
    simp
    omega
  · intro r hr
    simp only [List.mem_cons, List.not_mem_nil, or_false] at hr
    rcases hr with rfl | rfl
    · simp
    · simp
      omega
theorem rows_j7 (A : List S38) (S : List S33) (B : List S51) (ms : List S38) (n : Int) (hn : 1 ≤ n ∧ n ≤ 4) (hms : ms.length ≤ 6) (y : List (List S51)) (hl : y.length ≤ 1900) (x9 x10 x11 : Int) (a0 : 0 ≤ x11) (a1 : x11 < ms.length) (t u : List S51) (ht : t.length = n.toNat) (hu : u.length = n.toNat)
    (nx : ∀ z : List (List S51), RowsOK z → z.length = 3 → Fin' (fun k => cellarlaw8_rows.l3 k n ms (y ++ z) x9 x10 (x11 + 1) A S B)) :
    Fin' (fun k => cellarlaw8_rows.j7 k n ms y x9 x10 x11 t u A S B) := by
  have hc := copy_ev t (by omega)
  have e11 : wrap64 (x11 + 1) = x11 + 1 := w64 (by omega) (by omega)
  have en : wrap64 (n - 1) = n - 1 := w64 (by omega) (by omega)
  have hr3 : ∀ v : List S51, v.length = t.length → RowsOK [t, u, v] := by
    intro v hv r hr
    simp only [List.mem_cons, List.not_mem_nil, or_false] at hr
    rcases hr with rfl | rfl | rfl <;> omega
  obtain ⟨L, h1, h2⟩ := nx [t, u, (t.set (0 : Int).toNat (⟨(rd_T51 t (wrap64 (n - 1))).f0, (rd_T51 t (wrap64 (n - 1))).f1, (rd_T51 t (wrap64 (n - 1))).f2, (rd_T51 t (wrap64 (n - 1))).f3, (rd_T51 t (wrap64 (n - 1))).f4⟩ : S51)).set (wrap64 (n - 1)).toNat (⟨(rd_T51 t 0).f0, (rd_T51 t 0).f1, (rd_T51 t 0).f2, (rd_T51 t 0).f3, (rd_T51 t 0).f4⟩ : S51)] (hr3 _ (by rw [List.length_set, List.length_set])) rfl
  refine ⟨L, ?_, h2⟩
  refine Ev.step (fun k => by rw [cellarlaw8_rows.j7]) (Ev.bind hc ?_)
  refine Ev.pos (by rw [en]; omega) ?_
  refine Ev.pos (by rw [en]; omega) ?_
  refine Ev.pos (by omega) (Ev.bindS rfl ?_)
  refine Ev.pos (by simp; omega) ?_
  rw [e11]
  exact h1
theorem rows_j6 (A : List S38) (S : List S33) (B : List S51) (ms : List S38) (n : Int) (hn : 1 ≤ n ∧ n ≤ 4) (hms : ms.length ≤ 6) (y : List (List S51)) (hl : y.length ≤ 1900) (x9 x10 x11 : Int)
    (a0 : 0 ≤ x11) (a1 : x11 < ms.length) (b0 : 0 ≤ x9) (b1 : x9 < S.length) (b2 : x9 ≤ 100) (habi : (rd_T38 ms x11).f1 = 2 ∨ (rd_T38 ms x11).f1 = 4) (hs : sizev (rd_T38 ms x11).f1 x10 = n)
    (hm : mayS x10 (rd_T33 S x9).f0 (rd_T33 S x9).f1 (rd_T33 S x9).f2 (rd_T33 S x9).f3 = true) (hB : B.length ≤ 300)
    (nx : ∀ z : List (List S51), RowsOK z → z.length = 3 → Fin' (fun k => cellarlaw8_rows.l3 k n ms (y ++ z) x9 x10 (x11 + 1) A S B)) :
    Fin' (fun k => cellarlaw8_rows.j6 k n ms y x9 x10 x11 false A S B) := by
  have hp := rput_ev (rd_T38 ms x11).f0 (rd_T38 ms x11).f1 x10 (rd_T33 S x9).f0 (rd_T33 S x9).f1 (rd_T33 S x9).f2 (rd_T33 S x9).f3 habi hm
  have hlen := put_len (rd_T38 ms x11).f0 (sizev (rd_T38 ms x11).f1 x10).toNat (rd_T33 S x9).f0 (rd_T33 S x9).f1 (rd_T33 S x9).f2 (rd_T33 S x9).f3
  rw [hs] at hlen
  rw [hs] at hp
  generalize putL (rd_T38 ms x11).f0 n.toNat (rd_T33 S x9).f0 (rd_T33 S x9).f1 (rd_T33 S x9).f2 (rd_T33 S x9).f3 = t at hp hlen
  have hc := copy_ev t (by omega)
  have e9 : wrap64 (x9 + x11) = x9 + x11 := w64 (by omega) (by omega)
  by_cases c : (B.length : Int) > 0
  · have m0 : 0 ≤ Int.tmod x9 (B.length : Int) := Int.tmod_nonneg _ b0
    have m1 : Int.tmod x9 (B.length : Int) < (B.length : Int) := Int.tmod_lt_of_pos _ c
    have m2 : 0 ≤ Int.tmod (x9 + x11) n := Int.tmod_nonneg _ (by omega)
    have m3 : Int.tmod (x9 + x11) n < n := Int.tmod_lt_of_pos _ (by omega)
    obtain ⟨L, h1, h2⟩ := rows_j7 A S B ms n hn hms y hl x9 x10 x11 a0 a1 t (t.set (Int.tmod (wrap64 (x9 + x11)) n).toNat (⟨(rd_T51 B (Int.tmod x9 (B.length : Int))).f0, (rd_T51 B (Int.tmod x9 (B.length : Int))).f1, (rd_T51 B (Int.tmod x9 (B.length : Int))).f2, (rd_T51 B (Int.tmod x9 (B.length : Int))).f3, (rd_T51 B (Int.tmod x9 (B.length : Int))).f4⟩ : S51)) hlen (by rw [List.length_set]; exact hlen) nx
    refine ⟨L, ?_, h2⟩
    refine Ev.step (fun k => by rw [cellarlaw8_rows.j6]) ?_
    refine Ev.neg (by decide) (Ev.pos a0 (Ev.pos a1 (Ev.pos b0 (Ev.pos b1 (Ev.bind hp (Ev.bind hc ?_))))))
    refine Ev.pos c (Ev.neg (by omega) (Ev.neg (by omega) (Ev.pos m0 (Ev.pos m1 ?_))))
    refine Ev.pos (by rw [e9]; exact m2) ?_
    refine Ev.pos (by rw [e9]; omega) ?_
    exact h1
  · obtain ⟨L, h1, h2⟩ := rows_j7 A S B ms n hn hms y hl x9 x10 x11 a0 a1 t t hlen hlen nx
    refine ⟨L, ?_, h2⟩
    refine Ev.step (fun k => by rw [cellarlaw8_rows.j6]) ?_
    refine Ev.neg (by decide) (Ev.pos a0 (Ev.pos a1 (Ev.pos b0 (Ev.pos b1 (Ev.bind hp (Ev.bind hc ?_))))))
    exact Ev.neg c h1
theorem rows_l3 (A : List S38) (S : List S33) (B : List S51) (ms : List S38) (n : Int) (hn : 1 ≤ n ∧ n ≤ 4) (hms : ms.length ≤ 6) (hB : B.length ≤ 300) (x9 x10 c : Int) (b0 : 0 ≤ x9) (b1 : x9 < S.length) (b2 : x9 ≤ 100) (k0 : 1 ≤ x10) (k1 : x10 ≤ 7) (hc : c ≤ 1800)
    (nx : ∀ y : List (List S51), RowsOK y → (y.length : Int) ≤ c + 18 → Fin' (fun k => cellarlaw8_rows.l2 k n ms y x9 (x10 + 1) A S B)) :
    ∀ x11 : Int, 0 ≤ x11 → x11 ≤ ms.length → ∀ y : List (List S51), RowsOK y → (y.length : Int) ≤ c + 3 * x11 → Fin' (fun k => cellarlaw8_rows.l3 k n ms y x9 x10 x11 A S B) := by
  refine down (Q := fun x11 => ∀ y : List (List S51), RowsOK y → (y.length : Int) ≤ c + 3 * x11 → Fin' (fun k => cellarlaw8_rows.l3 k n ms y x9 x10 x11 A S B)) ?_ ?_
  · intro y hy hl
    refine Fin'.imp (fun L h => Ev.step (fun k => by rw [cellarlaw8_rows.l3]) (Ev.neg (by omega) ?_)) (nx y hy (by omega))
    rw [w64 (z := x10 + 1) (by omega) (by omega)]
    exact h
  intro x11 a0 a1 ih y hy hl
  have e11 : wrap64 (x11 + 1) = x11 + 1 := w64 (by omega) (by omega)
  have skip : Fin' (fun k => cellarlaw8_rows.j6 k n ms y x9 x10 x11 true A S B) :=
    Fin'.imp (fun L h => Ev.step (fun k => by rw [cellarlaw8_rows.j6]) (Ev.pos rfl (by rw [e11]; exact h))) (ih y hy (by omega))
  by_cases ha : (rd_T38 ms x11).f1 = 2 ∨ (rd_T38 ms x11).f1 = 4
  · by_cases hs : sizev (rd_T38 ms x11).f1 x10 = n
    · by_cases hm : mayS x10 (rd_T33 S x9).f0 (rd_T33 S x9).f1 (rd_T33 S x9).f2 (rd_T33 S x9).f3 = true
      · obtain ⟨L, h1, h2⟩ := rows_j6 A S B ms n hn hms y (by omega) x9 x10 x11 a0 a1 b0 b1 b2 ha hs hm hB fun z hz h3 => ih (y ++ z) (RowsOK.app hy hz) (by rw [List.length_append]; omega)
        refine ⟨L, ?_, h2⟩
        refine Ev.step (fun k => by rw [cellarlaw8_rows.l3]) (Ev.pos a1 (Ev.pos a0 (Ev.bindS (rabi _ _) (Ev.pos (decide_eq_true ha) ?_))))
        refine Ev.bind (Ev.plus 2 fun k => rsize k _ _ _ ⟨k0, by omega⟩) ?_
        refine Ev.pos hs (Ev.pos b0 (Ev.pos b1 ?_))
        refine Ev.bind (Ev.plus 2 fun k => ref_s k _ _ _ _ _) ?_
        rw [hm]
        exact h1
      · obtain ⟨L, h1, h2⟩ := skip
        refine ⟨L, ?_, h2⟩
        refine Ev.step (fun k => by rw [cellarlaw8_rows.l3]) (Ev.pos a1 (Ev.pos a0 (Ev.bindS (rabi _ _) (Ev.pos (decide_eq_true ha) ?_))))
        refine Ev.bind (Ev.plus 2 fun k => rsize k _ _ _ ⟨k0, by omega⟩) ?_
        refine Ev.pos hs (Ev.pos b0 (Ev.pos b1 ?_))
        refine Ev.bind (Ev.plus 2 fun k => ref_s k _ _ _ _ _) ?_
        rw [Bool.eq_false_iff.2 hm]
        exact h1
    · obtain ⟨L, h1, h2⟩ := skip
      refine ⟨L, ?_, h2⟩
      refine Ev.step (fun k => by rw [cellarlaw8_rows.l3]) (Ev.pos a1 (Ev.pos a0 (Ev.bindS (rabi _ _) (Ev.pos (decide_eq_true ha) ?_))))
      refine Ev.bind (Ev.plus 2 fun k => rsize k _ _ _ ⟨k0, by omega⟩) ?_
      exact Ev.neg hs h1
  · obtain ⟨L, h1, h2⟩ := skip
    refine ⟨L, ?_, h2⟩
    refine Ev.step (fun k => by rw [cellarlaw8_rows.l3]) (Ev.pos a1 (Ev.pos a0 (Ev.bindS (rabi _ _) ?_)))
    exact Ev.neg (by rw [decide_eq_true_eq]; exact ha) h1
theorem rows_l2 (A : List S38) (S : List S33) (B : List S51) (ms : List S38) (n : Int) (hn : 1 ≤ n ∧ n ≤ 4) (hms : ms.length ≤ 6) (hB : B.length ≤ 300) (x9 d : Int) (b0 : 0 ≤ x9) (b1 : x9 < S.length) (b2 : x9 ≤ 100) (hd : d ≤ 1600)
    (nx : ∀ y : List (List S51), RowsOK y → (y.length : Int) ≤ d + 126 → Fin' (fun k => cellarlaw8_rows.l1 k n ms y (x9 + 1) A S B)) :
    ∀ x10 : Int, 1 ≤ x10 → x10 ≤ 8 → ∀ y : List (List S51), RowsOK y → (y.length : Int) ≤ d + 18 * (x10 - 1) → Fin' (fun k => cellarlaw8_rows.l2 k n ms y x9 x10 A S B) := by
  refine down (Q := fun x10 => ∀ y : List (List S51), RowsOK y → (y.length : Int) ≤ d + 18 * (x10 - 1) → Fin' (fun k => cellarlaw8_rows.l2 k n ms y x9 x10 A S B)) ?_ ?_
  · intro y hy hl
    refine Fin'.imp (fun L h => Ev.step (fun k => by rw [cellarlaw8_rows.l2]) (Ev.neg (by omega) ?_)) (nx y hy (by omega))
    rw [w64 (z := x9 + 1) (by omega) (by omega)]
    exact h
  intro x10 k0 k1 ih y hy hl
  exact Fin'.imp (fun L h => Ev.step (fun k => by rw [cellarlaw8_rows.l2]) (Ev.pos (by omega) h)) (rows_l3 A S B ms n hn hms hB x9 x10 (d + 18 * (x10 - 1)) b0 b1 b2 k0 (by omega) (by omega) (fun z hz hlz => ih z hz (by omega)) 0 (by omega) (by omega) y hy (by omega))
theorem rows_l1 (A : List S38) (S : List S33) (B : List S51) (ms : List S38) (n : Int) (hn : 1 ≤ n ∧ n ≤ 4) (hms : ms.length ≤ 6) (hB : B.length ≤ 300) :
    ∀ x9 : Int, 0 ≤ x9 → x9 ≤ 10 → ∀ y : List (List S51), RowsOK y → (y.length : Int) ≤ 10 + 126 * x9 → Fin' (fun k => cellarlaw8_rows.l1 k n ms y x9 A S B) := by
  have fin : ∀ (x9 : Int) (y : List (List S51)), x9 ≤ 10 → ¬ (x9 < (S.length : Int) ∧ x9 < 10) → RowsOK y → (y.length : Int) ≤ 10 + 126 * x9 → Fin' (fun k => cellarlaw8_rows.l1 k n ms y x9 A S B) := by
    intro x9 y h9 hc hy hl
    have E := rows_end A S B ms n hn y x9 hy (by omega)
    by_cases c1 : x9 < (S.length : Int)
    · refine Fin'.imp (fun L h => Ev.step (fun k => by rw [cellarlaw8_rows.l1]) (Ev.pos c1 ?_)) E
      rw [decide_eq_false (fun c2 => hc ⟨c1, c2⟩)]
      exact h
    · exact Fin'.imp (fun L h => Ev.step (fun k => by rw [cellarlaw8_rows.l1]) (Ev.neg c1 h)) E
  refine down (Q := fun x9 => ∀ y : List (List S51), RowsOK y → (y.length : Int) ≤ 10 + 126 * x9 → Fin' (fun k => cellarlaw8_rows.l1 k n ms y x9 A S B)) ?_ ?_
  · exact fun y hy hl => fin 10 y (by omega) (by omega) hy hl
  intro x9 b0 b1 ih y hy hl
  by_cases c1 : x9 < (S.length : Int)
  · have E2 := rows_l2 A S B ms n hn hms hB x9 (10 + 126 * x9) b0 c1 (by omega) (by omega) (fun z hz hlz => ih z hz (by omega)) 1 (by omega) (by omega) y hy (by omega)
    obtain ⟨L, h1, h2⟩ := E2
    refine ⟨L, ?_, h2⟩
    refine Ev.step (fun k => by rw [cellarlaw8_rows.l1]) (Ev.pos c1 ?_)
    rw [decide_eq_true b1]
    exact Ev.step (fun k => by rw [cellarlaw8_rows.j3]) (Ev.pos rfl h1)
  · exact fin x9 y (by omega) (fun h => c1 h.1) hy hl
theorem rows_ev (A : List S38) (S : List S33) (B : List S51) (ms : List S38) (n : Int) (hn : 1 ≤ n ∧ n ≤ 4) (hms : ms.length ≤ 6) (hB : B.length ≤ 300) : Fin' (fun k => cellarlaw8_rows.f k A S B n ms) := by
  have J : ∀ y : List (List S51), RowsOK y → (y.length : Int) ≤ 10 → Fin' (fun k => cellarlaw8_rows.j1 k n ms y A S B) := fun y hy hl =>
    Fin'.imp (fun L h => Ev.step (fun k => by rw [cellarlaw8_rows.j1]) h) (rows_l1 A S B ms n hn hms hB 0 (by omega) (by omega) y hy (by omega))
  have key : ∀ x8 : Int, 0 ≤ x8 → x8 ≤ 10 → ∀ y : List (List S51), RowsOK y → (y.length : Int) ≤ x8 → Fin' (fun k => cellarlaw8_rows.l0 k n ms y x8 A S B) := by
    refine down (Q := fun x8 => ∀ y : List (List S51), RowsOK y → (y.length : Int) ≤ x8 → Fin' (fun k => cellarlaw8_rows.l0 k n ms y x8 A S B)) ?_ ?_
    · intro y hy hl
      exact Fin'.imp (fun L h => Ev.step (fun k => by rw [cellarlaw8_rows.l0]) (Ev.cond (fun _ => Ev.neg (by omega) h) (fun _ => h))) (J y hy (by omega))
    intro x8 a0 a1 ih y hy hl
    have e8 : wrap64 (x8 + n) = x8 + n := w64 (by omega) (by omega)
    by_cases c : wrap64 (x8 + n) ≤ (B.length : Int)
    · refine Fin'.imp (fun L h => Ev.step (fun k => by rw [cellarlaw8_rows.l0]) (Ev.pos c (Ev.pos a1 (Ev.pos a0 (Ev.pos (by rw [e8]; omega) (Ev.pos (by omega) ?_)))))) (ih (y ++ [(B.take (wrap64 (x8 + n)).toNat).drop x8.toNat]) (RowsOK.app hy fun r hr => ?_) (by rw [List.length_append]; simp; omega))
      · rw [w64 (z := x8 + 1) (by omega) (by omega)]
        exact h
      · simp only [List.mem_cons, List.not_mem_nil, or_false] at hr
        subst hr
        rw [List.length_drop, List.length_take]
        omega
    · exact Fin'.imp (fun L h => Ev.step (fun k => by rw [cellarlaw8_rows.l0]) (Ev.neg c h)) (J y hy (by omega))
  unfold cellarlaw8_rows.f
  exact key 0 (by omega) (by omega) [] (fun r hr => absurd hr (by simp)) (by simp)
theorem rd_getL (l : List (List S51)) (i : Nat) (h : i < l.length) : rd_L5 l (i : Int) = l[i] := by
  unfold rd_L5
  simp [List.getD_eq_getElem?_getD, List.getElem?_eq_getElem h]
/-- May these bytes be asked? -/
def okG (ptr kind : Int) (l : List S51) : Bool := decide (ptr = 2 ∨ ptr = 4) && (decide (1 ≤ kind ∧ kind ≤ 7) && (decide ((l.length : Int) = sizev ptr kind) && l.all isB))
theorem get_no (big : Bool) (ptr kind : Int) (l : List S51) (h : okG ptr kind l = false) : Ev (fun k => bytes_Get.f k big ptr kind l) (false, 0, 0, 0, 0, 1) := by
  unfold okG at h
  unfold bytes_Get.f
  refine Ev.bindS (amay _ _) ?_
  cases h1 : decide (ptr = 2 ∨ ptr = 4) with
  | false => exact Ev.neg (by decide) (Ev.now _)
  | true =>
    refine Ev.pos rfl (Ev.bindS (ascalar _) ?_)
    cases h2 : decide (1 ≤ kind ∧ kind ≤ 7) with
    | false => exact Ev.neg (by decide) (Ev.now _)
    | true =>
      refine Ev.pos rfl (Ev.bindS (abytes _ _ _ (of_decide_eq_true h2)) ?_)
      by_cases h3 : (l.length : Int) = sizev ptr kind
      · rw [h1, h2, decide_eq_true h3, Bool.true_and, Bool.true_and, Bool.true_and] at h
        refine Ev.pos h3 (Ev.bindS (any_not l) ?_)
        rw [h]
        exact Ev.pos rfl (Ev.now _)
      · exact Ev.neg h3 (Ev.now _)
theorem get_yes (big : Bool) (ptr kind : Int) (l : List S51) (h : okG ptr kind l = true) : ∃ r : Bool × Int × Int × Int × Int, Ev (fun k => bytes_Get.f k big ptr kind l) (r.1, r.2.1, r.2.2.1, r.2.2.2.1, r.2.2.2.2, 0) ∧ Ev (fun k => cellarref7_Get.f k big ptr kind l) r := by
  unfold okG at h
  rw [Bool.and_eq_true, Bool.and_eq_true, Bool.and_eq_true] at h
  obtain ⟨h1, h2, h3, h4⟩ := h
  have q1 := of_decide_eq_true h1
  have q2 := of_decide_eq_true h2
  have q3 := of_decide_eq_true h3
  obtain ⟨r, e1, e2⟩ := read_get big ptr kind l q1 q2 q3 (List.all_eq_true.1 h4)
  refine ⟨r, ?_, e2⟩
  unfold bytes_Get.f
  refine Ev.bindS (amay _ _) (Ev.pos h1 (Ev.bindS (ascalar _) (Ev.pos h2 (Ev.bindS (abytes _ _ _ q2) (Ev.pos q3 (Ev.bindS (any_not l) ?_))))))
  rw [h4]
  exact Ev.neg (by decide) (Ev.bind e1 (Ev.now _))
theorem rkind (kind : Int) : cellarref1_Kind.f kind = some (decide (1 ≤ kind ∧ kind ≤ 7)) := by
  unfold cellarref1_Kind.f
  rw [btw]
  rfl
theorem get_j6 (A : List S38) (S : List S33) (B : List S51) (ms : List S38) (n : Int) (L : List (List S51)) (x6 x8 x9 x11 x12 : Int) (l : List S51) (s0 : Bool) (s1 s2 s3 : Int)
    (a0 : 0 ≤ x6) (a1 : x6 < L.length) (hl : rd_L5 L x6 = l) (hll : l.length ≤ 300) (b0 : 0 ≤ x9) (b1 : x9 ≤ 100)
    (nx : Ev (fun k => cellarlaw8_BytesGet.l3 k ms n L x6 l x8 (x9 + 1) A S B) true) :
    Ev (fun k => cellarlaw8_BytesGet.j6 k ms n L x6 l x8 x9 x11 x12 x12 x11 A S B s0 s1 s2 s3 s0 s1 s2 s3) true := by
  refine Ev.step (fun k => by rw [cellarlaw8_BytesGet.j6]) ?_
  refine Ev.bindS (show cellarlaw8_num.f x12 = some x12 from rfl) (Ev.pos rfl (Ev.neg (by simp) (Ev.pos rfl (Ev.pos a0 (Ev.pos a1 ?_)))))
  refine Ev.bind ((eq_ev l (rd_L5 L x6) (by omega)).1 hl.symm) (Ev.pos rfl ?_)
  rw [w64 (z := x9 + 1) (by omega) (by omega)]
  exact nx
theorem get_l3 (A : List S38) (S : List S33) (B : List S51) (ms : List S38) (hms : ms.length ≤ 6) (n : Int) (L : List (List S51)) (x6 x8 : Int) (l : List S51)
    (a0 : 0 ≤ x6) (a1 : x6 < L.length) (hl : rd_L5 L x6 = l) (hll : l.length ≤ 300) (k0 : 0 ≤ x8) (k1 : x8 ≤ 11)
    (nx : Ev (fun k => cellarlaw8_BytesGet.l2 k ms n L x6 l (x8 + 1) A S B) true) :
    ∀ x9 : Int, 0 ≤ x9 → x9 ≤ ms.length → Ev (fun k => cellarlaw8_BytesGet.l3 k ms n L x6 l x8 x9 A S B) true := by
  refine down (Q := fun x9 => Ev (fun k => cellarlaw8_BytesGet.l3 k ms n L x6 l x8 x9 A S B) true) ?_ ?_
  · refine Ev.step (fun k => by rw [cellarlaw8_BytesGet.l3]) (Ev.neg (by omega) ?_)
    rw [w64 (z := x8 + 1) (by omega) (by omega)]
    exact nx
  intro x9 b0 b1 ih
  have J5 : ∀ (x11 x12 : Int) (s0 : Bool) (s1 s2 s3 : Int), (s0, s1, s2, s3, x11, x12) = ((false, 0, 0, 0, 0, 1) : Bool × Int × Int × Int × Int × Int) → Ev (fun k => cellarlaw8_BytesGet.j5 k ms n L x6 l x8 x9 x11 x12 1 0 false A S B s0 s1 s2 s3 false 0 0 0) true := by
    intro x11 x12 s0 s1 s2 s3 h
    injection h with h1 h; injection h with h2 h; injection h with h3 h; injection h with h4 h; injection h with h5 h6
    subst h1 h2 h3 h4 h5 h6
    exact Ev.step (fun k => by rw [cellarlaw8_BytesGet.j5]) (Ev.neg (by decide) (get_j6 A S B ms n L x6 x8 x9 0 1 l false 0 0 0 a0 a1 hl hll b0 (by omega) ih))
  refine Ev.step (fun k => by rw [cellarlaw8_BytesGet.l3]) (Ev.pos b1 (Ev.pos b0 ?_))
  cases ho : okG (rd_T38 ms x9).f1 x8 l with
  | false =>
    refine Ev.bind (get_no _ _ _ _ ho) (Ev.bindS (rabi _ _) ?_)
    unfold okG at ho
    cases h1 : decide ((rd_T38 ms x9).f1 = 2 ∨ (rd_T38 ms x9).f1 = 4) with
    | false => exact Ev.neg (by decide) (J5 _ _ _ _ _ _ rfl)
    | true =>
      refine Ev.pos rfl (Ev.bindS (rkind _) ?_)
      cases h2 : decide (1 ≤ x8 ∧ x8 ≤ 7) with
      | false => exact Ev.neg (by decide) (J5 _ _ _ _ _ _ rfl)
      | true =>
        refine Ev.pos rfl (Ev.bind (Ev.plus 2 fun k => rsize k _ _ _ (of_decide_eq_true h2)) ?_)
        by_cases h3 : (l.length : Int) = sizev (rd_T38 ms x9).f1 x8
        · rw [h1, h2, decide_eq_true h3, Bool.true_and, Bool.true_and, Bool.true_and] at ho
          refine Ev.pos h3 (Ev.bind (bytes_all l (by omega)) ?_)
          rw [ho]
          exact J5 _ _ _ _ _ _ rfl
        · exact Ev.neg h3 (J5 _ _ _ _ _ _ rfl)
  | true =>
    obtain ⟨r, e1, e2⟩ := get_yes (rd_T38 ms x9).f0 _ _ _ ho
    unfold okG at ho
    rw [Bool.and_eq_true, Bool.and_eq_true, Bool.and_eq_true] at ho
    obtain ⟨h1, h2, h3, h4⟩ := ho
    refine Ev.bind e1 (Ev.bindS (rabi _ _) (Ev.pos h1 (Ev.bindS (rkind _) (Ev.pos h2 (Ev.bind (Ev.plus 2 fun k => rsize k _ _ _ (of_decide_eq_true h2)) (Ev.pos (of_decide_eq_true h3) (Ev.bind (bytes_all l (by omega)) ?_)))))))
    rw [h4]
    refine Ev.step (fun k => by rw [cellarlaw8_BytesGet.j5]) (Ev.pos rfl (Ev.pos b0 (Ev.pos b1 (Ev.bind e2 ?_))))
    exact get_j6 A S B ms n L x6 x8 x9 _ 0 l _ _ _ _ a0 a1 hl hll b0 (by omega) ih
theorem get_l1 (A : List S38) (S : List S33) (B : List S51) (ms : List S38) (hms : ms.length ≤ 6) (n : Int) (n0 : 1 ≤ n ∧ n ≤ 4) (L : List (List S51)) (hL : RowsOK L) (hLl : L.length ≤ 2000) (nx : Ev (fun k => cellarlaw8_BytesGet.l0 k ms (n * 2) A S B) true) :
    ∀ x6 : Int, 0 ≤ x6 → x6 ≤ L.length → Ev (fun k => cellarlaw8_BytesGet.l1 k ms n L x6 A S B) true := by
  have fin : ∀ x6 : Int, Ev (fun k => cellarlaw8_BytesGet.j2 k ms n L x6 false A S B) true := by
    intro x6
    refine Ev.step (fun k => by rw [cellarlaw8_BytesGet.j2]) (Ev.neg (by decide) ?_)
    rw [w64 (z := n * 2) (by omega) (by omega)]
    exact nx
  refine down (Q := fun x6 => Ev (fun k => cellarlaw8_BytesGet.l1 k ms n L x6 A S B) true) ?_ ?_
  · exact Ev.step (fun k => by rw [cellarlaw8_BytesGet.l1]) (Ev.neg (by omega) (fin _))
  intro x6 a0 a1 ih
  refine Ev.step (fun k => by rw [cellarlaw8_BytesGet.l1]) (Ev.pos a1 ?_)
  cases c : decide (x6 < 60) with
  | false => exact fin _
  | true =>
    refine Ev.step (fun k => by rw [cellarlaw8_BytesGet.j2]) (Ev.pos rfl (Ev.pos a0 (Ev.pos a1 ?_)))
    have hlen : (rd_L5 L x6).length ≤ 300 := by
      obtain ⟨i, rfl⟩ := Int.eq_ofNat_of_zero_le a0
      rw [rd_getL L i (by omega)]
      exact hL _ (List.getElem_mem _)
    refine Ev.bind (copy_ev _ (by omega)) ?_
    have key : ∀ x8 : Int, 0 ≤ x8 → x8 ≤ 12 → Ev (fun k => cellarlaw8_BytesGet.l2 k ms n L x6 (rd_L5 L x6) x8 A S B) true := by
      refine down (Q := fun x8 => Ev (fun k => cellarlaw8_BytesGet.l2 k ms n L x6 (rd_L5 L x6) x8 A S B) true) ?_ ?_
      · refine Ev.step (fun k => by rw [cellarlaw8_BytesGet.l2]) (Ev.neg (by omega) ?_)
        rw [w64 (z := x6 + 1) (by omega) (by omega)]
        exact ih
      intro x8 k0 k1 ih8
      exact Ev.step (fun k => by rw [cellarlaw8_BytesGet.l2]) (Ev.pos (by omega) (get_l3 A S B ms hms n L x6 x8 _ a0 a1 rfl hlen k0 (by omega) ih8 0 (by omega) (by omega)))
    exact key 0 (by omega) (by omega)
theorem get_l0 (A : List S38) (S : List S33) (B : List S51) (ms : List S38) (hms : ms.length ≤ 6) (hB : B.length ≤ 300) (n : Int) (n0 : 1 ≤ n ∧ n ≤ 4) (nx : Ev (fun k => cellarlaw8_BytesGet.l0 k ms (n * 2) A S B) true) :
    Ev (fun k => cellarlaw8_BytesGet.l0 k ms n A S B) true := by
  obtain ⟨L, h, hL, hl⟩ := rows_ev A S B ms n n0 hms hB
  exact Ev.step (fun k => by rw [cellarlaw8_BytesGet.l0]) (Ev.pos (by omega) (Ev.bind h (get_l1 A S B ms hms n n0 L hL hl nx 0 (by omega) (by omega))))
theorem get_true (A : List S38) (S : List S33) (B : List S51) (hA : A.length ≤ 140737488351232) (hS : S.length ≤ 140737488351232) (hB : B.length ≤ 140737488351232) :
    Ev (fun k => cellarlaw8_BytesGet.f k A S B) true := by
  unfold cellarlaw8_BytesGet.f
  refine Ev.bindS (heavy A S B hA hS hB) ?_
  by_cases c : 300 < A.length + S.length + B.length
  · exact Ev.pos (decide_eq_true c) (Ev.now _)
  · refine Ev.neg (by rw [decide_eq_true_eq]; exact c) ?_
    obtain ⟨ms, hm, hl⟩ := machines A (by omega)
    refine Ev.bindS hm ?_
    have e8 : Ev (fun k => cellarlaw8_BytesGet.l0 k ms (1 * 2 * 2 * 2) A S B) true := Ev.step (fun k => by rw [cellarlaw8_BytesGet.l0]) (Ev.neg (by omega) (Ev.bind wakes_ev (Ev.now _)))
    have e4 := get_l0 A S B ms hl (by omega) (1 * 2 * 2) (by omega) e8
    exact get_l0 A S B ms hl (by omega) 1 (by omega) (get_l0 A S B ms hl (by omega) (1 * 2) (by omega) e4)
end Go.Proofs.Ythhdmanpjeminaa.H
