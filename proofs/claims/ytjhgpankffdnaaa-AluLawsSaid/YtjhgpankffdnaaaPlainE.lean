/- The operators of numbers: what the program's alu and word tell of any two numbers of any kind is what the reference tells; the loops over kinds and numbers then answer true. No Go and no memory in it. -/
import Derived.Test.YtjhgpankffdnaaaAx11
import Derived.Test.YtjhgpankffdnaaaArgA
import Derived.Test.YtjhgpankffdnaaaEvs
namespace Go.Proofs.Ytjhgpankffdnaaa.A
open Go.RowKit Go.Proofs.YtjhgpankffdnaaaW.PrintWords Go.Proofs.YtjhgpankffdnaaaW.PrintLast Go.Proofs.YtjhgpankffdnaaaW.PrintMore Go.Proofs.Ytjhgpankffdnaaa.Evs
set_option linter.unusedVariables false
set_option linter.unusedSimpArgs false

/-! ### Bits -/
theorem mask_nat (n : Int) (j : Nat) : ((BitVec.ofInt 64 n).toNat &&& (2 ^ j - 1) : Nat) = (n % 18446744073709551616).toNat % 2 ^ j := by
  rw [Nat.and_two_pow_sub_one_eq_mod, BitVec.toNat_ofInt]
  rfl

theorem mask_i64 (n : Int) (j : Nat) (m : Nat) (hm : m = 2 ^ j - 1) (hj : j ≤ 32) : Go.bits .and .i64 n (m : Int) = (((n % 18446744073709551616).toNat % 2 ^ j : Nat) : Int) := by
  have hp : 2 ^ j ≤ 2 ^ 32 := Nat.pow_le_pow_right (by decide) hj
  have h0 : 0 < 2 ^ j := Nat.two_pow_pos j
  have h1 : (n % 18446744073709551616).toNat % 2 ^ j < 2 ^ 32 := Nat.lt_of_lt_of_le (Nat.mod_lt _ h0) hp
  have e : (BitVec.ofInt 64 (m : Int)).toNat = m := by
    rw [BitVec.ofInt_natCast, BitVec.toNat_ofNat]
    exact Nat.mod_eq_of_lt (by omega)
  show IntKind.i64.wrap ((BitVec.ofInt 64 n &&& BitVec.ofInt 64 (m : Int)).toNat : Int) = _
  rw [BitVec.toNat_and, e, hm, mask_nat, IntKind.wrap_i64]
  omega

theorem mask_u64 (n : Int) (j : Nat) (m : Nat) (hm : m = 2 ^ j - 1) (hj : j ≤ 32) : Go.bits .and .u64 n (m : Int) = (((n % 18446744073709551616).toNat % 2 ^ j : Nat) : Int) := by
  have hp : 2 ^ j ≤ 2 ^ 32 := Nat.pow_le_pow_right (by decide) hj
  have h0 : 0 < 2 ^ j := Nat.two_pow_pos j
  have h1 : (n % 18446744073709551616).toNat % 2 ^ j < 2 ^ 32 := Nat.lt_of_lt_of_le (Nat.mod_lt _ h0) hp
  have e : (BitVec.ofInt 64 (m : Int)).toNat = m := by
    rw [BitVec.ofInt_natCast, BitVec.toNat_ofNat]
    exact Nat.mod_eq_of_lt (by omega)
  show IntKind.u64.wrap ((BitVec.ofInt 64 n &&& BitVec.ofInt 64 (m : Int)).toNat : Int) = _
  rw [BitVec.toNat_and, e, hm, mask_nat]
  generalize (n % 18446744073709551616).toNat % 2 ^ j = z at h1 ⊢
  simp [IntKind.wrap, IntKind.bits, IntKind.signed]
  omega

theorem mask8 (n : Int) : Go.bits .and .i64 n 255 = n % 256 := by
  have h := mask_i64 n 8 255 (by decide) (by decide)
  have e : ((255 : Nat) : Int) = 255 := rfl
  rw [e] at h
  rw [h]
  omega
theorem mask16 (n : Int) : Go.bits .and .i64 n 65535 = n % 65536 := by
  have h := mask_i64 n 16 65535 (by decide) (by decide)
  have e : ((65535 : Nat) : Int) = 65535 := rfl
  rw [e] at h
  rw [h]
  omega
theorem mask32 (n : Int) : Go.bits .and .i64 n 4294967295 = n % 4294967296 := by
  have h := mask_i64 n 32 4294967295 (by decide) (by decide)
  have e : ((4294967295 : Nat) : Int) = 4294967295 := rfl
  rw [e] at h
  rw [h]
  omega
theorem umask8 (n : Int) : Go.bits .and .u64 n 255 = n % 256 := by
  have h := mask_u64 n 8 255 (by decide) (by decide)
  have e : ((255 : Nat) : Int) = 255 := rfl
  rw [e] at h
  rw [h]
  omega
theorem umask16 (n : Int) : Go.bits .and .u64 n 65535 = n % 65536 := by
  have h := mask_u64 n 16 65535 (by decide) (by decide)
  have e : ((65535 : Nat) : Int) = 65535 := rfl
  rw [e] at h
  rw [h]
  omega
theorem umask32 (n : Int) : Go.bits .and .u64 n 4294967295 = n % 4294967296 := by
  have h := mask_u64 n 32 4294967295 (by decide) (by decide)
  have e : ((4294967295 : Nat) : Int) = 4294967295 := rfl
  rw [e] at h
  rw [h]
  omega

/-! ### Kinds -/
/-- What is known of a kind of numbers: its width w, half of its numbers h, all of them P, whether it is signed. -/
structure KD (kind w h P : Int) (s : Bool) : Prop where
  of : word_Of.f kind = some w
  sg : word_IsSigned.f kind = some s
  rsg : cellarref1_Signed.f kind = some s
  wd : ∀ k, cellarref1_Width.f (k + 2) kind = some w
  isk : word_IsKind.f kind = some true
  w1 : 8 ≤ w
  w2 : w ≤ 32
  ww : wrap64 (w - 1) = w - 1
  s1 : shl .i64 1 w = P
  s2 : shl .i64 1 (w - 1) = h
  s3 : shl .i64 (-1) (w - 1) = -h
  su : shl .u64 1 w = P
  PP : P = 2 * h
  h1 : 128 ≤ h
  h2 : h ≤ 2147483648
  msk : ∀ n, Go.bits .and .i64 n (P - 1) = n % P
  msku : ∀ n, Go.bits .and .u64 n (P - 1) = n % P
  dvd : P ∣ 18446744073709551616

theorem kd8 (kind : Int) (s : Bool) (of : word_Of.f kind = some 8) (sg : word_IsSigned.f kind = some s) (rsg : cellarref1_Signed.f kind = some s) (wd : ∀ k, cellarref1_Width.f (k + 2) kind = some 8) (isk : word_IsKind.f kind = some true) : KD kind 8 128 256 s :=
  ⟨of, sg, rsg, wd, isk, by decide, by decide, by decide +kernel, by decide +kernel, by decide +kernel, by decide +kernel, by decide +kernel, by decide, by decide, by decide, mask8, umask8, ⟨72057594037927936, by decide⟩⟩
theorem kd16 (kind : Int) (s : Bool) (of : word_Of.f kind = some 16) (sg : word_IsSigned.f kind = some s) (rsg : cellarref1_Signed.f kind = some s) (wd : ∀ k, cellarref1_Width.f (k + 2) kind = some 16) (isk : word_IsKind.f kind = some true) : KD kind 16 32768 65536 s :=
  ⟨of, sg, rsg, wd, isk, by decide, by decide, by decide +kernel, by decide +kernel, by decide +kernel, by decide +kernel, by decide +kernel, by decide, by decide, by decide, mask16, umask16, ⟨281474976710656, by decide⟩⟩
theorem kd32 (kind : Int) (s : Bool) (of : word_Of.f kind = some 32) (sg : word_IsSigned.f kind = some s) (rsg : cellarref1_Signed.f kind = some s) (wd : ∀ k, cellarref1_Width.f (k + 2) kind = some 32) (isk : word_IsKind.f kind = some true) : KD kind 32 2147483648 4294967296 s :=
  ⟨of, sg, rsg, wd, isk, by decide, by decide, by decide +kernel, by decide +kernel, by decide +kernel, by decide +kernel, by decide +kernel, by decide, by decide, by decide, mask32, umask32, ⟨4294967296, by decide⟩⟩

theorem kd_of (kind : Int) (h0 : 1 ≤ kind) (h1 : kind ≤ 6) : ∃ w h P s, KD kind w h P s := by
  have : kind = 1 ∨ kind = 2 ∨ kind = 3 ∨ kind = 4 ∨ kind = 5 ∨ kind = 6 := by omega
  rcases this with rfl | rfl | rfl | rfl | rfl | rfl
  · exact ⟨_, _, _, _, kd8 1 false (by decide +kernel) (by decide +kernel) (by decide +kernel) (fun k => rfl) (by decide +kernel)⟩
  · exact ⟨_, _, _, _, kd8 2 true (by decide +kernel) (by decide +kernel) (by decide +kernel) (fun k => rfl) (by decide +kernel)⟩
  · exact ⟨_, _, _, _, kd16 3 false (by decide +kernel) (by decide +kernel) (by decide +kernel) (fun k => rfl) (by decide +kernel)⟩
  · exact ⟨_, _, _, _, kd16 4 true (by decide +kernel) (by decide +kernel) (by decide +kernel) (fun k => rfl) (by decide +kernel)⟩
  · exact ⟨_, _, _, _, kd32 5 false (by decide +kernel) (by decide +kernel) (by decide +kernel) (fun k => rfl) (by decide +kernel)⟩
  · exact ⟨_, _, _, _, kd32 6 true (by decide +kernel) (by decide +kernel) (by decide +kernel) (fun k => rfl) (by decide +kernel)⟩

theorem no_kind (kind : Int) (h : kind < 1 ∨ 6 < kind) (k : Nat) : cellarref1_Width.f (k + 2) kind = some 0 := by
  unfold cellarref1_Width.f
  rw [if_neg (by omega)]
  simp only [cellarref1_Width.j0]
  rw [if_neg (by simp; omega), if_neg (by omega)]
  simp only [cellarref1_Width.j1]
  rw [if_neg (by simp; omega), if_neg (by omega), if_neg (by omega)]
theorem no_isk (kind : Int) (h : kind < 1 ∨ 6 < kind) : word_IsKind.f kind = some false := by
  unfold word_IsKind.f
  by_cases h1 : kind ≥ 1
  · rw [if_pos h1]
    simp
    omega
  · rw [if_neg h1]

/-! ### Operators -/
theorem ww_small {z : Int} (h0 : -9223372036854775808 ≤ z) (h1 : z ≤ 9223372036854775807) : wrap64 z = z := by unfold wrap64; omega

/-- A number as its kind sees it. -/
def sv (s : Bool) (h P a : Int) : Int := if s = true then (if a ≥ h then a - P else a) else a
/-- A view as a number, and what goes wrong. -/
def fitv (s : Bool) (h P n : Int) : Int × Int := if s = true ∧ (n < -h ∨ n > h - 1) then (0, 4) else (n % P, 0)

section
variable {kind w h P : Int} {s : Bool} (K : KD kind w h P s)
include K
theorem KD.pm : wrap64 (P - 1) = P - 1 := by have := K.PP; have := K.h1; have := K.h2; exact ww_small (by omega) (by omega)
theorem KD.hm : wrap64 (h - 1) = h - 1 := by have := K.h1; have := K.h2; exact ww_small (by omega) (by omega)
theorem KD.nh : wrap64 (-h) = -h := by have := K.h1; have := K.h2; exact ww_small (by omega) (by omega)
theorem KD.w0 : 0 ≤ w := by have := K.w1; omega
theorem KD.w10 : 0 ≤ w - 1 := by have := K.w1; omega
theorem KD.most : word_Most.f w = some (P - 1) := by
  unfold word_Most.f
  rw [if_pos K.w0, K.s1, K.pm]
theorem KD.cut (n : Int) : word_Cut.f n w = some (n % P) := by
  unfold word_Cut.f
  rw [K.most, Option.bind_some, K.msk]
theorem KD.is (n : Int) : word_Is.f n w = some (decide (0 ≤ n ∧ n < P)) := by
  unfold word_Is.f
  by_cases hn : n ≥ 0
  · rw [if_pos hn, K.most, Option.bind_some]
    congr 1
    rw [decide_eq_decide]
    omega
  · rw [if_neg hn]
    congr 1
    symm
    rw [decide_eq_false_iff_not]
    omega
theorem KD.number (n : Int) : cellarref1_Number.f n w = some (decide (0 ≤ n ∧ n < P)) := by
  unfold cellarref1_Number.f cellarref0_Num.f
  rw [if_pos K.w0, K.s1, K.pm]
  by_cases hn : n ≥ 0
  · rw [if_pos hn, Option.bind_some]
    congr 1
    rw [decide_eq_decide]
    omega
  · rw [if_neg hn, Option.bind_some]
    congr 1
    symm
    rw [decide_eq_false_iff_not]
    omega
theorem KD.wrap (n : Int) : cellarref1_Wrap.f n w = some (n % P) := by
  unfold cellarref1_Wrap.f
  rw [if_pos K.w0, K.s1, K.pm, K.msk]
theorem KD.look (a : Int) (h0 : 0 ≤ a) (h1 : a < P) : word_Look.f a w = some (if a ≥ h then a - P else a) := by
  have := K.PP
  have := K.h2
  unfold word_Look.f
  rw [K.ww, if_pos K.w10, K.s2, K.s1]
  by_cases c : a ≥ h
  · rw [if_pos c, if_pos c, if_pos K.w0, ww_small (by omega) (by omega)]
  · rw [if_neg c, if_neg c]
theorem KD.view (a : Int) (h0 : 0 ≤ a) (h1 : a < P) : cellarref1_View.f a w = some (if a ≥ h then a - P else a) := by
  have := K.PP
  have := K.h2
  unfold cellarref1_View.f
  rw [K.ww, if_pos K.w10, K.s2, K.s1]
  by_cases c : a ≥ h
  · rw [if_pos c, if_pos c, if_pos K.w0, ww_small (by omega) (by omega)]
  · rw [if_neg c, if_neg c]
theorem KD.seen (a : Int) (h0 : 0 ≤ a) (h1 : a < P) : word_Seen.f kind a = some (sv s h P a) := by
  unfold word_Seen.f sv
  rw [K.sg, Option.bind_some]
  cases s with
  | true => rw [if_pos rfl, if_pos rfl, K.of, Option.bind_some, K.look a h0 h1, Option.bind_some]
  | false => rw [if_neg (by decide), if_neg (by decide)]
theorem KD.see (k : Nat) (a : Int) (h0 : 0 ≤ a) (h1 : a < P) : cellarref1_see.f (k + 2) kind a = some (sv s h P a) := by
  unfold cellarref1_see.f sv
  rw [K.rsg, Option.bind_some]
  cases s with
  | true => rw [if_pos rfl, if_pos rfl, K.wd, Option.bind_some, K.view a h0 h1, Option.bind_some]
  | false => rw [if_neg (by decide), if_neg (by decide)]
theorem KD.amost : alu_Most.f kind = some (if s = true then (-h, h - 1) else (0, P - 1)) := by
  unfold alu_Most.f
  rw [K.of, Option.bind_some, K.sg, Option.bind_some]
  cases s with
  | true => rw [if_pos rfl, if_pos rfl, K.ww, if_pos K.w10, K.s3, K.s2, K.hm]
  | false => rw [if_neg (by decide), if_neg (by decide), K.most, Option.bind_some]
theorem KD.fit (k : Nat) (n : Int) : alu_fit.f (k + 1) kind n = some (fitv s h P n) := by
  unfold alu_fit.f fitv
  rw [K.amost, Option.bind_some, K.sg, Option.bind_some]
  simp only [alu_fit.j0, K.of, Option.bind_some, K.cut]
  cases s with
  | true =>
    simp only [if_true, true_and, gt_iff_lt, ge_iff_le]
    by_cases c : n < -h
    · rw [if_pos c, if_pos (.inl c)]
    · rw [if_neg c]
      by_cases c2 : h - 1 < n
      · rw [if_pos (decide_eq_true c2), if_pos (.inr c2)]
      · rw [if_neg (by simp; omega), if_neg (by omega)]
  | false => simp
theorem KD.rfit (k : Nat) (n : Int) : cellarref1_fit.f (k + 2) kind n = some (fitv s h P n) := by
  have := K.h1
  have := K.h2
  unfold cellarref1_fit.f fitv cellarref0_Between.f
  rw [K.wd, Option.bind_some, K.rsg, Option.bind_some, K.ww, K.s2, K.nh, K.hm, K.wrap, Option.bind_some]
  cases s with
  | true =>
    rw [if_pos rfl, if_pos K.w10]
    by_cases c : n ≥ -h
    · rw [if_pos c, Option.bind_some]
      by_cases c2 : n ≤ h - 1
      · rw [if_pos (decide_eq_true c2), if_neg (by omega)]
      · rw [if_neg (by simp; omega), if_pos ⟨rfl, by omega⟩]
    · rw [if_neg c, Option.bind_some, if_neg (by decide), if_pos ⟨rfl, by omega⟩]
  | false => simp
theorem KD.sv_range (a : Int) (h0 : 0 ≤ a) (h1 : a < P) : -4294967296 ≤ sv s h P a ∧ sv s h P a ≤ 4294967296 ∧ (s = true → -h ≤ sv s h P a ∧ sv s h P a ≤ h - 1) ∧ (s = false → 0 ≤ sv s h P a ∧ sv s h P a < P) := by
  have := K.PP
  have := K.h2
  unfold sv
  cases s with
  | true =>
    simp only [if_true]
    refine ⟨?_, ?_, fun _ => ?_, fun h => by cases h⟩ <;> split <;> omega
  | false => simp; omega
theorem KD.sv_inj (a b : Int) (h0 : 0 ≤ a) (h1 : a < P) (h2 : 0 ≤ b) (h3 : b < P) : sv s h P a = sv s h P b ↔ a = b := by
  have := K.PP
  unfold sv
  cases s with
  | true =>
    simp only [if_true]
    constructor
    · intro e
      split at e <;> split at e <;> omega
    · rintro rfl
      rfl
  | false => simp
end

theorem tdiv_range (h u v : Int) (hh : 1 ≤ h) (h0 : -h ≤ u) (h1 : u ≤ h - 1) (hv : v ≠ 0) (hn : ¬ (u = -h ∧ v = -1)) : -h ≤ Int.tdiv u v ∧ Int.tdiv u v ≤ h - 1 := by
  have e : (Int.tdiv u v).natAbs = u.natAbs / v.natAbs := Int.natAbs_tdiv u v
  by_cases v1 : v = 1
  · subst v1
    rw [Int.tdiv_one]
    omega
  · by_cases v2 : v = -1
    · subst v2
      have e2 : Int.tdiv u (-1) = -u := by rw [Int.tdiv_neg, Int.tdiv_one]
      rw [e2]
      omega
    · have h2 : 2 ≤ v.natAbs := by omega
      have h3 : u.natAbs / v.natAbs ≤ u.natAbs / 2 := Nat.div_le_div_left h2 (by decide)
      by_cases hz : h = 1
      · subst hz
        omega
      · omega

theorem tmod_range (h u v : Int) (hh : 1 ≤ h) (h0 : -h ≤ u) (h1 : u ≤ h - 1) : -h ≤ Int.tmod u v ∧ Int.tmod u v ≤ h - 1 := by
  have e : (Int.tmod u v).natAbs = u.natAbs % v.natAbs := Int.natAbs_tmod u v
  have h3 : u.natAbs % v.natAbs ≤ u.natAbs := Nat.mod_le _ _
  by_cases c : 0 ≤ u
  · have := Int.tmod_nonneg v c
    omega
  · have e2 : Int.tmod u v = -(Int.tmod (-u) v) := by rw [Int.neg_tmod, Int.neg_neg]
    have := Int.tmod_nonneg v (show 0 ≤ -u by omega)
    omega

section
variable {kind w h P : Int} {s : Bool} (K : KD kind w h P s)
include K
omit K in
theorem KD.fit_ok (n : Int) (hn : s = true → -h ≤ n ∧ n ≤ h - 1) : fitv s h P n = (n % P, 0) := by
  unfold fitv
  rw [if_neg]
  rintro ⟨hs, hb⟩
  have := hn hs
  omega
/-- What a division tells. -/
def divv (s : Bool) (h P op u v : Int) : Int × Int := if v = 0 then (0, 6) else if s = true ∧ u = -h ∧ v = -1 then (0, 4) else if op = 11 then (wrap64 (Int.tdiv u v) % P, 0) else (Int.tmod u v % P, 0)
theorem KD.divide (k : Nat) (op u v : Int) (hu : s = true → -h ≤ u ∧ u ≤ h - 1) : alu_divide.f (k + 2) op kind u v = some (divv s h P op u v) := by
  have hh := K.h1
  have hh2 := K.h2
  unfold alu_divide.f divv
  rw [K.amost, Option.bind_some]
  by_cases v0 : v = 0
  · rw [if_pos v0, if_pos v0]
  · rw [if_neg v0, if_neg v0, K.sg, Option.bind_some]
    have key : ∀ fl : Bool, (fl = true ↔ (s = true ∧ u = -h ∧ v = -1)) → alu_divide.j0 (k + 2) op kind u v fl = some (if s = true ∧ u = -h ∧ v = -1 then (0, 4) else if op = 11 then (wrap64 (Int.tdiv u v) % P, 0) else (Int.tmod u v % P, 0)) := by
      intro fl hfl
      simp only [alu_divide.j0, K.fit, Option.bind_some]
      by_cases c : s = true ∧ u = -h ∧ v = -1
      · rw [if_pos (hfl.2 c), if_pos c]
      · rw [if_neg (fun e => c (hfl.1 e)), if_neg c, if_neg v0]
        by_cases o : op = 11
        · rw [if_pos o, if_pos o]
          rw [KD.fit_ok]
          intro hs
          have r := tdiv_range h u v (by omega) (hu hs).1 (hu hs).2 v0 (fun e => c ⟨hs, e⟩)
          rw [ww_small (by omega) (by omega)]
          exact r
        · rw [if_neg o, if_neg o, if_neg v0]
          rw [KD.fit_ok]
          intro hs
          exact tmod_range h u v (by omega) (hu hs).1 (hu hs).2
    cases s with
    | true =>
      rw [if_pos rfl]
      simp only [if_true]
      by_cases c : u = -h
      · rw [if_pos c]
        refine (key (v == -1) (by simp [c])).trans ?_
        simp
      · rw [if_neg c]
        refine (key false (by simp [c])).trans ?_
        simp
    | false =>
      rw [if_neg (by decide)]
      exact key false (by simp)
/-- What a shift tells. -/
def shv (w P op a u v : Int) : Int × Int := if v < 0 ∨ v ≥ w then (0, 5) else if op = 16 then (shl .i64 a v % P, 0) else (shr .i64 u v % P, 0)
theorem KD.shift (k : Nat) (op a u v : Int) : alu_shift.f (k + 1) op kind a u v = some (shv w P op a u v) := by
  unfold alu_shift.f shv
  rw [K.of, Option.bind_some]
  simp only [alu_shift.j0, K.cut, Option.bind_some]
  by_cases c : v < 0
  · simp [c]
  · have v0 : 0 ≤ v := by omega
    by_cases c2 : v ≥ w
    · simp [c, c2]
    · simp only [c, c2, v0, if_true, if_false, false_or, decide_false, Bool.false_eq_true, or_self]
      split <;> rfl
/-- What an operator of two tells. -/
def two (s : Bool) (w h P op a b : Int) : Int × Int :=
  if op = 8 then fitv s h P (wrap64 (sv s h P a + sv s h P b)) else if op = 9 then fitv s h P (wrap64 (sv s h P a - sv s h P b)) else if op = 10 then fitv s h P (wrap64 (sv s h P a * sv s h P b))
  else if op = 11 ∨ op = 12 then divv s h P op (sv s h P a) (sv s h P b) else if op = 13 then (Go.bits .and .i64 a b, 0) else if op = 14 then (Go.bits .or .i64 a b, 0) else if op = 15 then (Go.bits .xor .i64 a b, 0)
  else if op = 16 ∨ op = 17 then shv w P op a (sv s h P a) (sv s h P b) else if op = 18 then (if a = b then 1 else 0, 0) else (if sv s h P a < sv s h P b then 1 else 0, 0)
omit K in
theorem told_some (b : Bool) : alu_told.f b = some (if b = true then 1 else 0) := by unfold alu_told.f; split <;> rfl
theorem KD.do_ (k : Nat) (op a b : Int) (a0 : 0 ≤ a) (a1 : a < P) (b0 : 0 ≤ b) (b1 : b < P) : alu_Do.f (k + 4) op kind a b = some (two s w h P op a b) := by
  have ha := (K.sv_range a a0 a1).2.2.1
  have hj := K.sv_inj a b a0 a1 b0 b1
  unfold alu_Do.f two
  rw [K.seen a a0 a1, K.seen b b0 b1, Option.bind_some, Option.bind_some]
  simp only [alu_Do.j0, alu_Do.j1, K.fit, K.divide _ _ _ _ ha, K.shift, Option.bind_some, told_some]
  by_cases o8 : op = 8
  · subst o8
    simp
  by_cases o9 : op = 9
  · subst o9
    simp
  by_cases o10 : op = 10
  · subst o10
    simp
  by_cases o11 : op = 11
  · subst o11
    simp
  by_cases o12 : op = 12
  · subst o12
    simp
  by_cases o13 : op = 13
  · subst o13
    simp
  by_cases o14 : op = 14
  · subst o14
    simp
  by_cases o15 : op = 15
  · subst o15
    simp
  by_cases o16 : op = 16
  · subst o16
    simp
  by_cases o17 : op = 17
  · subst o17
    simp
  by_cases o18 : op = 18
  · subst o18
    by_cases e : a = b
    · simp [e]
    · have : ¬ sv s h P a = sv s h P b := fun z => e (hj.1 z)
      simp [e, this]
  · simp [o8, o9, o10, o11, o12, o13, o14, o15, o16, o17, o18]
end

/-! ### What the laws' loops need -/
theorem texts_ev (l : List ByteArray) (hl : l.length * 16 ≤ 140737488351232) : ∃ t, Ev (fun k => cellarlaw0_Texts.f k l) t := by
  have key : ∀ i : Int, 0 ≤ i → i ≤ l.length → ∀ n, ∃ t, Ev (fun k => cellarlaw0_Texts.l0 k l n i) t := by
    refine down (Q := fun i => ∀ n, ∃ t, Ev (fun k => cellarlaw0_Texts.l0 k l n i) t) ?_ ?_
    · intro n
      exact ⟨n, Ev.step (fun k => by rw [cellarlaw0_Texts.l0]) (Ev.neg (by omega) (Ev.now _))⟩
    · intro i h0 h1 ih n
      by_cases c : n < 1048576
      · obtain ⟨t, ht⟩ := ih (wrap64 (n + ((rdOf ByteArray.empty l i).size : Int)))
        refine ⟨t, Ev.step (fun k => by rw [cellarlaw0_Texts.l0]) (Ev.pos h1 (Ev.pos c (Ev.pos h0 ?_)))⟩
        rw [w64 (z := i + 1) (by omega) (by omega)]
        exact ht
      · exact ⟨n, Ev.step (fun k => by rw [cellarlaw0_Texts.l0]) (Ev.pos h1 (Ev.neg c (Ev.now _)))⟩
  obtain ⟨t, ht⟩ := key 0 (by omega) (by omega) l.length
  exact ⟨t, ht⟩
theorem heavy_ev (l0 : List Int) (l1 : List ByteArray) (l2 : List S34) (h : Arg26 l0 l1 l2) : ∃ b, Ev (fun k => cellarlaw1_Heavy.f k l0 l1 l2) b ∧ (b = false → l0.length ≤ 100 ∧ l2.length ≤ 100) := by
  have e0 := h.1.1
  have e1 := h.2.1.1
  have e2 := h.2.2.1
  unfold cellarlaw1_Heavy.f
  have ew : wrap64 ((l0.length : Int) + (l2.length : Int)) = (l0.length : Int) + (l2.length : Int) := w64 (by omega) (by omega)
  rw [ew]
  by_cases c : (l0.length : Int) + (l2.length : Int) > 100
  · exact ⟨true, Ev.pos c (Ev.now _), fun h => by cases h⟩
  · obtain ⟨t, ht⟩ := texts_ev l1 e1
    exact ⟨decide (t > 1000), Ev.neg c (Ev.bind ht (Ev.now _)), fun _ => by omega⟩
theorem numbers_ev (l0 : List Int) (l1 : List ByteArray) (l2 : List S34) (kind : Int) (hl : l0.length ≤ 100) : ∃ ns : List Int, Ev (fun k => cellarlaw2_Numbers.f k l0 l1 l2 kind) ns ∧ ns.length ≤ 300 := by
  by_cases hk : 1 ≤ kind ∧ kind ≤ 6
  · obtain ⟨w, h, P, s, K⟩ := kd_of kind hk.1 hk.2
    have w1 := K.w1
    have key : ∀ i : Int, 0 ≤ i → i ≤ l0.length → ∀ x : List Int, (x.length : Int) ≤ 100 + i → ∃ ns : List Int, Ev (fun k => cellarlaw2_Numbers.l0 k w x i l0 l1 l2) ns ∧ ns.length ≤ 300 := by
      refine down (Q := fun i => ∀ x : List Int, (x.length : Int) ≤ 100 + i → ∃ ns : List Int, Ev (fun k => cellarlaw2_Numbers.l0 k w x i l0 l1 l2) ns ∧ ns.length ≤ 300) ?_ ?_
      · intro x hx
        exact ⟨x, Ev.step (fun k => by rw [cellarlaw2_Numbers.l0]) (Ev.neg (by omega) (Ev.now _)), by omega⟩
      · intro i h0 h1 ih x hx
        by_cases c : i < 6
        · obtain ⟨ns, hn, hb⟩ := ih (x ++ [rd l0 i % P]) (by simp; omega)
          refine ⟨ns, ?_, hb⟩
          refine Ev.step (fun k => by rw [cellarlaw2_Numbers.l0]) ?_
          refine Ev.pos h1 (Ev.pos c (Ev.pos h0 (Ev.bindS (K.wrap _) ?_)))
          refine Ev.pos (by omega) ?_
          rw [w64 (z := i + 1) (by omega) (by omega)]
          exact hn
        · exact ⟨x, Ev.step (fun k => by rw [cellarlaw2_Numbers.l0]) (Ev.pos h1 (Ev.neg c (Ev.now _))), by omega⟩
    have w10 : 0 ≤ wrap64 (w - 1) := by rw [K.ww]; omega
    obtain ⟨ns, hn, hb⟩ := key 0 (by omega) (by omega) ([0, 1, 2, 7, wrap64 (shl .i64 1 (wrap64 (w - 1)) - 1), shl .i64 1 (wrap64 (w - 1)), wrap64 (shl .i64 1 (wrap64 (w - 1)) + 1), wrap64 (wrap64 (2 * shl .i64 1 (wrap64 (w - 1))) - 1), wrap64 (wrap64 (2 * shl .i64 1 (wrap64 (w - 1))) - 2), wrap64 (2 * shl .i64 1 (wrap64 (w - 1))), -1, w, wrap64 (w - 1)]) (by simp)
    refine ⟨ns, ?_, hb⟩
    unfold cellarlaw2_Numbers.f
    refine Ev.bind (Ev.plus 2 K.wd) ?_
    refine Ev.neg (by omega) ?_
    exact Ev.pos w10 hn
  · have hk' : kind < 1 ∨ 6 < kind := by omega
    refine ⟨[0, 1, -1] ++ l0, ?_, by simp; omega⟩
    unfold cellarlaw2_Numbers.f
    refine Ev.bind (Ev.plus 2 (no_kind kind hk')) (Ev.pos rfl (Ev.bindS rfl (Ev.pos ?_ (Ev.now _))))
    simp
    omega
theorem num_some (n : Int) : cellarlaw2_num.f n = some n := rfl

/-- An operator that is asked out of its form. -/
theorem two_form (k : Nat) (op kind a b : Int) (h : ¬ (8 ≤ op ∧ op ≤ 19) ∨ (kind < 1 ∨ 6 < kind)) : alu_Two.f (k + 5) op kind a b = some (0, 0, 1) := by
  unfold alu_Two.f alu_IsTwo.f
  by_cases o : op ≥ 8
  · rw [if_pos o, Option.bind_some]
    by_cases o2 : op ≤ 19
    · rw [decide_eq_true o2, if_pos rfl, no_isk kind (by omega), Option.bind_some, if_neg (by decide)]
    · rw [decide_eq_false o2, if_neg (by decide)]
  · rw [if_neg o, Option.bind_some, if_neg (by decide)]
theorem KD.atwo {kind w h P : Int} {s : Bool} (K : KD kind w h P s) (k : Nat) (op a b : Int) (h0 : 8 ≤ op) (h1 : op ≤ 19) :
    alu_Two.f (k + 5) op kind a b = some (if (0 ≤ a ∧ a < P) ∧ 0 ≤ b ∧ b < P then ((two s w h P op a b).1, (two s w h P op a b).2, 0) else (0, 0, 1)) := by
  unfold alu_Two.f alu_IsTwo.f
  rw [if_pos (by omega), Option.bind_some, decide_eq_true h1, if_pos rfl, K.isk, Option.bind_some, if_pos rfl, K.of, Option.bind_some, K.is, Option.bind_some]
  by_cases c : 0 ≤ a ∧ a < P
  · rw [decide_eq_true c, if_pos rfl, Option.bind_some, K.is, Option.bind_some]
    by_cases d : 0 ≤ b ∧ b < P
    · rw [decide_eq_true d, if_pos rfl, if_pos ⟨c, d⟩, K.do_ (k + 1) op a b c.1 c.2 d.1 d.2, Option.bind_some]
    · rw [decide_eq_false d, if_neg (by decide), if_neg (by omega)]
  · rw [decide_eq_false c, if_neg (by decide), if_neg (by omega)]
theorem wakes2 (k : Nat) : cellarlaw2_wakes.f (k + 5) = some true := by
  have K1 : KD 1 8 128 256 false := kd8 1 false (by decide +kernel) (by decide +kernel) (by decide +kernel) (fun k => rfl) (by decide +kernel)
  have K2 : KD 2 8 128 256 true := kd8 2 true (by decide +kernel) (by decide +kernel) (by decide +kernel) (fun k => rfl) (by decide +kernel)
  unfold cellarlaw2_wakes.f
  rw [K1.atwo k 8 200 100 (by decide) (by decide), K2.atwo k 8 100 100 (by decide) (by decide)]
  decide +kernel

section
variable {kind w h P : Int} {s : Bool} (K : KD kind w h P s)
include K
/-- What an operator of one tells. -/
def one (s : Bool) (w h P op a : Int) : Int × Int := if op = 5 then two s w h P 9 0 a else if op = 6 then (Go.bits .xor .i64 (-1) a % P, 0) else (if a = 0 then 1 else 0, 0)
theorem KD.do1 (k : Nat) (op a : Int) (a0 : 0 ≤ a) (a1 : a < P) : alu_Do1.f (k + 4) op kind a = some (one s w h P op a) := by
  unfold alu_Do1.f one
  by_cases o5 : op = 5
  · rw [if_pos o5, if_pos o5, K.do_ k 9 0 a (by omega) (by omega) a0 a1, Option.bind_some]
  rw [if_neg o5, if_neg o5]
  by_cases o6 : op = 6
  · rw [if_pos o6, if_pos o6, K.of, Option.bind_some, K.cut, Option.bind_some]
  · rw [if_neg o6, if_neg o6, told_some, Option.bind_some]
    simp
theorem KD.aone (k : Nat) (op a : Int) (h0 : 5 ≤ op) (h1 : op ≤ 7) :
    alu_One.f (k + 4) op kind a = some (if 0 ≤ a ∧ a < P then ((one s w h P op a).1, (one s w h P op a).2, 0) else (0, 0, 1)) := by
  unfold alu_One.f alu_IsOne.f
  rw [if_pos (by omega), Option.bind_some, decide_eq_true h1, if_pos rfl, K.isk, Option.bind_some, if_pos rfl, K.of, Option.bind_some, K.is, Option.bind_some]
  by_cases c : 0 ≤ a ∧ a < P
  · rw [decide_eq_true c, if_pos rfl, if_pos c, K.do1 k op a c.1 c.2, Option.bind_some]
  · rw [decide_eq_false c, if_neg (by decide), if_neg c]
end
theorem turned (a : Int) (h0 : 0 ≤ a) (h1 : a < 9223372036854775808) : Go.bits .xor .i64 (-1) a = -1 - a := by
  obtain ⟨n, rfl⟩ := Int.eq_ofNat_of_zero_le h0
  show IntKind.i64.wrap ((BitVec.ofInt 64 (-1) ^^^ BitVec.ofInt 64 (n : Int)).toNat : Int) = _
  have e : BitVec.ofInt 64 (-1) = BitVec.allOnes 64 := by decide
  rw [e, BitVec.allOnes_xor, BitVec.toNat_not, BitVec.ofInt_natCast, BitVec.toNat_ofNat, Nat.mod_eq_of_lt (by omega), IntKind.wrap_i64]
  omega
section
variable {kind w h P : Int} (K : KD kind w h P false)
include K
theorem KD.u_add (a b : Int) (a0 : 0 ≤ a) (a1 : a < P) (b0 : 0 ≤ b) (b1 : b < P) : two false w h P 8 a b = ((a + b) % P, 0) := by
  have := K.PP
  have := K.h2
  simp only [two, sv, if_true, Bool.false_eq_true, if_false]
  rw [w64 (by omega) (by omega), KD.fit_ok]
  exact fun h => by cases h
theorem KD.u_sub (a b : Int) (a0 : 0 ≤ a) (a1 : a < P) (b0 : 0 ≤ b) (b1 : b < P) : two false w h P 9 a b = ((a - b) % P, 0) := by
  have := K.PP
  have := K.h2
  unfold two sv
  simp
  rw [w64 (by omega) (by omega), KD.fit_ok]
  exact fun h => by cases h
omit K in
theorem KD.u_mul (a b : Int) : two false w h P 10 a b = (wrap64 (a * b) % P, 0) := by
  unfold two sv
  simp
  rw [KD.fit_ok]
  exact fun h => by cases h
theorem KD.u_div (a b : Int) (a0 : 0 ≤ a) (a1 : a < P) (b0 : 0 < b) (b1 : b < P) : two false w h P 11 a b = (a / b, 0) := by
  have := K.PP
  have := K.h2
  have e : Int.tdiv a b = a / b := Int.tdiv_eq_ediv_of_nonneg a0
  have q0 : 0 ≤ a / b := Int.ediv_nonneg a0 (by omega)
  have q1 : a / b ≤ a := Int.ediv_le_self b a0
  unfold two sv divv
  simp
  rw [if_neg (by omega), e, w64 (by omega) (by omega), Int.emod_eq_of_lt q0 (by omega)]
omit K in
theorem KD.u_rem (a b : Int) (a0 : 0 ≤ a) (a1 : a < P) (b0 : 0 < b) (b1 : b < P) : two false w h P 12 a b = (a % b, 0) := by
  have e : Int.tmod a b = a % b := Int.tmod_eq_emod_of_nonneg a0
  have q0 := Int.emod_nonneg a (show b ≠ 0 by omega)
  have q1 := Int.emod_lt_of_pos a b0
  unfold two sv divv
  simp
  rw [if_neg (by omega), e, Int.emod_eq_of_lt q0 (by omega)]
theorem KD.u_not (a : Int) (a0 : 0 ≤ a) (a1 : a < P) : one false w h P 6 a = (P - 1 - a, 0) := by
  have := K.PP
  have := K.h2
  unfold one
  simp
  rw [turned a a0 (by omega)]
  have e : (-1 - a) % P = (P - 1 - a) % P := by
    rw [show P - 1 - a = -1 - a + P by omega, Int.add_emod_right]
  rw [e, Int.emod_eq_of_lt (by omega) (by omega)]
theorem KD.u_two (k : Nat) (op a b : Int) (h0 : 8 ≤ op) (h1 : op ≤ 19) (a0 : 0 ≤ a) (a1 : a < P) (b0 : 0 ≤ b) (b1 : b < P) (n : Int) (e : two false w h P op a b = (n, 0)) : alu_Two.f (k + 5) op kind a b = some (n, 0, 0) := by
  rw [K.atwo k op a b h0 h1, if_pos (by omega), e]
theorem KD.u_one (k : Nat) (a : Int) (a0 : 0 ≤ a) (a1 : a < P) : alu_One.f (k + 4) 6 kind a = some (P - 1 - a, 0, 0) := by
  rw [K.aone k 6 a (by decide) (by decide), if_pos ⟨a0, a1⟩, K.u_not a a0 a1]
end

theorem laws_true (l0 : List Int) (l1 : List ByteArray) (l2 : List S34) (h : Arg26 l0 l1 l2) : Ev (fun k => cellarlaw2_AluLaws.f k l0 l1 l2) true := by
  obtain ⟨b, hb, hs⟩ := heavy_ev l0 l1 l2 h
  unfold cellarlaw2_AluLaws.f
  refine Ev.bind hb ?_
  cases b with
  | true => exact Ev.pos rfl (Ev.now _)
  | false =>
  refine Ev.neg (by decide) ?_
  have hl := (hs rfl).1
  have last : Ev (fun k => cellarlaw2_AluLaws.l0 k 7 l0 l1 l2) true := by
    refine Ev.step (fun k => by rw [cellarlaw2_AluLaws.l0]) ?_
    exact Ev.neg (by decide) (Ev.bind (Ev.plus 5 wakes2) (Ev.now _))
  have each : ∀ (kind w hh P : Int), KD kind w hh P false → kind ≤ 5 → 0 ≤ kind → Ev (fun k => cellarlaw2_AluLaws.l0 k (kind + 2) l0 l1 l2) true → Ev (fun k => cellarlaw2_AluLaws.l0 k kind l0 l1 l2) true := by
    intro kind w hh P K k5 kz next
    have hPP := K.PP
    have hh1 := K.h1
    have hh2 := K.h2
    obtain ⟨ns, hns, hb⟩ := numbers_ev l0 l1 l2 kind hl
    refine Ev.step (fun k => by rw [cellarlaw2_AluLaws.l0]) ?_
    refine Ev.pos k5 (Ev.bind (Ev.plus 2 K.wd) (Ev.bind hns ?_))
    suffices H : ∀ i : Int, 0 ≤ i → i ≤ ns.length → Ev (fun k => cellarlaw2_AluLaws.l1 k kind w ns i l0 l1 l2) true from H 0 (by omega) (by omega)
    refine down (Q := fun i => Ev (fun k => cellarlaw2_AluLaws.l1 k kind w ns i l0 l1 l2) true) ?_ ?_
    · refine Ev.step (fun k => by rw [cellarlaw2_AluLaws.l1]) ?_
      refine Ev.neg (by omega) ?_
      rw [w64 (z := kind + 2) (by omega) (by omega)]
      exact next
    intro i i0 i1 ihi
    refine Ev.step (fun k => by rw [cellarlaw2_AluLaws.l1]) ?_
    refine Ev.pos i1 ?_
    suffices H : ∀ j : Int, 0 ≤ j → j ≤ ns.length → Ev (fun k => cellarlaw2_AluLaws.l2 k kind w ns i j l0 l1 l2) true from H 0 (by omega) (by omega)
    refine down (Q := fun j => Ev (fun k => cellarlaw2_AluLaws.l2 k kind w ns i j l0 l1 l2) true) ?_ ?_
    · refine Ev.step (fun k => by rw [cellarlaw2_AluLaws.l2]) ?_
      refine Ev.neg (by omega) ?_
      rw [w64 (z := i + 1) (by omega) (by omega)]
      exact ihi
    intro j j0 j1 ihj
    refine Ev.step (fun k => by rw [cellarlaw2_AluLaws.l2]) ?_
    refine Ev.pos j1 (Ev.pos i0 (Ev.pos i1 (Ev.pos j0 (Ev.bindS (K.number _) ?_))))
    generalize rd ns i = a
    generalize rd ns j = b
    have skip : Ev (fun k => cellarlaw2_AluLaws.j3 k kind w ns i j a b true l0 l1 l2) true := by
      refine Ev.step (fun k => by rw [cellarlaw2_AluLaws.j3]) ?_
      refine Ev.pos rfl ?_
      rw [w64 (z := j + 1) (by omega) (by omega)]
      exact ihj
    by_cases ca : 0 ≤ a ∧ a < P
    · refine Ev.pos (decide_eq_true ca) (Ev.bindS (K.number _) ?_)
      by_cases cb : 0 ≤ b ∧ b < P
      · rw [decide_eq_true cb]
        have s0 := Int.emod_nonneg (a + b) (show P ≠ 0 by omega)
        have s1 := Int.emod_lt_of_pos (a + b) (show 0 < P by omega)
        have es : ((a + b) % P - b) % P = a := by
          rw [Int.sub_emod, Int.emod_emod_of_dvd _ (Int.dvd_refl P), ← Int.sub_emod, Int.add_sub_cancel, Int.emod_eq_of_lt ca.1 ca.2]
        refine Ev.step (fun k => by rw [cellarlaw2_AluLaws.j3]) ?_
        refine Ev.neg (by decide) ?_
        refine Ev.bind (Ev.plus 5 fun k => K.u_two k 8 a b (by decide) (by decide) ca.1 ca.2 cb.1 cb.2 _ (K.u_add a b ca.1 ca.2 cb.1 cb.2)) ?_
        refine Ev.bind (Ev.plus 5 fun k => K.u_two k 9 _ b (by decide) (by decide) s0 s1 cb.1 cb.2 _ (K.u_sub _ b s0 s1 cb.1 cb.2)) ?_
        refine Ev.bind (Ev.plus 5 fun k => K.u_two k 10 a b (by decide) (by decide) ca.1 ca.2 cb.1 cb.2 _ (KD.u_mul a b)) ?_
        refine Ev.bind (Ev.plus 5 fun k => K.u_two k 10 b a (by decide) (by decide) cb.1 cb.2 ca.1 ca.2 _ (KD.u_mul b a)) ?_
        refine Ev.bind (Ev.plus 4 fun k => K.u_one k a ca.1 ca.2) ?_
        refine Ev.bind (Ev.plus 4 fun k => K.u_one k (P - 1 - a) (by omega) (by omega)) ?_
        refine Ev.bindS (num_some _) (Ev.bindS (num_some _) (Ev.bindS (num_some _) (Ev.bindS (num_some _) (Ev.bindS (num_some _) (Ev.bindS (num_some _) ?_)))))
        refine Ev.pos (by show wrap64 (wrap64 (wrap64 (wrap64 (wrap64 (0 + 0) + 0) + 0) + 0) + 0) = 0; decide +kernel) (Ev.pos (by show wrap64 (wrap64 (wrap64 (wrap64 (wrap64 (0 + 0) + 0) + 0) + 0) + 0) = 0; decide +kernel) (Ev.pos es (Ev.pos (by rw [Int.mul_comm]) ?_)))
        have eu : (P - 1 - (P - 1 - a) != a) = false := by
          rw [bne_eq_false_iff_eq]
          omega
        rw [eu]
        refine Ev.step (fun k => by rw [cellarlaw2_AluLaws.j4]) ?_
        refine Ev.neg (by decide) ?_
        by_cases b0 : b = 0
        · refine Ev.pos b0 ?_
          rw [w64 (z := j + 1) (by omega) (by omega)]
          exact ihj
        · have bp : 0 < b := by omega
          have q0 := Int.emod_nonneg a (show b ≠ 0 by omega)
          have q1 := Int.emod_lt_of_pos a bp
          have qd : a / b * b + a % b = a := Int.ediv_mul_add_emod a b
          refine Ev.neg b0 ?_
          refine Ev.bind (Ev.plus 5 fun k => K.u_two k 11 a b (by decide) (by decide) ca.1 ca.2 cb.1 cb.2 _ (K.u_div a b ca.1 ca.2 bp cb.2)) ?_
          refine Ev.bind (Ev.plus 5 fun k => K.u_two k 12 a b (by decide) (by decide) ca.1 ca.2 cb.1 cb.2 _ (KD.u_rem a b ca.1 ca.2 bp cb.2)) ?_
          refine Ev.bindS (num_some _) (Ev.bindS (num_some _) ?_)
          refine Ev.pos (by show wrap64 (0 + 0) = 0; decide +kernel) (Ev.pos (by show wrap64 (0 + 0) = 0; decide +kernel) ?_)
          have eq : wrap64 (wrap64 (a / b * b) + a % b) = a := by
            generalize a / b * b = z at qd ⊢
            rw [w64 (z := z) (by omega) (by omega), w64 (by omega) (by omega)]
            exact qd
          refine Ev.pos eq ?_
          refine Ev.neg (by omega) ?_
          refine Ev.neg (by omega) ?_
          rw [w64 (z := j + 1) (by omega) (by omega)]
          exact ihj
      · rw [decide_eq_false cb]
        exact skip
    · refine Ev.neg (by simpa using ca) skip
  have K1 := kd8 1 false (by decide +kernel) (by decide +kernel) (by decide +kernel) (fun k => rfl) (by decide +kernel)
  have K3 := kd16 3 false (by decide +kernel) (by decide +kernel) (by decide +kernel) (fun k => rfl) (by decide +kernel)
  have K5 := kd32 5 false (by decide +kernel) (by decide +kernel) (by decide +kernel) (fun k => rfl) (by decide +kernel)
  exact each 1 _ _ _ K1 (by decide) (by decide) (each 3 _ _ _ K3 (by decide) (by decide) (each 5 _ _ _ K5 (by decide) (by decide) last))
end Go.Proofs.Ytjhgpankffdnaaa.A
