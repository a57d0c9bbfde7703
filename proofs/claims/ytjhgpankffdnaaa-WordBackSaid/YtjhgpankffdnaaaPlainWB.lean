/- WordBack: a number's view wrapped is it, views lie from the least to the greatest: the loops answer true. No Go and no memory in it. -/
import Derived.Test.YtjhgpankffdnaaaBx2
import Derived.Test.YtjhgpankffdnaaaArgB
import Derived.Test.YtjhgpankffdnaaaEvs
namespace Go.Proofs.Ytjhgpankffdnaaa.B
open Go.RowKit Go.Proofs.YtjhgpankffdnaaaW.PrintWords Go.Proofs.YtjhgpankffdnaaaW.PrintLast Go.Proofs.YtjhgpankffdnaaaW.PrintMore Go.Proofs.Ytjhgpankffdnaaa.Evs
set_option linter.unusedVariables false
set_option linter.unusedSimpArgs false

/-! ### Bits -/
theorem mask_nat (n : Int) (j : Nat) : ((BitVec.ofInt 64 n).toNat &&& (2 ^ j - 1) : Nat) = (n % 18446744073709551616).toNat % 2 ^ j := by
  rw [Nat.and_two_pow_sub_one_eq_mod, BitVec.toNat_ofInt]
  rfl

theorem mask_i64 (n : Int) (j : Nat) (m : Nat) (hm : m = 2 ^ j - 1) (hj : j ≤ 32) : Go.bits .and .i64 n (m : Int) = (((n % 18446744073709551616).toNat % 2 ^ j : Nat) : Int) := by
  have hp : 2 ^ j ≤ 2 ^ 32 := Nat.pow_le_pow_right (by decide) hj
  have h0 : 0 < 2 ^ j := Nat.two_pow_pos j
  have h1 : (n % 18446744073709551616).toNat % 2 ^ j < 2 ^ 32 := Nat.lt_of_lt_of_le (Nat.mod_lt _ h0) hp
  have e : (BitVec.ofInt 64 (m : Int)).toNat = m := by
    rw [BitVec.ofInt_natCast, BitVec.toNat_ofNat]
    exact Nat.mod_eq_of_lt (by omega)
  show IntKind.i64.wrap ((BitVec.ofInt 64 n &&& BitVec.ofInt 64 (m : Int)).toNat : Int) = _
  rw [BitVec.toNat_and, e, hm, mask_nat, IntKind.wrap_i64]
  omega

theorem mask8 (n : Int) : Go.bits .and .i64 n 255 = n % 256 := by
  have h := mask_i64 n 8 255 (by decide) (by decide)
  have e : ((255 : Nat) : Int) = 255 := rfl
  rw [e] at h
  rw [h]
  omega
theorem mask16 (n : Int) : Go.bits .and .i64 n 65535 = n % 65536 := by
  have h := mask_i64 n 16 65535 (by decide) (by decide)
  have e : ((65535 : Nat) : Int) = 65535 := rfl
  rw [e] at h
  rw [h]
  omega
theorem mask32 (n : Int) : Go.bits .and .i64 n 4294967295 = n % 4294967296 := by
  have h := mask_i64 n 32 4294967295 (by decide) (by decide)
  have e : ((4294967295 : Nat) : Int) = 4294967295 := rfl
  rw [e] at h
  rw [h]
  omega

/-- A width. -/
structure WD (w h P : Int) : Prop where
  isw : word_IsWidth.f w = some true
  w1 : 8 ≤ w
  w2 : w ≤ 32
  s1 : shl .i64 1 w = P
  s2 : shl .i64 1 (w - 1) = h
  PP : P = 2 * h
  h1 : 128 ≤ h
  h2 : h ≤ 2147483648
  msk : ∀ n, Go.bits .and .i64 n (P - 1) = n % P
  dvd : P ∣ 18446744073709551616
theorem wd8 : WD 8 128 256 := ⟨by decide +kernel, by decide, by decide, by decide +kernel, by decide +kernel, by decide, by decide, by decide, mask8, ⟨72057594037927936, by decide⟩⟩
theorem wd16 : WD 16 32768 65536 := ⟨by decide +kernel, by decide, by decide, by decide +kernel, by decide +kernel, by decide, by decide, by decide, mask16, ⟨281474976710656, by decide⟩⟩
theorem wd32 : WD 32 2147483648 4294967296 := ⟨by decide +kernel, by decide, by decide, by decide +kernel, by decide +kernel, by decide, by decide, by decide, mask32, ⟨4294967296, by decide⟩⟩
section
variable {w h P : Int} (K : WD w h P)
include K
theorem WD.most : word_Most.f w = some (P - 1) := by
  have := K.w1
  have := K.PP
  have := K.h2
  have := K.h1
  unfold word_Most.f
  rw [if_pos (by omega), K.s1, w64 (by omega) (by omega)]
theorem WD.cut (n : Int) : word_Cut.f n w = some (n % P) := by
  unfold word_Cut.f
  rw [K.most, Option.bind_some, K.msk]
theorem WD.wrap (n : Int) : word_Wrap.f n w = some (n % P, 0) := by
  unfold word_Wrap.f
  rw [K.isw, Option.bind_some, if_pos rfl, K.cut]
  rfl
theorem WD.view (n : Int) (h0 : 0 ≤ n) (h1 : n < P) : word_View.f n w = some (if n ≥ h then n - P else n, 0) := by
  have := K.w1
  have := K.w2
  have := K.PP
  have := K.h2
  have is : word_Is.f n w = some true := by
    unfold word_Is.f
    rw [if_pos h0, K.most, Option.bind_some, decide_eq_true (by omega)]
  unfold word_View.f word_Look.f
  rw [K.isw, Option.bind_some, if_pos rfl, is, Option.bind_some, if_pos rfl, w64 (z := w - 1) (by omega) (by omega), if_pos (by omega), K.s2, K.s1]
  by_cases c : n ≥ h
  · rw [if_pos c, if_pos c, if_pos (by omega), w64 (by omega) (by omega)]
    rfl
  · rw [if_neg c, if_neg c]
    rfl
end
theorem num1_some (n : Int) : cellarlaw1_num.f n = some n := rfl
theorem wakes1 : cellarlaw1_wakes.f = some true := by
  unfold cellarlaw1_wakes.f
  rw [wd8.view 255 (by decide) (by decide), wd8.wrap]
  decide +kernel
theorem ww_mod (z P : Int) (d : P ∣ 18446744073709551616) : wrap64 z % P = z % P := by
  have e : wrap64 z % P = ((z + 9223372036854775808) % 18446744073709551616 - 9223372036854775808) % P := by unfold wrap64; rfl
  rw [e, Int.sub_emod, Int.emod_emod_of_dvd _ d, ← Int.sub_emod, Int.add_sub_cancel]
theorem tmod_zero (z P : Int) (h : z % P = 0) : Int.tmod z P = 0 := Int.tmod_eq_zero_of_dvd (Int.dvd_of_emod_eq_zero h)

theorem texts_ev (l : List ByteArray) (hl : l.length * 16 ≤ 140737488351232) : ∃ t, Ev (fun k => cellarlaw0_Texts.f k l) t := by
  have key : ∀ i : Int, 0 ≤ i → i ≤ l.length → ∀ n, ∃ t, Ev (fun k => cellarlaw0_Texts.l0 k l n i) t := by
    refine down (Q := fun i => ∀ n, ∃ t, Ev (fun k => cellarlaw0_Texts.l0 k l n i) t) ?_ ?_
    · intro n
      exact ⟨n, Ev.step (fun k => by rw [cellarlaw0_Texts.l0]) (Ev.neg (by omega) (Ev.now _))⟩
    · intro i h0 h1 ih n
      by_cases c : n < 1048576
      · obtain ⟨t, ht⟩ := ih (wrap64 (n + ((rdOf ByteArray.empty l i).size : Int)))
        refine ⟨t, Ev.step (fun k => by rw [cellarlaw0_Texts.l0]) (Ev.pos h1 (Ev.pos c (Ev.pos h0 ?_)))⟩
        rw [w64 (z := i + 1) (by omega) (by omega)]
        exact ht
      · exact ⟨n, Ev.step (fun k => by rw [cellarlaw0_Texts.l0]) (Ev.pos h1 (Ev.neg c (Ev.now _)))⟩
  obtain ⟨t, ht⟩ := key 0 (by omega) (by omega) l.length
  exact ⟨t, ht⟩
theorem heavy_ev (l0 : List Int) (l1 : List ByteArray) (l2 : List S34) (h : Arg26 l0 l1 l2) : ∃ b, Ev (fun k => cellarlaw1_Heavy.f k l0 l1 l2) b ∧ (b = false → l0.length ≤ 100 ∧ l2.length ≤ 100) := by
  have e0 := h.1.1
  have e1 := h.2.1.1
  have e2 := h.2.2.1
  unfold cellarlaw1_Heavy.f
  have ew : wrap64 ((l0.length : Int) + (l2.length : Int)) = (l0.length : Int) + (l2.length : Int) := w64 (by omega) (by omega)
  rw [ew]
  by_cases c : (l0.length : Int) + (l2.length : Int) > 100
  · exact ⟨true, Ev.pos c (Ev.now _), fun h => by cases h⟩
  · obtain ⟨t, ht⟩ := texts_ev l1 e1
    exact ⟨decide (t > 1000), Ev.neg c (Ev.bind ht (Ev.now _)), fun _ => by omega⟩

theorem back_true (l0 : List Int) (l1 : List ByteArray) (l2 : List S34) (h : Arg26 l0 l1 l2) : Ev (fun k => cellarlaw1_WordBack.f k l0 l1 l2) true := by
  obtain ⟨b, hb, hs⟩ := heavy_ev l0 l1 l2 h
  unfold cellarlaw1_WordBack.f
  refine Ev.bind hb ?_
  cases b with
  | true => exact Ev.pos rfl (Ev.now _)
  | false =>
  refine Ev.neg (by decide) ?_
  have hl := (hs rfl).1
  have fin : ∀ i, Ev (fun k => cellarlaw1_WordBack.j1 k i false l0 l1 l2) true := fun i => by
    refine Ev.step (fun k => by rw [cellarlaw1_WordBack.j1]) ?_
    exact Ev.neg (by decide) (Ev.bindS wakes1 (Ev.now _))
  suffices H : ∀ i : Int, 0 ≤ i → i ≤ l0.length → Ev (fun k => cellarlaw1_WordBack.l0 k i l0 l1 l2) true from H 0 (by omega) (by omega)
  refine down (Q := fun i => Ev (fun k => cellarlaw1_WordBack.l0 k i l0 l1 l2) true) ?_ ?_
  · refine Ev.step (fun k => by rw [cellarlaw1_WordBack.l0]) ?_
    exact Ev.neg (by omega) (fin _)
  intro i i0 i1 ih
  refine Ev.step (fun k => by rw [cellarlaw1_WordBack.l0]) ?_
  refine Ev.pos i1 ?_
  by_cases c : i < 30
  · rw [decide_eq_true c]
    refine Ev.step (fun k => by rw [cellarlaw1_WordBack.j1]) ?_
    refine Ev.pos rfl ?_
    suffices H : ∀ m : Int, 0 ≤ m → m ≤ 3 → Ev (fun k => cellarlaw1_WordBack.l1 k i m l0 l1 l2) true from H 0 (by omega) (by omega)
    refine down (Q := fun m => Ev (fun k => cellarlaw1_WordBack.l1 k i m l0 l1 l2) true) ?_ ?_
    · refine Ev.step (fun k => by rw [cellarlaw1_WordBack.l1]) ?_
      refine Ev.neg (by omega) ?_
      rw [w64 (z := i + 1) (by omega) (by omega)]
      exact ih
    intro m m0 m1 ihm
    obtain ⟨w, hh, P, hw, K⟩ : ∃ w hh P, rd [8, 16, 32] m = w ∧ WD w hh P := by
      have : m = 0 ∨ m = 1 ∨ m = 2 := by omega
      rcases this with rfl | rfl | rfl
      · exact ⟨8, _, _, rfl, wd8⟩
      · exact ⟨16, _, _, rfl, wd16⟩
      · exact ⟨32, _, _, rfl, wd32⟩
    have w1 := K.w1
    have w2 := K.w2
    have hPP := K.PP
    have hh1 := K.h1
    have hh2 := K.h2
    refine Ev.step (fun k => by rw [cellarlaw1_WordBack.l1]) ?_
    refine Ev.pos m1 (Ev.bindS rfl (Ev.pos m0 (Ev.pos (show m < ((([8, 16, 32] : List Int).length : Nat) : Int) from m1) (Ev.pos i0 (Ev.pos i1 ?_)))))
    rw [hw]
    generalize hx : rd l0 i = x
    have r0 := Int.emod_nonneg x (show P ≠ 0 by omega)
    have r1 := Int.emod_lt_of_pos x (show 0 < P by omega)
    refine Ev.bindS (K.wrap x) (Ev.bindS (K.view (x % P) r0 r1) (Ev.bindS (K.wrap _) (Ev.bindS (num1_some _) (Ev.pos rfl (Ev.bindS (num1_some _) (Ev.pos rfl (Ev.bindS (num1_some _) (Ev.pos rfl ?_))))))))
    generalize hv : (if x % P ≥ hh then x % P - P else x % P) = v
    have hv1 : v = x % P ∧ v < hh ∨ v = x % P - P ∧ -hh ≤ v ∧ v < 0 := by
      rw [← hv]
      split <;> omega
    have e1 : v % P = x % P := by
      rcases hv1 with ⟨e, _⟩ | ⟨e, _⟩
      · rw [e, Int.emod_emod_of_dvd _ (Int.dvd_refl P)]
      · rw [e, Int.sub_emod, Int.emod_emod_of_dvd _ (Int.dvd_refl P), Int.emod_self, Int.sub_zero, Int.emod_emod_of_dvd _ (Int.dvd_refl P)]
    refine Ev.pos e1 ?_
    rw [w64 (z := w - 1) (by omega) (by omega), K.s2, K.s1, w64 (z := -hh) (by omega) (by omega)]
    refine Ev.pos (by omega) ?_
    refine Ev.neg (by omega) ?_
    refine Ev.neg (by omega) ?_
    refine Ev.pos (by omega) ?_
    refine Ev.neg (by omega) ?_
    refine Ev.pos ?_ ?_
    · refine tmod_zero _ _ ?_
      rw [ww_mod _ _ K.dvd, Int.sub_emod, Int.emod_emod_of_dvd _ (Int.dvd_refl P), Int.sub_self, Int.zero_emod]
    · rw [w64 (z := m + 1) (by omega) (by omega)]
      exact ihm
  · rw [decide_eq_false c]
    exact fin _
end Go.Proofs.Ytjhgpankffdnaaa.B
