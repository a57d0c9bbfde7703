/- The pure statement of MemEdges: over plain lists and numbers, for every argument in range the law's function answers true: of the argument a length's rest by seven alone is looked at; each of the seven cases is worked out. -/
import Derived.Test.YtjoplkillkhiaaaCx12
import Derived.Test.YtjoplkillkhiaaaArgC
import Derived.Test.YtjoplkillkhiaaaEvs
namespace Go.Proofs.Ytjoplkillkhiaaa.PureC
open Go.RowKit Go.Proofs.YtjoplkillkhiaaaW.PrintWords Go.Proofs.Ytjoplkillkhiaaa.Evs Go.Proofs.Ytjoplkillkhiaaa.C
section
variable (M : List (List S76)) (S : List S62) (N N' : List Int) (A : List S29)
theorem cong (hN : ∀ x : Int, 0 ≤ x → x ≤ 6 → Int.tmod (wrap64 ((N.length : Int) + x)) 7 = Int.tmod (wrap64 ((N'.length : Int) + x)) 7) : ∀ k,
    (∀ x3 : Int, 0 ≤ x3 → x3 ≤ 7 → cellarlaw9_MemEdges.l0 k x3 M S N A = cellarlaw9_MemEdges.l0 k x3 M S N' A) ∧
    (∀ x3 : Int, 0 ≤ x3 → x3 ≤ 6 → ∀ x4 x5, cellarlaw9_MemEdges.l1 k x3 x4 x5 M S N A = cellarlaw9_MemEdges.l1 k x3 x4 x5 M S N' A) ∧
    (∀ x3 : Int, 0 ≤ x3 → x3 ≤ 6 → ∀ x4 x5 a b c d e, cellarlaw9_MemEdges.j2 k x3 x4 x5 M S N A a b c d e = cellarlaw9_MemEdges.j2 k x3 x4 x5 M S N' A a b c d e) ∧
    (∀ x3 : Int, 0 ≤ x3 → x3 ≤ 6 → ∀ x7 x8, cellarlaw9_MemEdges.l2 k x3 x7 x8 M S N A = cellarlaw9_MemEdges.l2 k x3 x7 x8 M S N' A) ∧
    (∀ x3 : Int, 0 ≤ x3 → x3 ≤ 6 → ∀ x7 x8 x9, cellarlaw9_MemEdges.l3 k x3 x7 x8 x9 M S N A = cellarlaw9_MemEdges.l3 k x3 x7 x8 x9 M S N' A) ∧
    (∀ x3 : Int, 0 ≤ x3 → x3 ≤ 6 → ∀ x7 x8 x9 x10, cellarlaw9_MemEdges.l4 k x3 x7 x8 x9 x10 M S N A = cellarlaw9_MemEdges.l4 k x3 x7 x8 x9 x10 M S N' A) ∧
    (∀ x3 : Int, 0 ≤ x3 → x3 ≤ 6 → ∀ x7 x8 x9 x10 b c d e, cellarlaw9_MemEdges.j6 k x3 x7 x8 x9 x10 M S N A b c d e = cellarlaw9_MemEdges.j6 k x3 x7 x8 x9 x10 M S N' A b c d e) ∧
    (∀ x3 : Int, 0 ≤ x3 → x3 ≤ 6 → ∀ x7 x8 x9 x10 b, cellarlaw9_MemEdges.j7 k x3 x7 x8 x9 x10 b M S N A = cellarlaw9_MemEdges.j7 k x3 x7 x8 x9 x10 b M S N' A)
  | 0 => ⟨fun _ _ _ => by simp only [cellarlaw9_MemEdges.l0], fun _ _ _ _ _ => by simp only [cellarlaw9_MemEdges.l1], fun _ _ _ _ _ _ _ _ _ _ => by simp only [cellarlaw9_MemEdges.j2], fun _ _ _ _ _ => by simp only [cellarlaw9_MemEdges.l2], fun _ _ _ _ _ _ => by simp only [cellarlaw9_MemEdges.l3], fun _ _ _ _ _ _ _ => by simp only [cellarlaw9_MemEdges.l4], fun _ _ _ _ _ _ _ _ _ _ _ => by simp only [cellarlaw9_MemEdges.j6], fun _ _ _ _ _ _ _ _ => by simp only [cellarlaw9_MemEdges.j7]⟩
  | k + 1 => by
    obtain ⟨i0, i1, ij2, i2, i3, i4, i6, i7⟩ := cong hN k
    refine ⟨fun x3 h0 h7 => ?_, fun x3 h0 h6 x4 x5 => ?_, fun x3 h0 h6 x4 x5 a b c d e => ?_, fun x3 h0 h6 x7 x8 => ?_, fun x3 h0 h6 x7 x8 x9 => ?_, fun x3 h0 h6 x7 x8 x9 x10 => ?_, fun x3 h0 h6 x7 x8 x9 x10 b c d e => ?_, fun x3 h0 h6 x7 x8 x9 x10 b => ?_⟩
    · rw [cellarlaw9_MemEdges.l0, cellarlaw9_MemEdges.l0]
      by_cases h : x3 ≤ 6
      · rw [if_pos h, if_pos h, i1 x3 h0 h]
      · rw [if_neg h, if_neg h]
    · rw [cellarlaw9_MemEdges.l1, cellarlaw9_MemEdges.l1]
      simp only [hN x3 h0 h6, ij2 x3 h0 h6, i2 x3 h0 h6]
    · rw [cellarlaw9_MemEdges.j2, cellarlaw9_MemEdges.j2]
      simp only [i1 x3 h0 h6]
    · rw [cellarlaw9_MemEdges.l2, cellarlaw9_MemEdges.l2]
      have hw : wrap64 (x3 + 1) = x3 + 1 := w64 (by omega) (by omega)
      simp only [hw, i0 (x3 + 1) (by omega) (by omega), i3 x3 h0 h6]
    · rw [cellarlaw9_MemEdges.l3, cellarlaw9_MemEdges.l3]
      simp only [i2 x3 h0 h6, i4 x3 h0 h6]
    · rw [cellarlaw9_MemEdges.l4, cellarlaw9_MemEdges.l4]
      simp only [i3 x3 h0 h6, i6 x3 h0 h6]
    · rw [cellarlaw9_MemEdges.j6, cellarlaw9_MemEdges.j6]
      simp only [i7 x3 h0 h6]
    · rw [cellarlaw9_MemEdges.j7, cellarlaw9_MemEdges.j7]
      simp only [i4 x3 h0 h6]
end
section
variable (M : List (List S76)) (S : List S62) (A : List S29)
set_option maxRecDepth 100000
theorem c0 : cellarlaw9_MemEdges.f 8000 M S [] A = some true := by kernel_rfl
theorem c1 : cellarlaw9_MemEdges.f 8000 M S [0] A = some true := by kernel_rfl
theorem c2 : cellarlaw9_MemEdges.f 8000 M S [0, 0] A = some true := by kernel_rfl
theorem c3 : cellarlaw9_MemEdges.f 8000 M S [0, 0, 0] A = some true := by kernel_rfl
theorem c4 : cellarlaw9_MemEdges.f 8000 M S [0, 0, 0, 0] A = some true := by kernel_rfl
theorem c5 : cellarlaw9_MemEdges.f 8000 M S [0, 0, 0, 0, 0] A = some true := by kernel_rfl
theorem c6 : cellarlaw9_MemEdges.f 8000 M S [0, 0, 0, 0, 0, 0] A = some true := by kernel_rfl
end
theorem to_seven (N N' : List Int) (hN : (N.length : Int) ≤ 1000000000000000000) (h' : N'.length < 7) (hm : N.length % 7 = N'.length) (x : Int) (x0 : 0 ≤ x) (x6 : x ≤ 6) :
    Int.tmod (wrap64 ((N.length : Int) + x)) 7 = Int.tmod (wrap64 ((N'.length : Int) + x)) 7 := by
  rw [w64 (z := (N.length : Int) + x) (by omega) (by omega), w64 (z := (N'.length : Int) + x) (by omega) (by omega), Int.tmod_eq_emod_of_nonneg (by omega), Int.tmod_eq_emod_of_nonneg (by omega)]
  omega
theorem MemEdges (l0 : List (List S76)) (l1 : List S62) (l2 : List Int) (l3 : List S29) (h : Arg54 l0 l1 l2 l3) : ∃ k, cellarlaw9_MemEdges.f k l0 l1 l2 l3 = some true := by
  have hl : (l2.length : Int) ≤ 1000000000000000000 := by have := h.2.2.1.1; omega
  have go : ∀ N' : List Int, N'.length < 7 → l2.length % 7 = N'.length → cellarlaw9_MemEdges.f 8000 l0 l1 N' l3 = some true → ∃ k, cellarlaw9_MemEdges.f k l0 l1 l2 l3 = some true := fun N' h' hm hc =>
    ⟨8000, ((cong l0 l1 l2 N' l3 (to_seven l2 N' hl h' hm) 8000).1 0 (by omega) (by omega)).trans hc⟩
  have hlt := Nat.mod_lt l2.length (by decide : 0 < 7)
  generalize hr : l2.length % 7 = r at hlt
  match r, hlt with
  | 0, _ => exact go [] (by decide) hr (c0 l0 l1 l3)
  | 1, _ => exact go [0] (by decide) hr (c1 l0 l1 l3)
  | 2, _ => exact go [0, 0] (by decide) hr (c2 l0 l1 l3)
  | 3, _ => exact go [0, 0, 0] (by decide) hr (c3 l0 l1 l3)
  | 4, _ => exact go [0, 0, 0, 0] (by decide) hr (c4 l0 l1 l3)
  | 5, _ => exact go [0, 0, 0, 0, 0] (by decide) hr (c5 l0 l1 l3)
  | 6, _ => exact go [0, 0, 0, 0, 0, 0] (by decide) hr (c6 l0 l1 l3)
end Go.Proofs.Ytjoplkillkhiaaa.PureC
