-- Written by this session's own edition of the print.
import Derived.Test.YthhdmanpjeminaaDx0
import Derived.Test.YthhdmanpjeminaaDx1
import Derived.Test.YthhdmanpjeminaaDx3
import Derived.Test.YthhdmanpjeminaaDx5
import Derived.Test.YthhdmanpjeminaaDx6
import Derived.Test.YthhdmanpjeminaaDx7
import Derived.Test.YthhdmanpjeminaaDx8
import Derived.Test.YthhdmanpjeminaaDx9
namespace Go.Proofs.Ythhdmanpjeminaa.D
open Go.RowKit Go.Proofs.Ythhdmanpjeminaa.Fn Go.Proofs.YthhdmanpjeminaaW.PrintWords Go.Proofs.YthhdmanpjeminaaW.PrintLast Go.Proofs.YthhdmanpjeminaaW.PrintMore
attribute [local go_sem] max2_int min2_int max_two min_two max_three min_three max_four min_four   -- for this text's walks alone
set_option linter.unusedVariables false
set_option linter.unusedSimpArgs false

attribute [local go_sem high] eqA33
theorem z4 {w : World} {g : Nat} {a b c d a' b' c' d' : Value} (h0 : w.cell? ⟨g, 0, none⟩ = some a') (h1 : w.cell? ⟨g, 1, none⟩ = some b') (h2 : w.cell? ⟨g, 2, none⟩ = some c') (h3 : w.cell? ⟨g, 3, none⟩ = some d') :
    ((((w.setCell ⟨g, 0, none⟩ a).setCell ⟨g, 1, none⟩ b).setCell ⟨g, 2, none⟩ c).setCell ⟨g, 3, none⟩ d).cell? ⟨g, 0, none⟩ = some a ∧ ((((w.setCell ⟨g, 0, none⟩ a).setCell ⟨g, 1, none⟩ b).setCell ⟨g, 2, none⟩ c).setCell ⟨g, 3, none⟩ d).cell? ⟨g, 1, none⟩ = some b ∧ ((((w.setCell ⟨g, 0, none⟩ a).setCell ⟨g, 1, none⟩ b).setCell ⟨g, 2, none⟩ c).setCell ⟨g, 3, none⟩ d).cell? ⟨g, 2, none⟩ = some c ∧ ((((w.setCell ⟨g, 0, none⟩ a).setCell ⟨g, 1, none⟩ b).setCell ⟨g, 2, none⟩ c).setCell ⟨g, 3, none⟩ d).cell? ⟨g, 3, none⟩ = some d := by
  refine ⟨?_, ?_, ?_, ?_⟩
  · rw [World.cell?_setCell_other _ _ _ _ (by simp), World.cell?_setCell_other _ _ _ _ (by simp), World.cell?_setCell_other _ _ _ _ (by simp), World.cell?_setCell_same _ _ _ h0]
  · rw [World.cell?_setCell_other _ _ _ _ (by simp), World.cell?_setCell_other _ _ _ _ (by simp)]
    exact World.cell?_setCell_same _ _ _ ((World.cell?_setCell_other _ _ _ _ (by simp)).trans h1)
  · rw [World.cell?_setCell_other _ _ _ _ (by simp)]
    exact World.cell?_setCell_same _ _ _ ((World.cell?_setCell_other _ _ _ _ (by simp)).trans ((World.cell?_setCell_other _ _ _ _ (by simp)).trans h2))
  · exact World.cell?_setCell_same _ _ _ ((World.cell?_setCell_other _ _ _ _ (by simp)).trans ((World.cell?_setCell_other _ _ _ _ (by simp)).trans ((World.cell?_setCell_other _ _ _ _ (by simp)).trans h3)))
/-! ### cellarlaw8_kind: function 27 -/
mutual
def cellarlaw8_kind.l0 : Nat → Int → List (S38) → Int → Option (Bool)
 | 0, _, _, _ => none
 | k + 1, x1, x5, x6 => if x6 < (x5.length : Int) then (if 0 ≤ x6 then ((cellarref1_Abi.f ((rd_T38 x5 x6).f0) ((rd_T38 x5 x6).f1)).bind fun t232 => (if t232 = true then (cellarlaw8_kind.l1 k x1 x5 x6 0) else (cellarlaw8_kind.l0 k x1 x5 (wrap64 (x6 + 1))))) else (none)) else ((cellarlaw8_wakes.f k).bind fun t230 => (some t230))
def cellarlaw8_kind.l1 : Nat → Int → List (S38) → Int → Int → Option (Bool)
 | 0, _, _, _, _ => none
 | k + 1, x1, x5, x6, x7 => if x7 < 20 then (if x1 = 7 then (if (Int.tmod x7 7) = 0 then (cellarlaw8_kind.j2 k x1 x5 x6 x7 true 0 (Int.tmod x7 7) 0) else (cellarlaw8_kind.j2 k x1 x5 x6 x7 true 0 (Int.tmod x7 7) (Int.tmod (wrap64 (x7 * 5)) 30))) else ((cellarref1_Width.f k x1).bind fun t234 => (if 0 ≤ (wrap64 (t234 - 1)) then ((some (([0, (-1), shl .i64 1 (wrap64 (t234 - 1)), wrap64 ((shl .i64 1 (wrap64 (t234 - 1))) - 1), wrap64 (x7 * 7919)] : List Int) : List Int)).bind fun y235 => (if 0 ≤ (Int.tmod x7 5) then (if (Int.tmod x7 5) < (y235.length : Int) then ((cellarref1_Wrap.f (rd y235 (Int.tmod x7 5)) t234).bind fun t239 => (cellarlaw8_kind.j2 k x1 x5 x6 x7 false t239 0 0)) else (none)) else (none))) else (none)))) else (cellarlaw8_kind.l0 k x1 x5 (wrap64 (x6 + 1)))
def cellarlaw8_kind.j2 : Nat → Int → List (S38) → Int → Int → Bool → Int → Int → Int → Option (Bool)
 | 0, _, _, _, _, _, _, _, _ => none
 | k + 1, x1, x5, x6, x7, x234000, x234001, x234002, x234003 => if 0 ≤ x6 then (if x6 < (x5.length : Int) then ((bytes_Put.f k ((rd_T38 x5 x6).f0) ((rd_T38 x5 x6).f1) x1 x234000 x234001 x234002 x234003).bind fun bt241 => ((cellarlaw8_num.f bt241.2).bind fun t245 => (if t245 = 0 then ((cellarref7_Put.f k ((rd_T38 x5 x6).f0) ((rd_T38 x5 x6).f1) x1 x234000 x234001 x234002 x234003).bind fun t247 => ((cellarref0_EqBytes.f k bt241.1 t247).bind fun t250 => (if t250 = true then (cellarlaw8_kind.j3 k x1 x5 x6 x7 bt241.1 ((bt241.1.length : Int) == 0) x234000 x234001 x234002 x234003) else (cellarlaw8_kind.j3 k x1 x5 x6 x7 bt241.1 true x234000 x234001 x234002 x234003)))) else (cellarlaw8_kind.j3 k x1 x5 x6 x7 bt241.1 true x234000 x234001 x234002 x234003)))) else (none)) else (none)
def cellarlaw8_kind.j3 : Nat → Int → List (S38) → Int → Int → List (S51) → Bool → Bool → Int → Int → Int → Option (Bool)
 | 0, _, _, _, _, _, _, _, _, _, _ => none
 | k + 1, x1, x5, x6, x7, x10, x101, x234000, x234001, x234002, x234003 => if x101 = true then (some false) else (cellarlaw8_kind.l2 k x1 x5 x6 x7 x10 0 x234000 x234001 x234002 x234003)
def cellarlaw8_kind.l2 : Nat → Int → List (S38) → Int → Int → List (S51) → Int → Bool → Int → Int → Int → Option (Bool)
 | 0, _, _, _, _, _, _, _, _, _, _ => none
 | k + 1, x1, x5, x6, x7, x10, x12, x234000, x234001, x234002, x234003 => if x12 < 3 then ((cellarref0_CopyBytes.f k x10).bind fun t251 => (if x12 = 1 then (if (t251.length : Int) = 0 then (none) else (if 0 ≤ (Int.tmod x7 (t251.length : Int)) then (if (Int.tmod x7 (t251.length : Int)) < (t251.length : Int) then (cellarlaw8_kind.j5 k x1 x5 x6 x7 x10 x12 (t251.set ((Int.tmod x7 (t251.length : Int)) : Int).toNat (⟨2, 0, wrap64 (1 + (Int.tmod x7 5)), Int.tmod x7 9, Int.tmod x7 4⟩ : S51)) x234000 x234001 x234002 x234003) else (none)) else (none))) else (if x12 = 2 then (if (t251.length : Int) = 0 then (none) else (if 0 ≤ (Int.tmod x7 (t251.length : Int)) then (if (Int.tmod x7 (t251.length : Int)) < (t251.length : Int) then (cellarlaw8_kind.j5 k x1 x5 x6 x7 x10 x12 (t251.set ((Int.tmod x7 (t251.length : Int)) : Int).toNat (⟨1, x7, 0, 0, 0⟩ : S51)) x234000 x234001 x234002 x234003) else (none)) else (none))) else (cellarlaw8_kind.j5 k x1 x5 x6 x7 x10 x12 t251 x234000 x234001 x234002 x234003)))) else (cellarlaw8_kind.l1 k x1 x5 x6 (wrap64 (x7 + 1)))
def cellarlaw8_kind.j5 : Nat → Int → List (S38) → Int → Int → List (S51) → Int → List (S51) → Bool → Int → Int → Int → Option (Bool)
 | 0, _, _, _, _, _, _, _, _, _, _, _ => none
 | k + 1, x1, x5, x6, x7, x10, x12, x13, x234000, x234001, x234002, x234003 => if 0 ≤ x6 then (if x6 < (x5.length : Int) then ((bytes_Get.f k ((rd_T38 x5 x6).f0) ((rd_T38 x5 x6).f1) x1 x13).bind fun bt257 => ((cellarref7_Get.f k ((rd_T38 x5 x6).f0) ((rd_T38 x5 x6).f1) x1 x13).bind fun bt265 => ((cellarlaw8_num.f bt257.2.2.2.2.2).bind fun t271 => (if t271 = 0 then (if (!(bt257.1 == bt265.1) || (!(bt257.2.1 == bt265.2.1) || (!(bt257.2.2.1 == bt265.2.2.1) || (!(bt257.2.2.2.1 == bt265.2.2.2.1))))) = true then (cellarlaw8_kind.j6 k x1 x5 x6 x7 x10 x12 true x234000 x234001 x234002 x234003) else (if bt257.2.2.2.2.1 = bt265.2.2.2.2 then (if x12 = 0 then (if (!(bt257.1 == x234000) || (!(bt257.2.1 == x234001) || (!(bt257.2.2.1 == x234002) || (!(bt257.2.2.2.1 == x234003))))) = true then (cellarlaw8_kind.j6 k x1 x5 x6 x7 x10 x12 true x234000 x234001 x234002 x234003) else (cellarlaw8_kind.j6 k x1 x5 x6 x7 x10 x12 (bt257.2.2.2.2.1 != 0) x234000 x234001 x234002 x234003)) else (cellarlaw8_kind.j6 k x1 x5 x6 x7 x10 x12 false x234000 x234001 x234002 x234003)) else (cellarlaw8_kind.j6 k x1 x5 x6 x7 x10 x12 true x234000 x234001 x234002 x234003))) else (cellarlaw8_kind.j6 k x1 x5 x6 x7 x10 x12 true x234000 x234001 x234002 x234003))))) else (none)) else (none)
def cellarlaw8_kind.j6 : Nat → Int → List (S38) → Int → Int → List (S51) → Int → Bool → Bool → Int → Int → Int → Option (Bool)
 | 0, _, _, _, _, _, _, _, _, _, _, _ => none
 | k + 1, x1, x5, x6, x7, x10, x12, x181, x234000, x234001, x234002, x234003 => if x181 = true then (some false) else (cellarlaw8_kind.l2 k x1 x5 x6 x7 x10 (wrap64 (x12 + 1)) x234000 x234001 x234002 x234003)
end
def cellarlaw8_kind.f (k : Nat) (l0_0 : List (S38)) (l0_1 : List (S33)) (l0_2 : List (S51)) (a1 : Int) : Option (Bool) := (cellarlaw8_Heavy.f l0_0 l0_1 l0_2).bind fun t226 => (if t226 = true then (some true) else ((cellarlaw8_Machines.f l0_0).bind fun t227 => (cellarlaw8_kind.l0 k a1 t227 0)))
theorem cellarlaw8_kind.mono_l : ∀ k, (∀ y0 y1 y2, LeO (cellarlaw8_kind.l0 k y0 y1 y2) (cellarlaw8_kind.l0 (k + 1) y0 y1 y2)) ∧ (∀ y0 y1 y2 y3, LeO (cellarlaw8_kind.l1 k y0 y1 y2 y3) (cellarlaw8_kind.l1 (k + 1) y0 y1 y2 y3)) ∧ (∀ y0 y1 y2 y3 y4 y5 y6 y7, LeO (cellarlaw8_kind.j2 k y0 y1 y2 y3 y4 y5 y6 y7) (cellarlaw8_kind.j2 (k + 1) y0 y1 y2 y3 y4 y5 y6 y7)) ∧ (∀ y0 y1 y2 y3 y4 y5 y6 y7 y8 y9, LeO (cellarlaw8_kind.j3 k y0 y1 y2 y3 y4 y5 y6 y7 y8 y9) (cellarlaw8_kind.j3 (k + 1) y0 y1 y2 y3 y4 y5 y6 y7 y8 y9)) ∧ (∀ y0 y1 y2 y3 y4 y5 y6 y7 y8 y9, LeO (cellarlaw8_kind.l2 k y0 y1 y2 y3 y4 y5 y6 y7 y8 y9) (cellarlaw8_kind.l2 (k + 1) y0 y1 y2 y3 y4 y5 y6 y7 y8 y9)) ∧ (∀ y0 y1 y2 y3 y4 y5 y6 y7 y8 y9 y10, LeO (cellarlaw8_kind.j5 k y0 y1 y2 y3 y4 y5 y6 y7 y8 y9 y10) (cellarlaw8_kind.j5 (k + 1) y0 y1 y2 y3 y4 y5 y6 y7 y8 y9 y10)) ∧ (∀ y0 y1 y2 y3 y4 y5 y6 y7 y8 y9 y10, LeO (cellarlaw8_kind.j6 k y0 y1 y2 y3 y4 y5 y6 y7 y8 y9 y10) (cellarlaw8_kind.j6 (k + 1) y0 y1 y2 y3 y4 y5 y6 y7 y8 y9 y10))
 | 0 => ⟨fun _ _ _ r h => by simp [cellarlaw8_kind.l0] at h, fun _ _ _ _ r h => by simp [cellarlaw8_kind.l1] at h, fun _ _ _ _ _ _ _ _ r h => by simp [cellarlaw8_kind.j2] at h, fun _ _ _ _ _ _ _ _ _ _ r h => by simp [cellarlaw8_kind.j3] at h, fun _ _ _ _ _ _ _ _ _ _ r h => by simp [cellarlaw8_kind.l2] at h, fun _ _ _ _ _ _ _ _ _ _ _ r h => by simp [cellarlaw8_kind.j5] at h, fun _ _ _ _ _ _ _ _ _ _ _ r h => by simp [cellarlaw8_kind.j6] at h⟩
 | k + 1 => by
  obtain ⟨ih0, ih1, ih2, ih3, ih4, ih5, ih6⟩ := cellarlaw8_kind.mono_l k
  refine ⟨?_, ?_, ?_, ?_, ?_, ?_, ?_⟩
  ·intro y0 y1 y2
   unfold cellarlaw8_kind.l0
   repeat' first
   | (with_reducible exact ih0 _ _ _)
   | (with_reducible exact ih1 _ _ _ _)
   | (with_reducible exact ih2 _ _ _ _ _ _ _ _)
   | (with_reducible exact ih3 _ _ _ _ _ _ _ _ _ _)
   | (with_reducible exact ih4 _ _ _ _ _ _ _ _ _ _)
   | (with_reducible exact ih5 _ _ _ _ _ _ _ _ _ _ _)
   | (with_reducible exact ih6 _ _ _ _ _ _ _ _ _ _ _)
   | (with_reducible exact bytes_Get.mono _ _ _ _ _)
   | (with_reducible exact bytes_Put.mono _ _ _ _ _ _ _ _)
   | (with_reducible exact cellarlaw8_wakes.mono _)
   | (with_reducible exact cellarref0_CopyBytes.mono _ _)
   | (with_reducible exact cellarref0_EqBytes.mono _ _ _)
   | (with_reducible exact cellarref1_Width.mono _ _)
   | (with_reducible exact cellarref7_Get.mono _ _ _ _ _)
   | (with_reducible exact cellarref7_Put.mono _ _ _ _ _ _ _ _)
   | (with_reducible exact LeO.refl _)
   | (with_reducible exact LeO.none _)
   | (with_reducible refine LeO.ite ?_ ?_)
   | (with_reducible refine LeO.bind ?_ (fun _ => ?_))
   | exact ih0 _ _ _
   | exact ih1 _ _ _ _
   | exact ih2 _ _ _ _ _ _ _ _
   | exact ih3 _ _ _ _ _ _ _ _ _ _
   | exact ih4 _ _ _ _ _ _ _ _ _ _
   | exact ih5 _ _ _ _ _ _ _ _ _ _ _
   | exact ih6 _ _ _ _ _ _ _ _ _ _ _
   | exact bytes_Get.mono _ _ _ _ _
   | exact bytes_Put.mono _ _ _ _ _ _ _ _
   | exact cellarlaw8_wakes.mono _
   | exact cellarref0_CopyBytes.mono _ _
   | exact cellarref0_EqBytes.mono _ _ _
   | exact cellarref1_Width.mono _ _
   | exact cellarref7_Get.mono _ _ _ _ _
   | exact cellarref7_Put.mono _ _ _ _ _ _ _ _
   | exact LeO.none _
   | refine LeO.ite ?_ ?_
   | refine LeO.bind ?_ (fun _ => ?_)
  ·intro y0 y1 y2 y3
   unfold cellarlaw8_kind.l1
   repeat' first
   | (with_reducible exact ih0 _ _ _)
   | (with_reducible exact ih1 _ _ _ _)
   | (with_reducible exact ih2 _ _ _ _ _ _ _ _)
   | (with_reducible exact ih3 _ _ _ _ _ _ _ _ _ _)
   | (with_reducible exact ih4 _ _ _ _ _ _ _ _ _ _)
   | (with_reducible exact ih5 _ _ _ _ _ _ _ _ _ _ _)
   | (with_reducible exact ih6 _ _ _ _ _ _ _ _ _ _ _)
   | (with_reducible exact bytes_Get.mono _ _ _ _ _)
   | (with_reducible exact bytes_Put.mono _ _ _ _ _ _ _ _)
   | (with_reducible exact cellarlaw8_wakes.mono _)
   | (with_reducible exact cellarref0_CopyBytes.mono _ _)
   | (with_reducible exact cellarref0_EqBytes.mono _ _ _)
   | (with_reducible exact cellarref1_Width.mono _ _)
   | (with_reducible exact cellarref7_Get.mono _ _ _ _ _)
   | (with_reducible exact cellarref7_Put.mono _ _ _ _ _ _ _ _)
   | (with_reducible exact LeO.refl _)
   | (with_reducible exact LeO.none _)
   | (with_reducible refine LeO.ite ?_ ?_)
   | (with_reducible refine LeO.bind ?_ (fun _ => ?_))
   | exact ih0 _ _ _
   | exact ih1 _ _ _ _
   | exact ih2 _ _ _ _ _ _ _ _
   | exact ih3 _ _ _ _ _ _ _ _ _ _
   | exact ih4 _ _ _ _ _ _ _ _ _ _
   | exact ih5 _ _ _ _ _ _ _ _ _ _ _
   | exact ih6 _ _ _ _ _ _ _ _ _ _ _
   | exact bytes_Get.mono _ _ _ _ _
   | exact bytes_Put.mono _ _ _ _ _ _ _ _
   | exact cellarlaw8_wakes.mono _
   | exact cellarref0_CopyBytes.mono _ _
   | exact cellarref0_EqBytes.mono _ _ _
   | exact cellarref1_Width.mono _ _
   | exact cellarref7_Get.mono _ _ _ _ _
   | exact cellarref7_Put.mono _ _ _ _ _ _ _ _
   | exact LeO.none _
   | refine LeO.ite ?_ ?_
   | refine LeO.bind ?_ (fun _ => ?_)
  ·intro y0 y1 y2 y3 y4 y5 y6 y7
   unfold cellarlaw8_kind.j2
   repeat' first
   | (with_reducible exact ih0 _ _ _)
   | (with_reducible exact ih1 _ _ _ _)
   | (with_reducible exact ih2 _ _ _ _ _ _ _ _)
   | (with_reducible exact ih3 _ _ _ _ _ _ _ _ _ _)
   | (with_reducible exact ih4 _ _ _ _ _ _ _ _ _ _)
   | (with_reducible exact ih5 _ _ _ _ _ _ _ _ _ _ _)
   | (with_reducible exact ih6 _ _ _ _ _ _ _ _ _ _ _)
   | (with_reducible exact bytes_Get.mono _ _ _ _ _)
   | (with_reducible exact bytes_Put.mono _ _ _ _ _ _ _ _)
   | (with_reducible exact cellarlaw8_wakes.mono _)
   | (with_reducible exact cellarref0_CopyBytes.mono _ _)
   | (with_reducible exact cellarref0_EqBytes.mono _ _ _)
   | (with_reducible exact cellarref1_Width.mono _ _)
   | (with_reducible exact cellarref7_Get.mono _ _ _ _ _)
   | (with_reducible exact cellarref7_Put.mono _ _ _ _ _ _ _ _)
   | (with_reducible exact LeO.refl _)
   | (with_reducible exact LeO.none _)
   | (with_reducible refine LeO.ite ?_ ?_)
   | (with_reducible refine LeO.bind ?_ (fun _ => ?_))
   | exact ih0 _ _ _
   | exact ih1 _ _ _ _
   | exact ih2 _ _ _ _ _ _ _ _
   | exact ih3 _ _ _ _ _ _ _ _ _ _
   | exact ih4 _ _ _ _ _ _ _ _ _ _
   | exact ih5 _ _ _ _ _ _ _ _ _ _ _
   | exact ih6 _ _ _ _ _ _ _ _ _ _ _
   | exact bytes_Get.mono _ _ _ _ _
   | exact bytes_Put.mono _ _ _ _ _ _ _ _
   | exact cellarlaw8_wakes.mono _
   | exact cellarref0_CopyBytes.mono _ _
   | exact cellarref0_EqBytes.mono _ _ _
   | exact cellarref1_Width.mono _ _
   | exact cellarref7_Get.mono _ _ _ _ _
   | exact cellarref7_Put.mono _ _ _ _ _ _ _ _
   | exact LeO.none _
   | refine LeO.ite ?_ ?_
   | refine LeO.bind ?_ (fun _ => ?_)
  ·intro y0 y1 y2 y3 y4 y5 y6 y7 y8 y9
   unfold cellarlaw8_kind.j3
   repeat' first
   | (with_reducible exact ih0 _ _ _)
   | (with_reducible exact ih1 _ _ _ _)
   | (with_reducible exact ih2 _ _ _ _ _ _ _ _)
   | (with_reducible exact ih3 _ _ _ _ _ _ _ _ _ _)
   | (with_reducible exact ih4 _ _ _ _ _ _ _ _ _ _)
   | (with_reducible exact ih5 _ _ _ _ _ _ _ _ _ _ _)
   | (with_reducible exact ih6 _ _ _ _ _ _ _ _ _ _ _)
   | (with_reducible exact bytes_Get.mono _ _ _ _ _)
   | (with_reducible exact bytes_Put.mono _ _ _ _ _ _ _ _)
   | (with_reducible exact cellarlaw8_wakes.mono _)
   | (with_reducible exact cellarref0_CopyBytes.mono _ _)
   | (with_reducible exact cellarref0_EqBytes.mono _ _ _)
   | (with_reducible exact cellarref1_Width.mono _ _)
   | (with_reducible exact cellarref7_Get.mono _ _ _ _ _)
   | (with_reducible exact cellarref7_Put.mono _ _ _ _ _ _ _ _)
   | (with_reducible exact LeO.refl _)
   | (with_reducible exact LeO.none _)
   | (with_reducible refine LeO.ite ?_ ?_)
   | (with_reducible refine LeO.bind ?_ (fun _ => ?_))
   | exact ih0 _ _ _
   | exact ih1 _ _ _ _
   | exact ih2 _ _ _ _ _ _ _ _
   | exact ih3 _ _ _ _ _ _ _ _ _ _
   | exact ih4 _ _ _ _ _ _ _ _ _ _
   | exact ih5 _ _ _ _ _ _ _ _ _ _ _
   | exact ih6 _ _ _ _ _ _ _ _ _ _ _
   | exact bytes_Get.mono _ _ _ _ _
   | exact bytes_Put.mono _ _ _ _ _ _ _ _
   | exact cellarlaw8_wakes.mono _
   | exact cellarref0_CopyBytes.mono _ _
   | exact cellarref0_EqBytes.mono _ _ _
   | exact cellarref1_Width.mono _ _
   | exact cellarref7_Get.mono _ _ _ _ _
   | exact cellarref7_Put.mono _ _ _ _ _ _ _ _
   | exact LeO.none _
   | refine LeO.ite ?_ ?_
   | refine LeO.bind ?_ (fun _ => ?_)
  ·intro y0 y1 y2 y3 y4 y5 y6 y7 y8 y9
   unfold cellarlaw8_kind.l2
   repeat' first
   | (with_reducible exact ih0 _ _ _)
   | (with_reducible exact ih1 _ _ _ _)
   | (with_reducible exact ih2 _ _ _ _ _ _ _ _)
   | (with_reducible exact ih3 _ _ _ _ _ _ _ _ _ _)
   | (with_reducible exact ih4 _ _ _ _ _ _ _ _ _ _)
   | (with_reducible exact ih5 _ _ _ _ _ _ _ _ _ _ _)
   | (with_reducible exact ih6 _ _ _ _ _ _ _ _ _ _ _)
   | (with_reducible exact bytes_Get.mono _ _ _ _ _)
   | (with_reducible exact bytes_Put.mono _ _ _ _ _ _ _ _)
   | (with_reducible exact cellarlaw8_wakes.mono _)
   | (with_reducible exact cellarref0_CopyBytes.mono _ _)
   | (with_reducible exact cellarref0_EqBytes.mono _ _ _)
   | (with_reducible exact cellarref1_Width.mono _ _)
   | (with_reducible exact cellarref7_Get.mono _ _ _ _ _)
   | (with_reducible exact cellarref7_Put.mono _ _ _ _ _ _ _ _)
   | (with_reducible exact LeO.refl _)
   | (with_reducible exact LeO.none _)
   | (with_reducible refine LeO.ite ?_ ?_)
   | (with_reducible refine LeO.bind ?_ (fun _ => ?_))
   | exact ih0 _ _ _
   | exact ih1 _ _ _ _
   | exact ih2 _ _ _ _ _ _ _ _
   | exact ih3 _ _ _ _ _ _ _ _ _ _
   | exact ih4 _ _ _ _ _ _ _ _ _ _
   | exact ih5 _ _ _ _ _ _ _ _ _ _ _
   | exact ih6 _ _ _ _ _ _ _ _ _ _ _
   | exact bytes_Get.mono _ _ _ _ _
   | exact bytes_Put.mono _ _ _ _ _ _ _ _
   | exact cellarlaw8_wakes.mono _
   | exact cellarref0_CopyBytes.mono _ _
   | exact cellarref0_EqBytes.mono _ _ _
   | exact cellarref1_Width.mono _ _
   | exact cellarref7_Get.mono _ _ _ _ _
   | exact cellarref7_Put.mono _ _ _ _ _ _ _ _
   | exact LeO.none _
   | refine LeO.ite ?_ ?_
   | refine LeO.bind ?_ (fun _ => ?_)
  ·intro y0 y1 y2 y3 y4 y5 y6 y7 y8 y9 y10
   unfold cellarlaw8_kind.j5
   repeat' first
   | (with_reducible exact ih0 _ _ _)
   | (with_reducible exact ih1 _ _ _ _)
   | (with_reducible exact ih2 _ _ _ _ _ _ _ _)
   | (with_reducible exact ih3 _ _ _ _ _ _ _ _ _ _)
   | (with_reducible exact ih4 _ _ _ _ _ _ _ _ _ _)
   | (with_reducible exact ih5 _ _ _ _ _ _ _ _ _ _ _)
   | (with_reducible exact ih6 _ _ _ _ _ _ _ _ _ _ _)
   | (with_reducible exact bytes_Get.mono _ _ _ _ _)
   | (with_reducible exact bytes_Put.mono _ _ _ _ _ _ _ _)
   | (with_reducible exact cellarlaw8_wakes.mono _)
   | (with_reducible exact cellarref0_CopyBytes.mono _ _)
   | (with_reducible exact cellarref0_EqBytes.mono _ _ _)
   | (with_reducible exact cellarref1_Width.mono _ _)
   | (with_reducible exact cellarref7_Get.mono _ _ _ _ _)
   | (with_reducible exact cellarref7_Put.mono _ _ _ _ _ _ _ _)
   | (with_reducible exact LeO.refl _)
   | (with_reducible exact LeO.none _)
   | (with_reducible refine LeO.ite ?_ ?_)
   | (with_reducible refine LeO.bind ?_ (fun _ => ?_))
   | exact ih0 _ _ _
   | exact ih1 _ _ _ _
   | exact ih2 _ _ _ _ _ _ _ _
   | exact ih3 _ _ _ _ _ _ _ _ _ _
   | exact ih4 _ _ _ _ _ _ _ _ _ _
   | exact ih5 _ _ _ _ _ _ _ _ _ _ _
   | exact ih6 _ _ _ _ _ _ _ _ _ _ _
   | exact bytes_Get.mono _ _ _ _ _
   | exact bytes_Put.mono _ _ _ _ _ _ _ _
   | exact cellarlaw8_wakes.mono _
   | exact cellarref0_CopyBytes.mono _ _
   | exact cellarref0_EqBytes.mono _ _ _
   | exact cellarref1_Width.mono _ _
   | exact cellarref7_Get.mono _ _ _ _ _
   | exact cellarref7_Put.mono _ _ _ _ _ _ _ _
   | exact LeO.none _
   | refine LeO.ite ?_ ?_
   | refine LeO.bind ?_ (fun _ => ?_)
  ·intro y0 y1 y2 y3 y4 y5 y6 y7 y8 y9 y10
   unfold cellarlaw8_kind.j6
   repeat' first
   | (with_reducible exact ih0 _ _ _)
   | (with_reducible exact ih1 _ _ _ _)
   | (with_reducible exact ih2 _ _ _ _ _ _ _ _)
   | (with_reducible exact ih3 _ _ _ _ _ _ _ _ _ _)
   | (with_reducible exact ih4 _ _ _ _ _ _ _ _ _ _)
   | (with_reducible exact ih5 _ _ _ _ _ _ _ _ _ _ _)
   | (with_reducible exact ih6 _ _ _ _ _ _ _ _ _ _ _)
   | (with_reducible exact bytes_Get.mono _ _ _ _ _)
   | (with_reducible exact bytes_Put.mono _ _ _ _ _ _ _ _)
   | (with_reducible exact cellarlaw8_wakes.mono _)
   | (with_reducible exact cellarref0_CopyBytes.mono _ _)
   | (with_reducible exact cellarref0_EqBytes.mono _ _ _)
   | (with_reducible exact cellarref1_Width.mono _ _)
   | (with_reducible exact cellarref7_Get.mono _ _ _ _ _)
   | (with_reducible exact cellarref7_Put.mono _ _ _ _ _ _ _ _)
   | (with_reducible exact LeO.refl _)
   | (with_reducible exact LeO.none _)
   | (with_reducible refine LeO.ite ?_ ?_)
   | (with_reducible refine LeO.bind ?_ (fun _ => ?_))
   | exact ih0 _ _ _
   | exact ih1 _ _ _ _
   | exact ih2 _ _ _ _ _ _ _ _
   | exact ih3 _ _ _ _ _ _ _ _ _ _
   | exact ih4 _ _ _ _ _ _ _ _ _ _
   | exact ih5 _ _ _ _ _ _ _ _ _ _ _
   | exact ih6 _ _ _ _ _ _ _ _ _ _ _
   | exact bytes_Get.mono _ _ _ _ _
   | exact bytes_Put.mono _ _ _ _ _ _ _ _
   | exact cellarlaw8_wakes.mono _
   | exact cellarref0_CopyBytes.mono _ _
   | exact cellarref0_EqBytes.mono _ _ _
   | exact cellarref1_Width.mono _ _
   | exact cellarref7_Get.mono _ _ _ _ _
   | exact cellarref7_Put.mono _ _ _ _ _ _ _ _
   | exact LeO.none _
   | refine LeO.ite ?_ ?_
   | refine LeO.bind ?_ (fun _ => ?_)
theorem cellarlaw8_kind.mono : ∀ a0 a1 a2 a3 k, LeO (cellarlaw8_kind.f k a0 a1 a2 a3) (cellarlaw8_kind.f (k + 1) a0 a1 a2 a3) := by
 intro a0 a1 a2 a3 k
 obtain ⟨ih0, ih1, ih2, ih3, ih4, ih5, ih6⟩ := cellarlaw8_kind.mono_l k
 unfold cellarlaw8_kind.f
 repeat' first
   | (with_reducible exact ih0 _ _ _)
   | (with_reducible exact ih1 _ _ _ _)
   | (with_reducible exact ih2 _ _ _ _ _ _ _ _)
   | (with_reducible exact ih3 _ _ _ _ _ _ _ _ _ _)
   | (with_reducible exact ih4 _ _ _ _ _ _ _ _ _ _)
   | (with_reducible exact ih5 _ _ _ _ _ _ _ _ _ _ _)
   | (with_reducible exact ih6 _ _ _ _ _ _ _ _ _ _ _)
   | (with_reducible exact bytes_Get.mono _ _ _ _ _)
   | (with_reducible exact bytes_Put.mono _ _ _ _ _ _ _ _)
   | (with_reducible exact cellarlaw8_wakes.mono _)
   | (with_reducible exact cellarref0_CopyBytes.mono _ _)
   | (with_reducible exact cellarref0_EqBytes.mono _ _ _)
   | (with_reducible exact cellarref1_Width.mono _ _)
   | (with_reducible exact cellarref7_Get.mono _ _ _ _ _)
   | (with_reducible exact cellarref7_Put.mono _ _ _ _ _ _ _ _)
   | (with_reducible exact LeO.refl _)
   | (with_reducible exact LeO.none _)
   | (with_reducible refine LeO.ite ?_ ?_)
   | (with_reducible refine LeO.bind ?_ (fun _ => ?_))
   | exact ih0 _ _ _
   | exact ih1 _ _ _ _
   | exact ih2 _ _ _ _ _ _ _ _
   | exact ih3 _ _ _ _ _ _ _ _ _ _
   | exact ih4 _ _ _ _ _ _ _ _ _ _
   | exact ih5 _ _ _ _ _ _ _ _ _ _ _
   | exact ih6 _ _ _ _ _ _ _ _ _ _ _
   | exact bytes_Get.mono _ _ _ _ _
   | exact bytes_Put.mono _ _ _ _ _ _ _ _
   | exact cellarlaw8_wakes.mono _
   | exact cellarref0_CopyBytes.mono _ _
   | exact cellarref0_EqBytes.mono _ _ _
   | exact cellarref1_Width.mono _ _
   | exact cellarref7_Get.mono _ _ _ _ _
   | exact cellarref7_Put.mono _ _ _ _ _ _ _ _
   | exact LeO.none _
   | refine LeO.ite ?_ ?_
   | refine LeO.bind ?_ (fun _ => ?_)
def cellarlaw8_kind.T17 : Bool × List (List Nat × List Nat) := (true, [([], []), ([0], [0]), ([1], [1]), ([], []), ([3], [3]), ([4], [4]), ([5], [5]), ([], []), ([7], [7]), ([2, 6, 8], [2, 6, 8]), ([], []), ([10], [10]), ([9, 11], [9, 11]), ([12], [12]), ([], []), ([13, 14], [13, 14]), ([0, 1, 2, 3, 4, 5, 6, 7, 8, 9, 10, 11, 12, 13, 14, 15], []), ([16, 15, 15, 0, 1, 2, 3, 4, 5, 6, 7, 8, 9, 10, 11, 12, 13, 14, 15], [15, 16])])
def cellarlaw8_kind.B17 : List Nat := [0, 1, 3, 0, 8, 24, 56, 0, 128, 511, 0, 1024, 4095, 8191, 0, 32767, 65535, 131071]
theorem cellarlaw8_kind.tab17 : rtab .any (opsOf Try.f27 17) = cellarlaw8_kind.T17 := by kernel_rfl
theorem cellarlaw8_kind.bits17 : waitsOk cellarlaw8_kind.T17.2 cellarlaw8_kind.B17 = true := by kernel_rfl
def cellarlaw8_kind.T18 : Bool × List (List Nat × List Nat) := (true, [([], []), ([], []), ([0, 1], [0, 1]), ([2], [2]), ([], []), ([], []), ([3, 4, 5], [3, 4, 5]), ([6], [6]), ([7], [7]), ([7], [7]), ([8, 6, 0, 1, 2, 3, 4, 5, 6, 7, 8], [8]), ([9, 10, 0, 1, 2, 3, 4, 5, 6, 7, 8, 9, 10], [9])])
def cellarlaw8_kind.B18 : List Nat := [0, 0, 3, 7, 0, 0, 63, 127, 255, 255, 511, 2047]
theorem cellarlaw8_kind.tab18 : rtab .any (opsOf Try.f27 18) = cellarlaw8_kind.T18 := by kernel_rfl
theorem cellarlaw8_kind.bits18 : waitsOk cellarlaw8_kind.T18.2 cellarlaw8_kind.B18 = true := by kernel_rfl
def cellarlaw8_kind.T19 : Bool × List (List Nat × List Nat) := (true, [([], []), ([0], [0]), ([1], [1]), ([2, 1], [2]), ([3], [3]), ([3], [3]), ([3], [3]), ([5, 6, 3], [3, 5, 6]), ([7, 3], [3, 7]), ([3], [3]), ([3], [3]), ([8, 9, 10, 3, 3], [3, 8, 9, 10]), ([4, 11, 11, 3], [3, 4, 11]), ([12, 3], [3, 12]), ([3, 13], [3, 13]), ([14, 12], [14]), ([15], [15]), ([16, 15], [15, 16]), ([17, 15], [15, 17]), ([15, 18], [15, 18])])
def cellarlaw8_kind.B19 : List Nat := [0, 1, 3, 7, 15, 15, 15, 111, 239, 15, 15, 2031, 4095, 8191, 16383, 32767, 65535, 131071, 262143, 524287]
theorem cellarlaw8_kind.tab19 : rtab .any (opsOf Try.f27 19) = cellarlaw8_kind.T19 := by kernel_rfl
theorem cellarlaw8_kind.bits19 : waitsOk cellarlaw8_kind.T19.2 cellarlaw8_kind.B19 = true := by kernel_rfl
abbrev cellarlaw8_kind.b0 : Array Bool := #[false,false,false,false,false,false,false,false,false,false,false,false,false,false,false,false,false,false]
abbrev cellarlaw8_kind.b1 : Array Bool := #[true,false,false,false,false,false,false,false,false,false,false,false,false,false,false,false,false,false]
abbrev cellarlaw8_kind.b2 : Array Bool := #[true,true,false,false,false,false,false,false,false,false,false,false,false,false,false,false,false,false]
abbrev cellarlaw8_kind.b3 : Array Bool := #[true,true,true,false,false,false,false,false,false,false,false,false,false,false,false,false,false,false]
abbrev cellarlaw8_kind.b4 : Array Bool := #[true,true,true,true,false,false,false,false,false,false,false,false,false,false,false,false,false,false]
abbrev cellarlaw8_kind.b5 : Array Bool := #[true,true,true,true,true,false,false,false,false,false,false,false,false,false,false,false,false,false]
abbrev cellarlaw8_kind.b6 : Array Bool := #[true,true,true,true,true,true,false,false,false,false,false,false,false,false,false,false,false,false]
abbrev cellarlaw8_kind.b7 : Array Bool := #[true,true,true,true,true,true,true,false,false,false,false,false,false,false,false,false,false,false]
abbrev cellarlaw8_kind.b8 : Array Bool := #[true,true,true,true,true,true,true,true,false,false,false,false,false,false,false,false,false,false]
abbrev cellarlaw8_kind.b9 : Array Bool := #[true,true,true,true,true,true,true,true,true,false,false,false,false,false,false,false,false,false]
abbrev cellarlaw8_kind.b10 : Array Bool := #[true,true,true,true,true,true,true,true,true,false,true,false,false,false,false,false,false,false]
abbrev cellarlaw8_kind.b11 : Array Bool := #[true,true,true,true,true,true,true,true,true,false,true,true,false,false,false,false,false,false]
abbrev cellarlaw8_kind.b12 : Array Bool := #[true,true,true,true,true,true,true,true,true,false,true,true,false,false,true,false,false,false]
abbrev cellarlaw8_kind.b13 : Array Bool := #[true,true,true,true,true,true,true,true,true,true,true,true,false,false,true,false,false,false]
abbrev cellarlaw8_kind.b14 : Array Bool := #[true,true,true,true,true,true,true,true,true,true,true,true,true,false,true,false,false,false]
abbrev cellarlaw8_kind.b15 : Array Bool := #[true,true,true,true,true,true,true,true,true,true,true,true,true,true,true,false,false,false]
abbrev cellarlaw8_kind.b16 : Array Bool := #[true,true,true,true,true,true,true,true,true,true,true,true,true,true,true,true,false,false]
abbrev cellarlaw8_kind.b17 : Array Bool := #[true,true,true,true,true,true,true,true,true,true,true,true,true,true,true,true,true,false]
abbrev cellarlaw8_kind.b18 : Array Bool := #[true,true,true,true,true,true,true,true,true,true,true,true,true,true,true,true,true,true]
abbrev cellarlaw8_kind.b19 : Array Bool := #[false,false,false,false,false,false,false,false,false,false,false,false]
abbrev cellarlaw8_kind.b20 : Array Bool := #[true,false,false,false,false,false,false,false,false,false,false,false]
abbrev cellarlaw8_kind.b21 : Array Bool := #[true,true,false,false,false,false,false,false,false,false,false,false]
abbrev cellarlaw8_kind.b22 : Array Bool := #[true,true,true,false,false,false,false,false,false,false,false,false]
abbrev cellarlaw8_kind.b23 : Array Bool := #[true,true,true,false,true,false,false,false,false,false,false,false]
abbrev cellarlaw8_kind.b24 : Array Bool := #[true,true,true,true,true,false,false,false,false,false,false,false]
abbrev cellarlaw8_kind.b25 : Array Bool := #[true,true,true,true,true,true,false,false,false,false,false,false]
abbrev cellarlaw8_kind.b26 : Array Bool := #[true,true,true,true,true,true,true,false,false,false,false,false]
abbrev cellarlaw8_kind.b27 : Array Bool := #[true,true,true,true,true,true,true,true,false,false,false,false]
abbrev cellarlaw8_kind.b28 : Array Bool := #[true,true,true,true,true,true,true,true,true,false,false,false]
abbrev cellarlaw8_kind.b29 : Array Bool := #[true,true,true,true,true,true,true,true,true,true,false,false]
abbrev cellarlaw8_kind.b30 : Array Bool := #[true,true,true,true,true,true,true,true,true,true,true,false]
abbrev cellarlaw8_kind.b31 : Array Bool := #[true,true,true,true,true,true,true,true,true,true,true,true]
abbrev cellarlaw8_kind.b32 : Array Bool := #[false,false,false,false,false,false,false,false,false,false,false,false,false,false,false,false,false,false,false,false]
abbrev cellarlaw8_kind.b33 : Array Bool := #[true,false,false,false,false,false,false,false,false,false,false,false,false,false,false,false,false,false,false,false]
abbrev cellarlaw8_kind.b34 : Array Bool := #[true,true,false,false,false,false,false,false,false,false,false,false,false,false,false,false,false,false,false,false]
abbrev cellarlaw8_kind.b35 : Array Bool := #[true,true,true,false,false,false,false,false,false,false,false,false,false,false,false,false,false,false,false,false]
abbrev cellarlaw8_kind.b36 : Array Bool := #[true,true,true,true,false,false,false,false,false,false,false,false,false,false,false,false,false,false,false,false]
abbrev cellarlaw8_kind.b37 : Array Bool := #[true,true,true,true,true,false,false,false,false,false,false,false,false,false,false,false,false,false,false,false]
abbrev cellarlaw8_kind.b38 : Array Bool := #[true,true,true,true,true,true,false,false,false,false,false,false,false,false,false,false,false,false,false,false]
abbrev cellarlaw8_kind.b39 : Array Bool := #[true,true,true,true,true,true,true,false,false,false,false,false,false,false,false,false,false,false,false,false]
abbrev cellarlaw8_kind.b40 : Array Bool := #[true,true,true,true,true,true,true,true,false,false,false,false,false,false,false,false,false,false,false,false]
abbrev cellarlaw8_kind.b41 : Array Bool := #[true,true,true,true,true,true,true,true,false,true,false,false,false,false,false,false,false,false,false,false]
abbrev cellarlaw8_kind.b42 : Array Bool := #[true,true,true,true,true,true,true,true,true,true,false,false,false,false,false,false,false,false,false,false]
abbrev cellarlaw8_kind.b43 : Array Bool := #[true,true,true,true,true,true,true,true,true,true,true,false,false,false,false,false,false,false,false,false]
abbrev cellarlaw8_kind.b44 : Array Bool := #[true,true,true,true,true,true,true,true,true,true,true,true,false,false,false,false,false,false,false,false]
abbrev cellarlaw8_kind.b45 : Array Bool := #[true,true,true,true,true,true,true,true,true,true,true,true,true,false,false,false,false,false,false,false]
abbrev cellarlaw8_kind.b46 : Array Bool := #[true,true,true,true,true,true,true,true,true,true,true,true,true,true,false,false,false,false,false,false]
abbrev cellarlaw8_kind.b47 : Array Bool := #[true,true,true,true,true,true,true,true,true,true,true,true,true,true,true,false,false,false,false,false]
abbrev cellarlaw8_kind.b48 : Array Bool := #[true,true,true,true,true,true,true,true,true,true,true,true,true,true,true,true,false,false,false,false]
abbrev cellarlaw8_kind.b49 : Array Bool := #[true,true,true,true,true,true,true,true,true,true,true,true,true,true,true,true,true,false,false,false]
abbrev cellarlaw8_kind.b50 : Array Bool := #[true,true,true,true,true,true,true,true,true,true,true,true,true,true,true,true,true,true,false,false]
abbrev cellarlaw8_kind.b51 : Array Bool := #[true,true,true,true,true,true,true,true,true,true,true,true,true,true,true,true,true,true,true,false]
abbrev cellarlaw8_kind.b52 : Array Bool := #[true,true,true,true,true,true,true,true,true,true,true,true,true,true,true,true,true,true,true,true]
abbrev cellarlaw8_kind.b53 : Array Bool := #[true,true,true,true,true,true,true,true,true,false,false,false,false,false,false,false,false,false,false,false]
set_option maxHeartbeats 60000000 in
set_option maxRecDepth 100000 in
theorem cellarlaw8_kind.calls (k : Nat) (A0_0 : Option Addr) (c0_0 : Nat) (l0_0 : List (S38)) (A0_1 : Option Addr) (c0_1 : Nat) (l0_1 : List (S33)) (A0_2 : Option Addr) (c0_2 : Nat) (l0_2 : List (S51)) (a1 : Int) (r : Bool) (w : World) (hr0_0 : Kd.C k38 w A0_0 l0_0.length l0_0) (hc0_0 : l0_0.length ≤ c0_0) (hr0_1 : Kd.C k33 w A0_1 l0_1.length l0_1) (hc0_1 : l0_1.length ≤ c0_1) (hr0_2 : Kd.C k51 w A0_2 l0_2.length l0_2) (hc0_2 : l0_2.length ≤ c0_2) (h : cellarlaw8_kind.f k l0_0 l0_1 l0_2 a1 = some r) :
  Calls Try.prog 27 #[.agg #[.slice A0_0 l0_0.length c0_0, .slice A0_1 l0_1.length c0_1, .slice A0_2 l0_2.length c0_2], .int .i64 a1] w fun e w' => e = .returned (.bool r) ∧ Below w.heap.size w w' := by
 have hu26 := Try.underlying26
 have hu38 := Try.underlying38
 have hu33 := Try.underlying33
 have hu51 := Try.underlying51
 have HR0_0 := Aside0.mk hr0_0
 have HC0_0 := Aside0.mk hc0_0
 clear hr0_0 hc0_0
 have HR0_1 := Aside0.mk hr0_1
 have HC0_1 := Aside0.mk hc0_1
 clear hr0_1 hc0_1
 have HR0_2 := Aside0.mk hr0_2
 have HC0_2 := Aside0.mk hc0_2
 clear hr0_2 hc0_2
 have HB := Aside0.mk (Below.refl w.heap.size w)
 have H : ((cellarlaw8_Heavy.f l0_0 l0_1 l0_2).bind fun t226 => (if t226 = true then (some true) else ((cellarlaw8_Machines.f l0_0).bind fun t227 => (cellarlaw8_kind.l0 k a1 t227 0)))) = some r := h
 clear h
 replace H := Option.bind_eq_some_iff.mp H
 obtain ⟨t226, A30, H⟩ := H
 replace H : (if t226 = true then (some true) else ((cellarlaw8_Machines.f l0_0).bind fun t227 => (cellarlaw8_kind.l0 k a1 t227 0))) = some r := H
 have A3 := Aside0.mk A30
 clear A30
 by_cases c4 : t226 = true
 ·subst c4
  have H1 : (some true) = some r := by rw [if_pos rfl] at H; exact H
  clear H
  have H := H1
  clear H1
  obtain rfl := Option.some.inj H
  go_enter Try.func27, Try.ntmps27
  go_wp2_with (first | ((with_reducible refine gate_dst (N := 2) rfl ?_); (try (refine gate_guard (by rfl) ?_; dsimp only)); refine box_event ?hg (N := 2) ?hd (cs := #[.slice A0_0 l0_0.length c0_0, .slice A0_1 l0_1.length c0_1, .slice A0_2 l0_2.length c0_2]) (t := 26) ?hr ?_; (case hd => rfl); (case hg => rfl); (case hr => first | (go_simp; done) | (go_simp; rfl)); intro gb225 hg w5 hbox hb; have n0_ := Aside0.mk (below_step (zw0 HB.out) hb); have n1_ := Aside0.mk (hbox); have n2_ := Aside0.mk ((by rw [hg]; exact (below_size (zw0 HB.out)) : w.heap.size ≤ gb225)); have n3_ := Aside0.mk ((by rw [hg]; exact (below_size (zw0 HB.out)) : w.heap.size ≤ gb225)); clear HB; have HB := n0_; have BK225 := n1_; have GW225 := n2_; have GE225 := n3_; clear n0_ n1_ n2_ n3_; clear hb hbox hg; have hcz6_0 : w5.cell? ⟨gb225, 0, none⟩ = some (.slice A0_0 l0_0.length c0_0) := (blk_cell BK225.out 0).trans rfl; have hcz6_1 : w5.cell? ⟨gb225, 1, none⟩ = some (.slice A0_1 l0_1.length c0_1) := (blk_cell BK225.out 1).trans rfl; have hcz6_2 : w5.cell? ⟨gb225, 2, none⟩ = some (.slice A0_2 l0_2.length c0_2) := (blk_cell BK225.out 2).trans rfl; have hfz6_0 := blk_frozen BK225.out 0; have hfz6_1 := blk_frozen BK225.out 1; have hfz6_2 := blk_frozen BK225.out 2) | ((with_reducible refine gate_callee (f := 13) rfl ?_); refine goesL_ (some 20) rfl rfl Try.func13 (by kernel_rfl) rfl #[.agg #[.slice A0_0 l0_0.length c0_0, .slice A0_1 l0_1.length c0_1, .slice A0_2 l0_2.length c0_2]] rfl (by (try simp only [List.map_toArray, List.map_cons, List.map_nil]); first | done | rfl | (simp only [List.length_drop, List.length_take]; rfl)) ?_; (with_reducible refine (cellarlaw8_Heavy.calls _ _ l0_0 _ _ l0_1 _ _ l0_2 true _ ?side1 ?side2 ?side3 ?side4 ?side5 ?side6 A3.out).mono ?_); (case side1 => repeat (first | exact (Kd.C_below HR0_0.out HB.out) | (with_reducible refine Kd.C_alloc ?_ _) | (with_reducible refine Kd.C_drewN ?_ _) | (with_reducible refine Kd.C_drew ?_))); (case side2 => exact HC0_0.out); (case side3 => repeat (first | exact (Kd.C_below HR0_1.out HB.out) | (with_reducible refine Kd.C_alloc ?_ _) | (with_reducible refine Kd.C_drewN ?_ _) | (with_reducible refine Kd.C_drew ?_))); (case side4 => exact HC0_1.out); (case side5 => repeat (first | exact (Kd.C_below HR0_2.out HB.out) | (with_reducible refine Kd.C_alloc ?_ _) | (with_reducible refine Kd.C_drewN ?_ _) | (with_reducible refine Kd.C_drew ?_))); (case side6 => exact HC0_2.out); rintro e w7 ⟨rfl, hb⟩; refine ⟨_, rfl, ?_⟩; have n0_ := Aside0.mk (blk_below (g := gb225) (o := .cells #[.slice A0_0 l0_0.length c0_0, .slice A0_1 l0_1.length c0_1, .slice A0_2 l0_2.length c0_2] 26 (0, 0)) (zb BK225.out) hb); have n1_ := Aside0.mk (below_step (zw1 HB.out GE225.out) hb); clear BK225; clear HB; have BK225 := n0_; have HB := n1_; clear n0_ n1_; (try clear hb); (try clear hb2); (try clear hk); (try clear hi)))
  go_ret
  exact ⟨by first | rfl | (simp [errW_none, errW_some] <;> rfl) | (simp [*, errW_none, errW_some] <;> rfl), zw1 HB.out GE225.out⟩
 ·replace c4 := Bool.eq_false_iff.mpr c4
  subst c4
  have H1 : ((cellarlaw8_Machines.f l0_0).bind fun t227 => (cellarlaw8_kind.l0 k a1 t227 0)) = some r := by rw [if_neg (show ¬ (false = true) by decide)] at H; exact H
  clear H
  have H := H1
  clear H1
  replace H := Option.bind_eq_some_iff.mp H
  obtain ⟨t227, A80, H⟩ := H
  replace H : (cellarlaw8_kind.l0 k a1 t227 0) = some r := H
  have A8 := Aside0.mk A80
  clear A80
  have H' := Aside0.mk H
  clear H
  go_enter Try.func27, Try.ntmps27
  go_wp2_with (first | ((with_reducible refine gate_dst (N := 2) rfl ?_); (try (refine gate_guard (by rfl) ?_; dsimp only)); refine box_event ?hg (N := 2) ?hd (cs := #[.slice A0_0 l0_0.length c0_0, .slice A0_1 l0_1.length c0_1, .slice A0_2 l0_2.length c0_2]) (t := 26) ?hr ?_; (case hd => rfl); (case hg => rfl); (case hr => first | (go_simp; done) | (go_simp; rfl)); intro gb225 hg w9 hbox hb; have n0_ := Aside0.mk (below_step (zw0 HB.out) hb); have n1_ := Aside0.mk (hbox); have n2_ := Aside0.mk ((by rw [hg]; exact (below_size (zw0 HB.out)) : w.heap.size ≤ gb225)); have n3_ := Aside0.mk ((by rw [hg]; exact (below_size (zw0 HB.out)) : w.heap.size ≤ gb225)); clear HB; have HB := n0_; have BK225 := n1_; have GW225 := n2_; have GE225 := n3_; clear n0_ n1_ n2_ n3_; clear hb hbox hg; have hcz10_0 : w9.cell? ⟨gb225, 0, none⟩ = some (.slice A0_0 l0_0.length c0_0) := (blk_cell BK225.out 0).trans rfl; have hcz10_1 : w9.cell? ⟨gb225, 1, none⟩ = some (.slice A0_1 l0_1.length c0_1) := (blk_cell BK225.out 1).trans rfl; have hcz10_2 : w9.cell? ⟨gb225, 2, none⟩ = some (.slice A0_2 l0_2.length c0_2) := (blk_cell BK225.out 2).trans rfl; have hfz10_0 := blk_frozen BK225.out 0; have hfz10_1 := blk_frozen BK225.out 1; have hfz10_2 := blk_frozen BK225.out 2) | ((with_reducible refine gate_callee (f := 13) rfl ?_); refine goesL_ (some 20) rfl rfl Try.func13 (by kernel_rfl) rfl #[.agg #[.slice A0_0 l0_0.length c0_0, .slice A0_1 l0_1.length c0_1, .slice A0_2 l0_2.length c0_2]] rfl (by (try simp only [List.map_toArray, List.map_cons, List.map_nil]); first | done | rfl | (simp only [List.length_drop, List.length_take]; rfl)) ?_; (with_reducible refine (cellarlaw8_Heavy.calls _ _ l0_0 _ _ l0_1 _ _ l0_2 false _ ?side1 ?side2 ?side3 ?side4 ?side5 ?side6 A3.out).mono ?_); (case side1 => repeat (first | exact (Kd.C_below HR0_0.out HB.out) | (with_reducible refine Kd.C_alloc ?_ _) | (with_reducible refine Kd.C_drewN ?_ _) | (with_reducible refine Kd.C_drew ?_))); (case side2 => exact HC0_0.out); (case side3 => repeat (first | exact (Kd.C_below HR0_1.out HB.out) | (with_reducible refine Kd.C_alloc ?_ _) | (with_reducible refine Kd.C_drewN ?_ _) | (with_reducible refine Kd.C_drew ?_))); (case side4 => exact HC0_1.out); (case side5 => repeat (first | exact (Kd.C_below HR0_2.out HB.out) | (with_reducible refine Kd.C_alloc ?_ _) | (with_reducible refine Kd.C_drewN ?_ _) | (with_reducible refine Kd.C_drew ?_))); (case side6 => exact HC0_2.out); rintro e w11 ⟨rfl, hb⟩; refine ⟨_, rfl, ?_⟩; have n0_ := Aside0.mk (blk_below (g := gb225) (o := .cells #[.slice A0_0 l0_0.length c0_0, .slice A0_1 l0_1.length c0_1, .slice A0_2 l0_2.length c0_2] 26 (0, 0)) (zb BK225.out) hb); have n1_ := Aside0.mk (below_step (zw1 HB.out GE225.out) hb); clear BK225; clear HB; have BK225 := n0_; have HB := n1_; clear n0_ n1_; (try clear hb); (try clear hb2); (try clear hk); (try clear hi); have hcz12_0 : w11.cell? ⟨gb225, 0, none⟩ = some (.slice A0_0 l0_0.length c0_0) := (blk_cell BK225.out 0).trans rfl; have hcz12_1 : w11.cell? ⟨gb225, 1, none⟩ = some (.slice A0_1 l0_1.length c0_1) := (blk_cell BK225.out 1).trans rfl; have hcz12_2 : w11.cell? ⟨gb225, 2, none⟩ = some (.slice A0_2 l0_2.length c0_2) := (blk_cell BK225.out 2).trans rfl; have hfz12_0 := blk_frozen BK225.out 0; have hfz12_1 := blk_frozen BK225.out 1; have hfz12_2 := blk_frozen BK225.out 2) | ((with_reducible refine gate_callee (f := 14) rfl ?_); refine goesL_ (some 23) rfl rfl Try.func14 (by kernel_rfl) rfl #[.slice A0_0 l0_0.length c0_0] rfl (by (try simp only [List.map_toArray, List.map_cons, List.map_nil]); first | done | rfl | (simp only [List.length_drop, List.length_take]; rfl)) ?_; (with_reducible refine (cellarlaw8_Machines.calls _ _ l0_0 t227 _ ?side1 ?side2 A8.out).mono ?_); (case side1 => repeat (first | exact (Kd.C_below HR0_0.out HB.out) | (with_reducible refine Kd.C_alloc ?_ _) | (with_reducible refine Kd.C_drewN ?_ _) | (with_reducible refine Kd.C_drew ?_))); (case side2 => exact HC0_0.out); rintro e w13 ⟨v228, rfl, ho0, hb⟩; refine ⟨_, rfl, ?_⟩; have n0_ := Aside0.mk (Kd.R_lower ho0 (below_size (zw1 HB.out GE225.out))); have n1_ := Aside0.mk (blk_below (g := gb225) (o := .cells #[.slice A0_0 l0_0.length c0_0, .slice A0_1 l0_1.length c0_1, .slice A0_2 l0_2.length c0_2] 26 (0, 0)) (zb BK225.out) hb); have n2_ := Aside0.mk (below_step (zw1 HB.out GE225.out) hb); clear BK225; clear HB; have HO229 := n0_; have BK225 := n1_; have HB := n2_; clear n0_ n1_ n2_; (try clear hb); (try clear hb2); (try clear hk); (try clear hi); (try clear ho0)))
  go_loopg [6] k (fun kq v6 w' => ∃ (x6_1 : Int), v6 = .int .i64 x6_1 ∧ Aside0 (cellarlaw8_kind.l0 kq a1 t227 x6_1 = some r) ∧ Aside0 (kq ≤ k) ∧ Aside0 (Kd.R k38 38 w' w.heap.size (fun _ => True) v228 t227) ∧ Aside0 (w'.heap[gb225]? = some (.cells #[(.slice A0_0 l0_0.length c0_0), (.slice A0_1 l0_1.length c0_1), (.slice A0_2 l0_2.length c0_2)] 26 (0, 0))) ∧ Aside0 (Below w.heap.size w w'))
  case atStart => exact ⟨(0), (by first | rfl | (simp; done) | (simp [*]; done)), H', ⟨Nat.le_refl _⟩, ⟨by (with_reducible repeat (first | apply Kd.R_alloc | apply Kd.R_drewN | apply Kd.R_drew)); exact HO229.out⟩, ⟨zb BK225.out⟩, ⟨zw1 HB.out GE225.out⟩⟩
  case round =>
   clear H'
   try clear c1
   try clear c2
   try clear p2
   try clear c4
   try clear c13
   try clear hcz10_0
   try clear hcz10_1
   try clear hcz10_2
   try clear hcz12_0
   try clear hcz12_1
   try clear hcz12_2
   try clear hcz6_0
   try clear hcz6_1
   try clear hcz6_2
   try clear hfz10_0
   try clear hfz10_1
   try clear hfz10_2
   try clear hfz12_0
   try clear hfz12_1
   try clear hfz12_2
   try clear hfz6_0
   try clear hfz6_1
   try clear hfz6_2
   obtain ⟨x6_1, rfl, HA, HK1, HO_5, BK225, HB⟩ := hrel
   cases gk with
   | zero => exact absurd HA.out (by simp [cellarlaw8_kind.l0])
   | succ k1 =>
    have H := HA.out
    clear HA
    simp only [cellarlaw8_kind.l0] at H
    by_cases c14 : x6_1 < (t227.length : Int)
    ·rw [if_pos c14] at H
     have c14b0 : decide (x6_1 < (t227.length : Int)) = true := decide_eq_true c14
     clear c14
     by_cases c15 : 0 ≤ x6_1
     ·rw [if_pos c15] at H
      have c15b0 : decide (0 ≤ x6_1) = true := decide_eq_true c15
      clear c15
      replace H := Option.bind_eq_some_iff.mp H
      obtain ⟨t232, A160, H⟩ := H
      replace H : (if t232 = true then (cellarlaw8_kind.l1 k1 a1 t227 x6_1 0) else (cellarlaw8_kind.l0 k1 a1 t227 (wrap64 (x6_1 + 1)))) = some r := H
      have A16 := Aside0.mk A160
      clear A160
      by_cases c17 : t232 = true
      ·subst c17
       have H1 : (cellarlaw8_kind.l1 k1 a1 t227 x6_1 0) = some r := by rw [if_pos rfl] at H; exact H
       clear H
       have H := H1
       clear H1
       have H' := Aside0.mk H
       clear H
       obtain ⟨Ao18, co18, eo18⟩ := Kd.R_slice HO_5.out
       subst eo18
       have p231 : 0 ≤ (x6_1 : Int) := zdec
       have q231 : x6_1 < (t227.length : Int) := zdec
       obtain ⟨ad231, e231, hx231_0, hx231_1⟩ := at_T38 (Kd.R_reads' HO_5.out).2.2 x6_1 p231 q231
       cases e231
       replace p231 := eq_true p231
       replace q231 := eq_true q231
       go_wp2_with (first | ((with_reducible refine gate_callee (f := 18) rfl ?_); refine goesL_ (some 34) rfl rfl Try.func18 (by kernel_rfl) rfl #[.agg #[.bool ((rd_T38 t227 x6_1).f0), .int .i64 ((rd_T38 t227 x6_1).f1)]] rfl (by (try simp only [List.map_toArray, List.map_cons, List.map_nil]); first | done | rfl | (simp only [List.length_drop, List.length_take]; rfl)) ?_; (with_reducible refine (cellarref1_Abi.calls ((rd_T38 t227 x6_1).f0) ((rd_T38 t227 x6_1).f1) true _ A16.out).mono ?_); rintro e w19 ⟨rfl, hb⟩; refine ⟨_, rfl, ?_⟩; have n0_ := Aside0.mk (Kd.R_below (by (with_reducible repeat (first | apply Kd.R_alloc | apply Kd.R_drewN | apply Kd.R_drew)); exact HO_5.out) hb); have n1_ := Aside0.mk (blk_below (g := gb225) (o := .cells #[.slice A0_0 l0_0.length c0_0, .slice A0_1 l0_1.length c0_1, .slice A0_2 l0_2.length c0_2] 26 (0, 0)) (zb BK225.out) hb); have n2_ := Aside0.mk (below_step (zw1 HB.out GE225.out) hb); clear HO_5; clear BK225; clear HB; have HO_5 := n0_; have BK225 := n1_; have HB := n2_; clear n0_ n1_ n2_; (try clear hb); (try clear hb2); (try clear hk); (try clear hi)))
       go_loopg [7] k1 (fun kq v7 w' => ∃ (x7_2 : Int), v7 = .int .i64 x7_2 ∧ Aside0 (cellarlaw8_kind.l1 kq a1 t227 x6_1 x7_2 = some r) ∧ Aside0 (kq ≤ k1) ∧ Aside0 (Kd.R k38 38 w' w.heap.size (fun _ => True) (.slice (some ad231) t227.length co18) t227) ∧ Aside0 (w'.heap[gb225]? = some (.cells #[(.slice A0_0 l0_0.length c0_0), (.slice A0_1 l0_1.length c0_1), (.slice A0_2 l0_2.length c0_2)] 26 (0, 0))) ∧ Aside0 (Below w.heap.size w w'))
       case atStart => exact ⟨(0), (by first | rfl | (simp; done) | (simp [*]; done)), H', ⟨Nat.le_refl _⟩, ⟨by (with_reducible repeat (first | apply Kd.R_alloc | apply Kd.R_drewN | apply Kd.R_drew)); exact HO_5.out⟩, ⟨zb BK225.out⟩, ⟨zw1 HB.out GE225.out⟩⟩
       case round =>
        clear H'
        try clear c1
        try clear c2
        try clear p2
        try clear q2
        try clear hx2
        try clear c4
        try clear p6
        try clear c13
        try clear c14
        try clear c14b0
        try clear c15
        try clear c15b0
        try clear c17
        try clear c18
        try clear hcz10_0
        try clear hcz10_1
        try clear hcz10_2
        try clear hcz12_0
        try clear hcz12_1
        try clear hcz12_2
        try clear hcz6_0
        try clear hcz6_1
        try clear hcz6_2
        try clear hfz10_0
        try clear hfz10_1
        try clear hfz10_2
        try clear hfz12_0
        try clear hfz12_1
        try clear hfz12_2
        try clear hfz6_0
        try clear hfz6_1
        try clear hfz6_2
        try clear hx231_0
        try clear hx231_1
        try clear p2
        try clear p231
        try clear q231
        obtain ⟨x7_2, rfl, HA, HK2, HO_5, BK225, HB⟩ := hrel
        cases gk with
        | zero => exact absurd HA.out (by simp [cellarlaw8_kind.l1])
        | succ k2 =>
         have H := HA.out
         clear HA
         simp only [cellarlaw8_kind.l1] at H
         by_cases c20 : x7_2 < 20
         ·rw [if_pos c20] at H
          have c20b0 : decide (x7_2 < 20) = true := decide_eq_true c20
          clear c20
          have HC21 := Aside0.mk H
          clear H
          go_upto_if 42 with (first | ((with_reducible refine gate_dst (N := 8) rfl ?_); (try (refine gate_guard (by rfl) ?_; dsimp only)); refine box_event ?hg (N := 8) ?hd (cs := #[.bool false, .int .i64 0, .int .i64 0, .int .i64 0]) (t := 33) ?hr ?_; (case hd => rfl); (case hg => rfl); (case hr => first | (go_simp; done) | (go_simp; rfl)); intro gb233 hg w22 hbox hb; have n0_ := Aside0.mk (Kd.R_below (by (with_reducible repeat (first | apply Kd.R_alloc | apply Kd.R_drewN | apply Kd.R_drew)); exact HO_5.out) hb); have n1_ := Aside0.mk (blk_below (g := gb225) (o := .cells #[.slice A0_0 l0_0.length c0_0, .slice A0_1 l0_1.length c0_1, .slice A0_2 l0_2.length c0_2] 26 (0, 0)) (zb BK225.out) hb); have n2_ := Aside0.mk (below_step (zw1 HB.out GE225.out) hb); have n3_ := Aside0.mk (hbox); have n4_ := Aside0.mk ((by rw [hg]; exact (below_size (zw1 HB.out GE225.out)) : w.heap.size ≤ gb233)); have n5_ := Aside0.mk ((by rw [hg]; exact (below_size (zw1 HB.out GE225.out)) : w.heap.size ≤ gb233)); have n6_ := Aside0.mk ((by rw [hg]; exact Nat.ne_of_lt (blk_lt (g := gb225) (o := .cells #[.slice A0_0 l0_0.length c0_0, .slice A0_1 l0_1.length c0_1, .slice A0_2 l0_2.length c0_2] 26 (0, 0)) (zb BK225.out)) : gb225 ≠ gb233)); have n7_ := Aside0.mk ((by rw [hg]; exact Nat.ne_of_gt (blk_lt (g := gb225) (o := .cells #[.slice A0_0 l0_0.length c0_0, .slice A0_1 l0_1.length c0_1, .slice A0_2 l0_2.length c0_2] 26 (0, 0)) (zb BK225.out)) : gb233 ≠ gb225)); clear HO_5; clear BK225; clear HB; have HO_5 := n0_; have BK225 := n1_; have HB := n2_; have BK233 := n3_; have GW233 := n4_; have GE233 := n5_; have NB225_233 := n6_; have NB233_225 := n7_; clear n0_ n1_ n2_ n3_ n4_ n5_ n6_ n7_; clear hb hbox hg; have hnb23 := NB233_225.out; have hnc23 := NB225_233.out; have hcz24_0 : w22.cell? ⟨gb233, 0, none⟩ = some (.bool false) := (blk_cell BK233.out 0).trans rfl; have hcz24_1 : w22.cell? ⟨gb233, 1, none⟩ = some (.int .i64 0) := (blk_cell BK233.out 1).trans rfl; have hcz24_2 : w22.cell? ⟨gb233, 2, none⟩ = some (.int .i64 0) := (blk_cell BK233.out 2).trans rfl; have hcz24_3 : w22.cell? ⟨gb233, 3, none⟩ = some (.int .i64 0) := (blk_cell BK233.out 3).trans rfl; have hfz24_0 := blk_frozen BK233.out 0; have hfz24_1 := blk_frozen BK233.out 1; have hfz24_2 := blk_frozen BK233.out 2; have hfz24_3 := blk_frozen BK233.out 3))
          (try simp only [Act.put, List.setIfInBounds_toArray, List.set_cons_zero, List.set_cons_succ])
          go_cut [] (fun wc => ∃ (kq : Nat) (x234000_20 : Bool) (x234001_20 : Int) (x234002_20 : Int) (x234003_20 : Int), Aside0 (cellarlaw8_kind.j2 kq a1 t227 x6_1 x7_2 x234000_20 x234001_20 x234002_20 x234003_20 = some r) ∧ Aside0 (kq ≤ k2) ∧ Aside0 (Kd.R k38 38 wc w.heap.size (fun _ => True) (.slice (some ad231) t227.length co18) t227) ∧ Aside0 (wc.heap[gb225]? = some (.cells #[(.slice A0_0 l0_0.length c0_0), (.slice A0_1 l0_1.length c0_1), (.slice A0_2 l0_2.length c0_2)] 26 (0, 0))) ∧ Aside0 (wc.heap[gb233]? = some (.cells #[.bool x234000_20, .int .i64 x234001_20, .int .i64 x234002_20, .int .i64 x234003_20] 33 (0, 0))) ∧ Aside0 (Below w.heap.size w wc))
          case first =>
           have H := HC21.out
           clear HC21
           by_cases c25 : a1 = 7
           ·rw [if_pos c25] at H
            have c25b0 : (a1 == 7) = true := beq_iff_eq.mpr c25
            have c25b1 : (a1 != 7) = false := bne_eq_false_iff_eq.mpr c25
            clear c25
            (first | rw [c25b0] | (simp only [i64_w, i32_w]; rw [c25b0]) | skip)
            by_cases c26 : (Int.tmod x7_2 7) = 0
            ·rw [if_pos c26] at H
             have c26b0 : ((Int.tmod x7_2 7) == 0) = true := beq_iff_eq.mpr c26
             have c26b1 : ((Int.tmod x7_2 7) != 0) = false := bne_eq_false_iff_eq.mpr c26
             clear c26
             have H' := Aside0.mk H
             clear H
             have hnb27 := NB233_225.out
             have hnc27 := NB225_233.out
             have hcz28_0 : w22.cell? ⟨gb233, 0, none⟩ = some (.bool false) := (blk_cell BK233.out 0).trans rfl
             have hcz28_1 : w22.cell? ⟨gb233, 1, none⟩ = some (.int .i64 0) := (blk_cell BK233.out 1).trans rfl
             have hcz28_2 : w22.cell? ⟨gb233, 2, none⟩ = some (.int .i64 0) := (blk_cell BK233.out 2).trans rfl
             have hcz28_3 : w22.cell? ⟨gb233, 3, none⟩ = some (.int .i64 0) := (blk_cell BK233.out 3).trans rfl
             have hfz28_0 := blk_frozen BK233.out 0
             have hfz28_1 := blk_frozen BK233.out 1
             have hfz28_2 := blk_frozen BK233.out 2
             have hfz28_3 := blk_frozen BK233.out 3
             obtain ⟨hz0, hz1, hz2, hz3⟩ := z4 (a := .bool false) (b := .int .i64 0) (c := .int .i64 0) (d := .int .i64 0) hcz28_0 hcz28_1 hcz28_2 hcz28_3
             obtain ⟨hy0, hy1, hy2, hy3⟩ := z4 (a := .bool true) (b := .int .i64 0) (c := .int .i64 (Int.tmod x7_2 7)) (d := .int .i64 (Int.tmod (wrap64 (x7_2 * 5)) 30)) hz0 hz1 hz2 hz3
             go_wp2
             go_meet
             case rel => exact ⟨_, (true), (0), (Int.tmod x7_2 7), (0), H', ⟨by have := HK1.out; have := HK2.out; first | omega | exact Nat.le_refl _⟩, ⟨by (with_reducible repeat (first | apply Kd.R_alloc | apply Kd.R_drewN | apply Kd.R_drew)); exact Kd.R_mono (Kd.R_far (p := ⟨gb233, 3, none⟩) (Kd.R_far (p := ⟨gb233, 3, none⟩) (Kd.R_far (p := ⟨gb233, 2, none⟩) (Kd.R_far (p := ⟨gb233, 1, none⟩) (Kd.R_far (p := ⟨gb233, 0, none⟩) (Kd.R_far (p := ⟨gb233, 3, none⟩) (Kd.R_far (p := ⟨gb233, 2, none⟩) (Kd.R_far (p := ⟨gb233, 1, none⟩) (Kd.R_far (p := ⟨gb233, 0, none⟩) (Kd.R_types HO_5.out BK233.out (by decide)) (fun _ hk => hk.2) (.bool false)) (fun _ hk => hk.2) (.int .i64 0)) (fun _ hk => hk.2) (.int .i64 0)) (fun _ hk => hk.2) (.int .i64 0)) (fun _ hk => hk.2) (.bool true)) (fun _ hk => hk.2) (.int .i64 0)) (fun _ hk => hk.2) (.int .i64 (Int.tmod x7_2 7))) (fun _ hk => hk.2) (.int .i64 (Int.tmod (wrap64 (x7_2 * 5)) 30))) (fun _ hk => hk.2) (.int .i64 0)) (fun _ hk => trivial)⟩, ⟨zf1 BK225.out NB225_233.out⟩, ⟨by (with_reducible repeat (first | refine blk_drewN ?_ _ | refine blk_drew ?_ | refine blk_alloc ?_ _)); refine blk_put (cs := #[.bool true, .int .i64 0, .int .i64 (Int.tmod x7_2 7), .int .i64 (Int.tmod (wrap64 (x7_2 * 5)) 30)]) ?_ 3 _ rfl; (with_reducible repeat (first | refine blk_drewN ?_ _ | refine blk_drew ?_ | refine blk_alloc ?_ _)); refine blk_put (cs := #[.bool true, .int .i64 0, .int .i64 (Int.tmod x7_2 7), .int .i64 0]) ?_ 3 _ rfl; (with_reducible repeat (first | refine blk_drewN ?_ _ | refine blk_drew ?_ | refine blk_alloc ?_ _)); refine blk_put (cs := #[.bool true, .int .i64 0, .int .i64 0, .int .i64 0]) ?_ 2 _ rfl; (with_reducible repeat (first | refine blk_drewN ?_ _ | refine blk_drew ?_ | refine blk_alloc ?_ _)); refine blk_put (cs := #[.bool true, .int .i64 0, .int .i64 0, .int .i64 0]) ?_ 1 _ rfl; (with_reducible repeat (first | refine blk_drewN ?_ _ | refine blk_drew ?_ | refine blk_alloc ?_ _)); refine blk_put (cs := #[.bool false, .int .i64 0, .int .i64 0, .int .i64 0]) ?_ 0 _ rfl; (with_reducible repeat (first | refine blk_drewN ?_ _ | refine blk_drew ?_ | refine blk_alloc ?_ _)); refine blk_put (cs := #[.bool false, .int .i64 0, .int .i64 0, .int .i64 0]) ?_ 3 _ rfl; (with_reducible repeat (first | refine blk_drewN ?_ _ | refine blk_drew ?_ | refine blk_alloc ?_ _)); refine blk_put (cs := #[.bool false, .int .i64 0, .int .i64 0, .int .i64 0]) ?_ 2 _ rfl; (with_reducible repeat (first | refine blk_drewN ?_ _ | refine blk_drew ?_ | refine blk_alloc ?_ _)); refine blk_put (cs := #[.bool false, .int .i64 0, .int .i64 0, .int .i64 0]) ?_ 1 _ rfl; (with_reducible repeat (first | refine blk_drewN ?_ _ | refine blk_drew ?_ | refine blk_alloc ?_ _)); refine blk_put (cs := #[.bool false, .int .i64 0, .int .i64 0, .int .i64 0]) ?_ 0 _ rfl; (with_reducible repeat (first | refine blk_drewN ?_ _ | refine blk_drew ?_ | refine blk_alloc ?_ _)); exact BK233.out⟩, ⟨zw2 HB.out GE225.out GE233.out⟩⟩
            ·rw [if_neg c26] at H
             have c26b0 : ((Int.tmod x7_2 7) == 0) = false := beq_eq_false_iff_ne.mpr c26
             have c26b1 : ((Int.tmod x7_2 7) != 0) = true := bne_iff_ne.mpr c26
             have H' := Aside0.mk H
             clear H
             have hnb29 := NB233_225.out
             have hnc29 := NB225_233.out
             have hcz30_0 : w22.cell? ⟨gb233, 0, none⟩ = some (.bool false) := (blk_cell BK233.out 0).trans rfl
             have hcz30_1 : w22.cell? ⟨gb233, 1, none⟩ = some (.int .i64 0) := (blk_cell BK233.out 1).trans rfl
             have hcz30_2 : w22.cell? ⟨gb233, 2, none⟩ = some (.int .i64 0) := (blk_cell BK233.out 2).trans rfl
             have hcz30_3 : w22.cell? ⟨gb233, 3, none⟩ = some (.int .i64 0) := (blk_cell BK233.out 3).trans rfl
             have hfz30_0 := blk_frozen BK233.out 0
             have hfz30_1 := blk_frozen BK233.out 1
             have hfz30_2 := blk_frozen BK233.out 2
             have hfz30_3 := blk_frozen BK233.out 3
             obtain ⟨hz0, hz1, hz2, hz3⟩ := z4 (a := .bool false) (b := .int .i64 0) (c := .int .i64 0) (d := .int .i64 0) hcz30_0 hcz30_1 hcz30_2 hcz30_3
             obtain ⟨hy0, hy1, hy2, hy3⟩ := z4 (a := .bool true) (b := .int .i64 0) (c := .int .i64 (Int.tmod x7_2 7)) (d := .int .i64 (Int.tmod (wrap64 (x7_2 * 5)) 30)) hz0 hz1 hz2 hz3
             go_wp2
             go_meet
             case rel => exact ⟨_, (true), (0), (Int.tmod x7_2 7), (Int.tmod (wrap64 (x7_2 * 5)) 30), H', ⟨by have := HK1.out; have := HK2.out; first | omega | exact Nat.le_refl _⟩, ⟨by (with_reducible repeat (first | apply Kd.R_alloc | apply Kd.R_drewN | apply Kd.R_drew)); exact Kd.R_mono (Kd.R_far (p := ⟨gb233, 3, none⟩) (Kd.R_far (p := ⟨gb233, 2, none⟩) (Kd.R_far (p := ⟨gb233, 1, none⟩) (Kd.R_far (p := ⟨gb233, 0, none⟩) (Kd.R_far (p := ⟨gb233, 3, none⟩) (Kd.R_far (p := ⟨gb233, 2, none⟩) (Kd.R_far (p := ⟨gb233, 1, none⟩) (Kd.R_far (p := ⟨gb233, 0, none⟩) (Kd.R_types HO_5.out BK233.out (by decide)) (fun _ hk => hk.2) (.bool false)) (fun _ hk => hk.2) (.int .i64 0)) (fun _ hk => hk.2) (.int .i64 0)) (fun _ hk => hk.2) (.int .i64 0)) (fun _ hk => hk.2) (.bool true)) (fun _ hk => hk.2) (.int .i64 0)) (fun _ hk => hk.2) (.int .i64 (Int.tmod x7_2 7))) (fun _ hk => hk.2) (.int .i64 (Int.tmod (wrap64 (x7_2 * 5)) 30))) (fun _ hk => trivial)⟩, ⟨zf1 BK225.out NB225_233.out⟩, ⟨by (with_reducible repeat (first | refine blk_drewN ?_ _ | refine blk_drew ?_ | refine blk_alloc ?_ _)); refine blk_put (cs := #[.bool true, .int .i64 0, .int .i64 (Int.tmod x7_2 7), .int .i64 0]) ?_ 3 _ rfl; (with_reducible repeat (first | refine blk_drewN ?_ _ | refine blk_drew ?_ | refine blk_alloc ?_ _)); refine blk_put (cs := #[.bool true, .int .i64 0, .int .i64 0, .int .i64 0]) ?_ 2 _ rfl; (with_reducible repeat (first | refine blk_drewN ?_ _ | refine blk_drew ?_ | refine blk_alloc ?_ _)); refine blk_put (cs := #[.bool true, .int .i64 0, .int .i64 0, .int .i64 0]) ?_ 1 _ rfl; (with_reducible repeat (first | refine blk_drewN ?_ _ | refine blk_drew ?_ | refine blk_alloc ?_ _)); refine blk_put (cs := #[.bool false, .int .i64 0, .int .i64 0, .int .i64 0]) ?_ 0 _ rfl; (with_reducible repeat (first | refine blk_drewN ?_ _ | refine blk_drew ?_ | refine blk_alloc ?_ _)); refine blk_put (cs := #[.bool false, .int .i64 0, .int .i64 0, .int .i64 0]) ?_ 3 _ rfl; (with_reducible repeat (first | refine blk_drewN ?_ _ | refine blk_drew ?_ | refine blk_alloc ?_ _)); refine blk_put (cs := #[.bool false, .int .i64 0, .int .i64 0, .int .i64 0]) ?_ 2 _ rfl; (with_reducible repeat (first | refine blk_drewN ?_ _ | refine blk_drew ?_ | refine blk_alloc ?_ _)); refine blk_put (cs := #[.bool false, .int .i64 0, .int .i64 0, .int .i64 0]) ?_ 1 _ rfl; (with_reducible repeat (first | refine blk_drewN ?_ _ | refine blk_drew ?_ | refine blk_alloc ?_ _)); refine blk_put (cs := #[.bool false, .int .i64 0, .int .i64 0, .int .i64 0]) ?_ 0 _ rfl; (with_reducible repeat (first | refine blk_drewN ?_ _ | refine blk_drew ?_ | refine blk_alloc ?_ _)); exact BK233.out⟩, ⟨zw2 HB.out GE225.out GE233.out⟩⟩
           ·rw [if_neg c25] at H
            have c25b0 : (a1 == 7) = false := beq_eq_false_iff_ne.mpr c25
            have c25b1 : (a1 != 7) = true := bne_iff_ne.mpr c25
            (first | rw [c25b0] | (simp only [i64_w, i32_w]; rw [c25b0]) | skip)
            replace H := Option.bind_eq_some_iff.mp H
            obtain ⟨t234, A310, H⟩ := H
            replace H : (if 0 ≤ (wrap64 (t234 - 1)) then ((some (([0, (-1), shl .i64 1 (wrap64 (t234 - 1)), wrap64 ((shl .i64 1 (wrap64 (t234 - 1))) - 1), wrap64 (x7_2 * 7919)] : List Int) : List Int)).bind fun y235 => (if 0 ≤ (Int.tmod x7_2 5) then (if (Int.tmod x7_2 5) < (y235.length : Int) then ((cellarref1_Wrap.f (rd y235 (Int.tmod x7_2 5)) t234).bind fun t239 => (cellarlaw8_kind.j2 k2 a1 t227 x6_1 x7_2 false t239 0 0)) else (none)) else (none))) else (none)) = some r := H
            have A31 := Aside0.mk A310
            clear A310
            obtain ⟨ji32, hji32⟩ : ∃ j_ : Int, (wrap64 (t234 - 1)) = j_ := ⟨_, rfl⟩
            replace H : (if 0 ≤ (ji32) then ((some (([0, (-1), shl .i64 1 (ji32), wrap64 ((shl .i64 1 (ji32)) - 1), wrap64 (x7_2 * 7919)] : List Int) : List Int)).bind fun y235 => (if 0 ≤ (Int.tmod x7_2 5) then (if (Int.tmod x7_2 5) < (y235.length : Int) then ((cellarref1_Wrap.f (rd y235 (Int.tmod x7_2 5)) t234).bind fun t239 => (cellarlaw8_kind.j2 k2 a1 t227 x6_1 x7_2 false t239 0 0)) else (none)) else (none))) else (none)) = some r := by first | (rw [hji32] at H; exact H) | (simp only [hji32] at H ⊢; exact H)
            (try rw [hji32] at A31)
            have hji32w : (IntKind.i64.wrap (t234 - 1)) = ji32 := (i64_w _).trans hji32
            by_cases c33 : 0 ≤ (ji32)
            ·rw [if_pos c33] at H
             have c33b0 := eq_true c33
             have c33b1 : decide (0 ≤ (ji32)) = true := decide_eq_true c33
             clear c33
             obtain ⟨ji34, hji34⟩ : ∃ j_ : Int, (shl .i64 1 (ji32)) = j_ := ⟨_, rfl⟩
             replace H : ((some (([0, (-1), ji34, wrap64 ((ji34) - 1), wrap64 (x7_2 * 7919)] : List Int) : List Int)).bind fun y235 => (if 0 ≤ (Int.tmod x7_2 5) then (if (Int.tmod x7_2 5) < (y235.length : Int) then ((cellarref1_Wrap.f (rd y235 (Int.tmod x7_2 5)) t234).bind fun t239 => (cellarlaw8_kind.j2 k2 a1 t227 x6_1 x7_2 false t239 0 0)) else (none)) else (none))) = some r := by first | (rw [hji34] at H; exact H) | (simp only [hji34] at H ⊢; exact H)
             (try rw [hji34] at A31)
             have hji34_ : (IntKind.i64.wrap (1 * 2 ^ min (ji32).toNat 64)) = ji34 := hji34
             have hji34z : (ji32) ≤ 64 → (IntKind.i64.wrap (1 * 2 ^ (ji32).toNat)) = ji34 := shl_small hji34
             have hji34u : (IntKind.i64.wrap (2 ^ min (ji32).toNat 64)) = ji34 := by have h_ := hji34_; rw [Int.one_mul] at h_; exact h_
             have hji34v : (ji32) ≤ 64 → (IntKind.i64.wrap (2 ^ (ji32).toNat)) = ji34 := fun hle_ => by have h_ := hji34z hle_; rw [Int.one_mul] at h_; exact h_
             have hji34y : (wrap64 (1 * 2 ^ min (ji32).toNat 64)) = ji34 := (i64_w _).symm.trans hji34_
             have hji34x : (ji32) ≤ 64 → (wrap64 (1 * 2 ^ (ji32).toNat)) = ji34 := fun h_ => (i64_w _).symm.trans (hji34z h_)
             have c35b0 := eq_true (zdec : 0 ≤ (ji32))
             obtain ⟨y235, hy235⟩ : ∃ y_ : List Int, y_ = (([0, (-1), ji34, wrap64 ((ji34) - 1), wrap64 (x7_2 * 7919)] : List Int)) := ⟨_, rfl⟩
             replace H : (if 0 ≤ (Int.tmod x7_2 5) then (if (Int.tmod x7_2 5) < (y235.length : Int) then ((cellarref1_Wrap.f (rd y235 (Int.tmod x7_2 5)) t234).bind fun t239 => (cellarlaw8_kind.j2 k2 a1 t227 x6_1 x7_2 false t239 0 0)) else (none)) else (none)) = some r := by first | (rw [hy235]; with_reducible exact H) | (have H2_ := (Option.bind_some _ _).symm.trans H; rw [hy235]; with_reducible exact H2_) | (have H2_ := (Option.bind_some _ _).symm.trans H; with_reducible exact H2_) | with_reducible exact H | (rw [hy235]; exact H) | exact H
             have Ny235 := Aside0.mk hy235
             clear hy235
             obtain ⟨ji36, hji36⟩ : ∃ j_ : Int, (Int.tmod x7_2 5) = j_ := ⟨_, rfl⟩
             replace H : (if 0 ≤ (ji36) then (if (ji36) < (y235.length : Int) then ((cellarref1_Wrap.f (rd y235 (ji36)) t234).bind fun t239 => (cellarlaw8_kind.j2 k2 a1 t227 x6_1 x7_2 false t239 0 0)) else (none)) else (none)) = some r := by first | (rw [hji36] at H; exact H) | (simp only [hji36] at H ⊢; exact H)
             (try rw [hji36] at A31)
             by_cases c37 : 0 ≤ (ji36)
             ·rw [if_pos c37] at H
              have c37b0 : decide (0 ≤ (ji36)) = true := decide_eq_true c37
              clear c37
              by_cases c38 : (ji36) < (y235.length : Int)
              ·rw [if_pos c38] at H
               have c38b0 : decide ((ji36) < (y235.length : Int)) = true := decide_eq_true c38
               clear c38
               replace H := Option.bind_eq_some_iff.mp H
               obtain ⟨t239, A390, H⟩ := H
               replace H : (cellarlaw8_kind.j2 k2 a1 t227 x6_1 x7_2 false t239 0 0) = some r := H
               have A39 := Aside0.mk A390
               clear A390
               have H' := Aside0.mk H
               clear H
               try go_wp2_with (first | ((with_reducible refine gate_callee (f := 42) rfl ?_); refine goesL_ (some 54) rfl rfl Try.func42 (by kernel_rfl) rfl #[.int .i64 a1] rfl (by (try simp only [List.map_toArray, List.map_cons, List.map_nil]); first | done | rfl | (simp only [List.length_drop, List.length_take]; rfl)) ?_; (with_reducible refine (cellarref1_Width.calls k2 a1 t234 _ A31.out).mono ?_); rintro e w' ⟨rfl, ⟨nd, rfl⟩⟩; refine ⟨_, rfl, ?_⟩))
               have pi238 : (0 ≤ ((ji36) : Int)) = True := eq_true (zdec)
               have qi238 : ((ji36) < (y235.length : Int)) = True := eq_true (zdec)
               have n0_ : Aside0 (Kd.R k38 38 ((((w22.setCell ⟨gb233, 0, none⟩ (.bool false)).setCell ⟨gb233, 1, none⟩ (.int .i64 0)).setCell ⟨gb233, 2, none⟩ (.int .i64 0)).setCell ⟨gb233, 3, none⟩ (.int .i64 0)) w.heap.size (fun _ => True) (.slice (some ad231) t227.length co18) t227) := ⟨by (with_reducible repeat (first | apply Kd.R_alloc | apply Kd.R_drewN | apply Kd.R_drew)); exact Kd.R_mono (Kd.R_far (p := ⟨gb233, 3, none⟩) (Kd.R_far (p := ⟨gb233, 2, none⟩) (Kd.R_far (p := ⟨gb233, 1, none⟩) (Kd.R_far (p := ⟨gb233, 0, none⟩) (Kd.R_types HO_5.out BK233.out (by decide)) (fun _ hk => hk.2) (.bool false)) (fun _ hk => hk.2) (.int .i64 0)) (fun _ hk => hk.2) (.int .i64 0)) (fun _ hk => hk.2) (.int .i64 0)) (fun _ hk => trivial)⟩
               have n1_ : Aside0 (((((w22.setCell ⟨gb233, 0, none⟩ (.bool false)).setCell ⟨gb233, 1, none⟩ (.int .i64 0)).setCell ⟨gb233, 2, none⟩ (.int .i64 0)).setCell ⟨gb233, 3, none⟩ (.int .i64 0)).heap[gb225]? = some (.cells #[.slice A0_0 l0_0.length c0_0, .slice A0_1 l0_1.length c0_1, .slice A0_2 l0_2.length c0_2] 26 (0, 0))) := ⟨zf1 BK225.out NB225_233.out⟩
               have n2_ : Aside0 (((((w22.setCell ⟨gb233, 0, none⟩ (.bool false)).setCell ⟨gb233, 1, none⟩ (.int .i64 0)).setCell ⟨gb233, 2, none⟩ (.int .i64 0)).setCell ⟨gb233, 3, none⟩ (.int .i64 0)).heap[gb233]? = some (.cells #[.bool false, .int .i64 0, .int .i64 0, .int .i64 0] 33 (0, 0))) := ⟨by (with_reducible repeat (first | refine blk_drewN ?_ _ | refine blk_drew ?_ | refine blk_alloc ?_ _)); refine blk_put (cs := #[.bool false, .int .i64 0, .int .i64 0, .int .i64 0]) ?_ 3 _ rfl; (with_reducible repeat (first | refine blk_drewN ?_ _ | refine blk_drew ?_ | refine blk_alloc ?_ _)); refine blk_put (cs := #[.bool false, .int .i64 0, .int .i64 0, .int .i64 0]) ?_ 2 _ rfl; (with_reducible repeat (first | refine blk_drewN ?_ _ | refine blk_drew ?_ | refine blk_alloc ?_ _)); refine blk_put (cs := #[.bool false, .int .i64 0, .int .i64 0, .int .i64 0]) ?_ 1 _ rfl; (with_reducible repeat (first | refine blk_drewN ?_ _ | refine blk_drew ?_ | refine blk_alloc ?_ _)); refine blk_put (cs := #[.bool false, .int .i64 0, .int .i64 0, .int .i64 0]) ?_ 0 _ rfl; (with_reducible repeat (first | refine blk_drewN ?_ _ | refine blk_drew ?_ | refine blk_alloc ?_ _)); exact BK233.out⟩
               have n3_ : Aside0 (Below w.heap.size w ((((w22.setCell ⟨gb233, 0, none⟩ (.bool false)).setCell ⟨gb233, 1, none⟩ (.int .i64 0)).setCell ⟨gb233, 2, none⟩ (.int .i64 0)).setCell ⟨gb233, 3, none⟩ (.int .i64 0))) := ⟨zw2 HB.out GE225.out GE233.out⟩
               (try clear HO_5)
               (try clear BK225)
               (try clear BK233)
               (try clear HB)
               generalize ((((w22.setCell ⟨gb233, 0, none⟩ (.bool false)).setCell ⟨gb233, 1, none⟩ (.int .i64 0)).setCell ⟨gb233, 2, none⟩ (.int .i64 0)).setCell ⟨gb233, 3, none⟩ (.int .i64 0)) = w40 at n0_ n1_ n2_ n3_ ⊢
               have HO_5 := n0_
               have BK225 := n1_
               have BK233 := n2_
               have HB := n3_
               clear n0_ n1_ n2_ n3_
               (try (rw [drewN_self w40]; generalize hq_ : World.drewN w40 _ = w40; have n0_ : Aside0 (Kd.R k38 38 w40 w.heap.size (fun _ => True) (.slice (some ad231) t227.length co18) t227) := ⟨by rw [← hq_]; exact (by (with_reducible repeat (first | apply Kd.R_alloc | apply Kd.R_drewN | apply Kd.R_drew)); exact HO_5.out)⟩; have n1_ : Aside0 (w40.heap[gb225]? = some (.cells #[.slice A0_0 l0_0.length c0_0, .slice A0_1 l0_1.length c0_1, .slice A0_2 l0_2.length c0_2] 26 (0, 0))) := ⟨by rw [← hq_]; exact (zb BK225.out)⟩; have n2_ : Aside0 (w40.heap[gb233]? = some (.cells #[.bool false, .int .i64 0, .int .i64 0, .int .i64 0] 33 (0, 0))) := ⟨by rw [← hq_]; exact (zb BK233.out)⟩; have n3_ : Aside0 (Below w.heap.size w w40) := ⟨by rw [← hq_]; exact (zw2 HB.out GE225.out GE233.out)⟩; clear HO_5 BK225 BK233 HB hq_; have HO_5 := n0_; have BK225 := n1_; have BK233 := n2_; have HB := n3_; clear n0_ n1_ n2_ n3_))
               have n0_ := Aside0.mk (Kd.R_drew HO_5.out)
               have n1_ := Aside0.mk (blk_drew BK225.out)
               have n2_ := Aside0.mk (blk_drew BK233.out)
               have n3_ := Aside0.mk (below_drew1 HB.out)
               clear HO_5
               clear BK225
               clear BK233
               clear HB
               have HO_5 := n0_
               have BK225 := n1_
               have BK233 := n2_
               have HB := n3_
               clear n0_ n1_ n2_ n3_
               refine start_ (n := 18) (S := fun w' => True) (ds := []) cellarlaw8_kind.b0 (by kernel_rfl) rfl rfl trivial (fun hHeld => ?_); refine with_tabW cellarlaw8_kind.tab17 cellarlaw8_kind.bits17 (fun HT_ HW_ => ?_)
               generalize w40.drew = w41 at HO_5 BK225 BK233 HB hHeld ⊢
               refine pure_ (i := 0) (N := some 55) (v := ?_) (a' := ?_) cellarlaw8_kind.b1 rfl rfl (any_of HT_.out (by kernel_rfl)) (fun _ _ _ h => h) (Or.inl ⟨by rfl, ?_⟩) ?_ ?_
               rotate_left
               ·intro w'
                go_simp
                with_reducible rfl
               rotate_left
               ·simp only [Act.put, List.setIfInBounds_toArray, List.set_cons_zero, List.set_cons_succ, i64_w, i32_w]
                rfl
               refine pure_ (i := 1) (N := some 56) (v := ?_) (a' := ?_) cellarlaw8_kind.b2 rfl rfl (any_of HT_.out (by kernel_rfl)) (fun _ _ _ h => h) (Or.inl ⟨by rfl, ?_⟩) ?_ ?_
               rotate_left
               ·intro w'
                go_simp
                with_reducible rfl
               rotate_left
               ·simp only [Act.put, List.setIfInBounds_toArray, List.set_cons_zero, List.set_cons_succ, i64_w, i32_w]
                rfl
               refine pure_ (i := 2) (N := some 57) (v := ?_) (a' := ?_) cellarlaw8_kind.b3 rfl rfl (any_of HT_.out (by kernel_rfl)) (fun _ _ _ h => h) (Or.inl ⟨by rfl, ?_⟩) ?_ ?_
               rotate_left
               ·intro w'
                go_simp
                with_reducible rfl
               rotate_left
               ·simp only [Act.put, List.setIfInBounds_toArray, List.set_cons_zero, List.set_cons_succ, i64_w, i32_w]
                rfl
               refine pure_ (i := 3) (N := some 58) (v := ?_) (a' := ?_) cellarlaw8_kind.b4 rfl rfl (any_of HT_.out (by kernel_rfl)) (fun _ _ _ h => h) (Or.inl ⟨by rfl, ?_⟩) ?_ ?_
               rotate_left
               ·intro w'
                go_simp
                with_reducible rfl
               rotate_left
               ·simp only [Act.put, List.setIfInBounds_toArray, List.set_cons_zero, List.set_cons_succ, i64_w, i32_w]
                rfl
               refine pure_ (i := 4) (N := some 59) (v := ?_) (a' := ?_) cellarlaw8_kind.b5 rfl rfl (any_of HT_.out (by kernel_rfl)) (fun _ _ _ h => h) (Or.inl ⟨by rfl, ?_⟩) ?_ ?_
               rotate_left
               ·intro w'
                go_simp
                with_reducible rfl
               rotate_left
               ·simp only [Act.put, List.setIfInBounds_toArray, List.set_cons_zero, List.set_cons_succ, i64_w, i32_w]
                rfl
               refine pure_ (i := 5) (N := some 60) (v := ?_) (a' := ?_) cellarlaw8_kind.b6 rfl rfl (any_of HT_.out (by kernel_rfl)) (fun _ _ _ h => h) (Or.inl ⟨by rfl, ?_⟩) ?_ ?_
               rotate_left
               ·intro w'
                go_simp
                with_reducible rfl
               rotate_left
               ·simp only [Act.put, List.setIfInBounds_toArray, List.set_cons_zero, List.set_cons_succ, i64_w, i32_w]
                rfl
               refine pure_ (i := 6) (N := some 61) (v := ?_) (a' := ?_) cellarlaw8_kind.b7 rfl rfl (any_of HT_.out (by kernel_rfl)) (fun _ _ _ h => h) (Or.inl ⟨by rfl, ?_⟩) ?_ ?_
               rotate_left
               ·intro w'
                go_simp
                with_reducible rfl
               rotate_left
               ·simp only [Act.put, List.setIfInBounds_toArray, List.set_cons_zero, List.set_cons_succ, i64_w, i32_w]
                rfl
               refine pure_ (i := 7) (N := some 62) (v := ?_) (a' := ?_) cellarlaw8_kind.b8 rfl rfl (any_of HT_.out (by kernel_rfl)) (fun _ _ _ h => h) (Or.inl ⟨by rfl, ?_⟩) ?_ ?_
               rotate_left
               ·intro w'
                go_simp
                with_reducible rfl
               rotate_left
               ·simp only [Act.put, List.setIfInBounds_toArray, List.set_cons_zero, List.set_cons_succ, i64_w, i32_w]
                rfl
               refine pure_ (i := 8) (N := some 63) (v := ?_) (a' := ?_) cellarlaw8_kind.b9 rfl rfl (any_of HT_.out (by kernel_rfl)) (fun _ _ _ h => h) (Or.inl ⟨by rfl, ?_⟩) ?_ ?_
               rotate_left
               ·intro w'
                go_simp
                with_reducible rfl
               rotate_left
               ·simp only [Act.put, List.setIfInBounds_toArray, List.set_cons_zero, List.set_cons_succ, i64_w, i32_w]
                rfl
               refine pure_ (i := 10) (N := some 65) (v := ?_) (a' := ?_) cellarlaw8_kind.b10 rfl rfl (any_of HT_.out (by kernel_rfl)) (fun _ _ _ h => h) (Or.inl ⟨by rfl, ?_⟩) ?_ ?_
               rotate_left
               ·intro w'
                go_simp
                with_reducible rfl
               rotate_left
               ·simp only [Act.put, List.setIfInBounds_toArray, List.set_cons_zero, List.set_cons_succ, i64_w, i32_w]
                rfl
               refine pure_ (i := 11) (N := some 66) (v := ?_) (a' := ?_) cellarlaw8_kind.b11 rfl rfl (any_of HT_.out (by kernel_rfl)) (fun _ _ _ h => h) (Or.inl ⟨by rfl, ?_⟩) ?_ ?_
               rotate_left
               ·intro w'
                go_simp
                with_reducible rfl
               rotate_left
               ·simp only [Act.put, List.setIfInBounds_toArray, List.set_cons_zero, List.set_cons_succ, i64_w, i32_w]
                rfl
               refine pure_ (i := 14) (N := some 69) (v := ?_) (a' := ?_) cellarlaw8_kind.b12 rfl rfl (any_of HT_.out (by kernel_rfl)) (fun _ _ _ h => h) (Or.inl ⟨by rfl, ?_⟩) ?_ ?_
               rotate_left
               ·intro w'
                go_simp
                with_reducible rfl
               rotate_left
               ·simp only [Act.put, List.setIfInBounds_toArray, List.set_cons_zero, List.set_cons_succ, i64_w, i32_w]
                rfl
               refine one_ (i := 9) (N := some 64) cellarlaw8_kind.b13 rfl rfl (one_of HT_.out (by kernel_rfl)) (by decide) (fun K hK => ?_)
               refine Kd.R_lit_step (Kd.int .i64) _ 3 ?hg (N := 64) ?hd (xs := ([0, (-1), ji34, wrap64 ((ji34) - 1), wrap64 (x7_2 * 7919)] : List Int)) (inner := [.int .i64 0, .int .i64 (-1), .int .i64 ji34, .int .i64 (wrap64 ((ji34) - 1)), .int .i64 (wrap64 (x7_2 * 7919))]) (ok := fun _ => True) (okp := fun _ => True) ?hr ?hp (fun _ hk => hk) trivial (Below.refl _ _) (Nat.le_refl _) (by simp) ?_; (case hd => rfl); (case hg => rfl); (case hr => first | (go_simp; done) | (go_simp; rfl)); (case hp => exact (Reps.one (show Kd.M (Kd.int .i64) _ _ _ 0 [.int .i64 0] from rfl) (Reps.one (show Kd.M (Kd.int .i64) _ _ _ (-1) [.int .i64 (-1)] from rfl) (Reps.one (show Kd.M (Kd.int .i64) _ _ _ ji34 [.int .i64 ji34] from rfl) (Reps.one (show Kd.M (Kd.int .i64) _ _ _ (wrap64 ((ji34) - 1)) [.int .i64 (wrap64 ((ji34) - 1))] from rfl) (Reps.one (show Kd.M (Kd.int .i64) _ _ _ (wrap64 (x7_2 * 7919)) [.int .i64 (wrap64 (x7_2 * 7919))] from rfl) (Reps.none _ _)))))))
               intro v236 w42 ho43 hb hg_ hnew_
               clear hg_ hnew_
               (first | rw [← Ny235.out] at ho43 | (simp only [Int.reduceToNat] at ho43; rw [← Ny235.out] at ho43))
               have n0_ := Aside0.mk (Kd.R_below (by (with_reducible repeat (first | apply Kd.R_alloc | apply Kd.R_drewN | apply Kd.R_drew)); exact HO_5.out) hb)
               have n1_ := Aside0.mk (Kd.R_lower ho43 (below_size (zw2 HB.out GE225.out GE233.out)))
               have n2_ := Aside0.mk (blk_below (g := gb225) (o := .cells #[.slice A0_0 l0_0.length c0_0, .slice A0_1 l0_1.length c0_1, .slice A0_2 l0_2.length c0_2] 26 (0, 0)) (zb BK225.out) hb)
               have n3_ := Aside0.mk (blk_below (g := gb233) (o := .cells #[.bool false, .int .i64 0, .int .i64 0, .int .i64 0] 33 (0, 0)) (zb BK233.out) hb)
               have n4_ := Aside0.mk (below_step (zw2 HB.out GE225.out GE233.out) hb)
               clear HO_5
               clear BK225
               clear BK233
               clear HB
               have HO_5 := n0_
               have HO237 := n1_
               have BK225 := n2_
               have BK233 := n3_
               have HB := n4_
               clear n0_ n1_ n2_ n3_ n4_
               clear hb ho43
               obtain ⟨Ao44, co44, eo44⟩ := Kd.R_slice HO237.out
               subst eo44
               obtain ⟨ado44, fo44, _⟩ := Kd.at_int (Kd.R_reads' HO237.out).2.2 0 (by decide) (by rw [Ny235.out]; simp)
               cases fo44
               refine hK.out _ _ trivial (fun hHeld => ?_)
               clear hK K
               refine norm_ (a' := ?_) ?_ ?_
               rotate_left
               ·show Act.put _ (some 64) _ = _
                simp only [Act.put, List.setIfInBounds_toArray, List.set_cons_zero, List.set_cons_succ, i64_w, i32_w]
                rfl
               refine pure_ (i := 12) (N := some 67) (v := ?_) (a' := ?_) cellarlaw8_kind.b14 rfl rfl (any_of HT_.out (by kernel_rfl)) (fun _ _ _ h => h) (Or.inl ⟨by rfl, ?_⟩) ?_ ?_
               rotate_left
               ·intro w'
                go_simp
                with_reducible rfl
               rotate_left
               ·simp only [Act.put, List.setIfInBounds_toArray, List.set_cons_zero, List.set_cons_succ, i64_w, i32_w]
                rfl
               refine one_ (i := 13) (N := some 68) cellarlaw8_kind.b15 rfl rfl (one_of HT_.out (by kernel_rfl)) (by decide) (fun K hK => ?_)
               (have p238 : 0 ≤ ((ji36) : Int) := zdec; have q238 : (ji36) < (y235.length : Int) := zdec; obtain ⟨ad238, e238, hx238_0⟩ := Kd.at_int (Kd.R_reads' HO237.out).2.2 (ji36) p238 q238; obtain rfl : ado44 = ad238 := (by injection e238))
               refine value_ (w1 := ?_) (v := ?_) (by rfl) rfl ?_ ?_
               rotate_left 2
               ·go_simp
                constructor
                ·rfl
                ·rfl
               clear hx238_0
               refine hK.out _ _ trivial (fun hHeld => ?_)
               clear hK K
               refine norm_ (a' := ?_) ?_ ?_
               rotate_left
               ·show Act.put _ (some 68) _ = _
                simp only [Act.put, List.setIfInBounds_toArray, List.set_cons_zero, List.set_cons_succ, i64_w, i32_w]
                rfl
               refine one_ (i := 15) (N := some 70) cellarlaw8_kind.b16 rfl rfl (one_of HT_.out (by kernel_rfl)) (by decide) (fun K hK => ?_)
               refine goes_ Try.func45 (by kernel_rfl) rfl #[.int .i64 (rd y235 (ji36)), .int .i64 t234] (by rfl) rfl rfl (by (try simp only [List.map_toArray, List.map_cons, List.map_nil]); first | done | (simp only [hji36]; rfl) | rfl | (simp only [List.length_drop, List.length_take]; rfl)) ?_
               with_reducible refine (cellarref1_Wrap.calls (rd y235 (ji36)) t234 t239 _ A39.out).mono ?_
               rintro e w' ⟨rfl, ⟨nd, rfl⟩⟩
               refine ⟨_, rfl, ?_⟩
               refine hK.out _ _ trivial (fun hHeld => ?_)
               clear hK K
               refine norm_ (a' := ?_) ?_ ?_
               rotate_left
               ·show Act.put _ (some 70) _ = _
                simp only [Act.put, List.setIfInBounds_toArray, List.set_cons_zero, List.set_cons_succ, i64_w, i32_w]
                rfl
               refine pure_ (i := 16) (N := some 71) (v := ?_) (a' := ?_) cellarlaw8_kind.b17 rfl rfl (any_of HT_.out (by kernel_rfl)) (fun _ _ _ h => h) (Or.inl ⟨by rfl, ?_⟩) ?_ ?_
               rotate_left
               ·intro w'
                go_simp
                with_reducible rfl
               rotate_left
               ·simp only [Act.put, List.setIfInBounds_toArray, List.set_cons_zero, List.set_cons_succ, i64_w, i32_w]
                rfl
               refine one_ (i := 17) (N := none) cellarlaw8_kind.b18 rfl rfl (one_of HT_.out (by kernel_rfl)) (by decide) (fun K hK => ?_)
               have hs45 : w42.cell? ⟨gb233, 1, none⟩ = some (.int .i64 0) := (blk_cell BK233.out 1).trans rfl
               have hfs45 := blk_frozen BK233.out 1
               have hns45_0 := NB225_233.out
               have hms45_0 := NB233_225.out
               refine skip_ (w1 := ?_) (by rfl) rfl ?_ ?_
               rotate_left
               ·go_simp
                rfl
               refine hK.out _ _ trivial (fun hHeld => ?_)
               clear hK K
               refine done_ (done_of HT_.out (by kernel_rfl)) ?_
               try go_wp2
               go_meet
               case rel => exact ⟨_, (false), (t239), (0), (0), H', ⟨by have := HK1.out; have := HK2.out; first | omega | exact Nat.le_refl _⟩, ⟨by (with_reducible repeat (first | apply Kd.R_alloc | apply Kd.R_drewN | apply Kd.R_drew)); exact Kd.R_mono (Kd.R_far (p := ⟨gb233, 1, none⟩) (Kd.R_types HO_5.out BK233.out (by decide)) (fun _ hk => hk.2) (.int .i64 t239)) (fun _ hk => trivial)⟩, ⟨zf1 BK225.out NB225_233.out⟩, ⟨by (with_reducible repeat (first | refine blk_drewN ?_ _ | refine blk_drew ?_ | refine blk_alloc ?_ _)); refine blk_put (cs := #[.bool false, .int .i64 0, .int .i64 0, .int .i64 0]) ?_ 1 _ rfl; (with_reducible repeat (first | refine blk_drewN ?_ _ | refine blk_drew ?_ | refine blk_alloc ?_ _)); exact BK233.out⟩, ⟨zw2 HB.out GE225.out GE233.out⟩⟩
              ·rw [if_neg c38] at H
               exact absurd H (by simp)
             ·rw [if_neg c37] at H
              exact absurd H (by simp)
            ·rw [if_neg c33] at H
             exact absurd H (by simp)
          case rest => as_aux_lemma =>
           clear HC21
           try clear c1
           try clear c2
           try clear p2
           try clear q2
           try clear hx2
           try clear qi2
           try clear c3
           try clear c4
           try clear p6
           try clear c13
           try clear c14
           try clear c14b0
           try clear c15
           try clear c15b0
           try clear c17
           try clear c18
           try clear c20
           try clear c20b0
           try clear c23
           try clear p23
           try clear q23
           try clear hx23
           try clear qi23
           try clear c25
           try clear c25b0
           try clear c25b1
           try clear c26
           try clear c26b0
           try clear c26b1
           try clear c27
           try clear c29
           try clear c33
           try clear c33b0
           try clear c33b1
           try clear c35
           try clear c35b0
           try clear c37
           try clear c37b0
           try clear c38
           try clear c38b0
           try clear c42
           try clear c45
           try clear hcz10_0
           try clear hcz10_1
           try clear hcz10_2
           try clear hcz12_0
           try clear hcz12_1
           try clear hcz12_2
           try clear hcz24_0
           try clear hcz24_1
           try clear hcz24_2
           try clear hcz24_3
           try clear hcz28_0
           try clear hcz28_1
           try clear hcz28_2
           try clear hcz28_3
           try clear hcz30_0
           try clear hcz30_1
           try clear hcz30_2
           try clear hcz30_3
           try clear hcz6_0
           try clear hcz6_1
           try clear hcz6_2
           try clear hfz10_0
           try clear hfz10_1
           try clear hfz10_2
           try clear hfz12_0
           try clear hfz12_1
           try clear hfz12_2
           try clear hfz24_0
           try clear hfz24_1
           try clear hfz24_2
           try clear hfz24_3
           try clear hfz28_0
           try clear hfz28_1
           try clear hfz28_2
           try clear hfz28_3
           try clear hfz30_0
           try clear hfz30_1
           try clear hfz30_2
           try clear hfz30_3
           try clear hfz6_0
           try clear hfz6_1
           try clear hfz6_2
           try clear hx231_0
           try clear hx231_1
           try clear hx238_0
           try clear p2
           try clear p231
           try clear p238
           try clear p6
           try clear q2
           try clear q231
           try clear q238
           obtain ⟨kq, x234000_20, x234001_20, x234002_20, x234003_20, HA, HJ20, HO_5, BK225, BK233, HB⟩ := hcut
           cases kq with
           | zero => exact absurd HA.out (by simp [cellarlaw8_kind.j2])
           | succ kj20 =>
            have H := HA.out
            clear HA
            simp only [cellarlaw8_kind.j2] at H
            by_cases c46 : 0 ≤ x6_1
            ·rw [if_pos c46] at H
             have c46b0 : decide (0 ≤ x6_1) = true := decide_eq_true c46
             clear c46
             by_cases c47 : x6_1 < (t227.length : Int)
             ·rw [if_pos c47] at H
              have c47b0 : decide (x6_1 < (t227.length : Int)) = true := decide_eq_true c47
              clear c47
              replace H := Option.bind_eq_some_iff.mp H
              obtain ⟨⟨t241, t244⟩, A480, H⟩ := H
              replace H : ((cellarlaw8_num.f t244).bind fun t245 => (if t245 = 0 then ((cellarref7_Put.f kj20 ((rd_T38 t227 x6_1).f0) ((rd_T38 t227 x6_1).f1) a1 x234000_20 x234001_20 x234002_20 x234003_20).bind fun t247 => ((cellarref0_EqBytes.f kj20 t241 t247).bind fun t250 => (if t250 = true then (cellarlaw8_kind.j3 kj20 a1 t227 x6_1 x7_2 t241 ((t241.length : Int) == 0) x234000_20 x234001_20 x234002_20 x234003_20) else (cellarlaw8_kind.j3 kj20 a1 t227 x6_1 x7_2 t241 true x234000_20 x234001_20 x234002_20 x234003_20)))) else (cellarlaw8_kind.j3 kj20 a1 t227 x6_1 x7_2 t241 true x234000_20 x234001_20 x234002_20 x234003_20))) = some r := H
              have A48 := Aside0.mk A480
              clear A480
              have HC49 := Aside0.mk H
              clear H
              try go_wp2
              have n0_ := Aside0.mk (Kd.R_drew HO_5.out)
              have n1_ := Aside0.mk (blk_drew BK225.out)
              have n2_ := Aside0.mk (blk_drew BK233.out)
              have n3_ := Aside0.mk (below_drew1 HB.out)
              clear HO_5
              clear BK225
              clear BK233
              clear HB
              have HO_5 := n0_
              have BK225 := n1_
              have BK233 := n2_
              have HB := n3_
              clear n0_ n1_ n2_ n3_
              have p240 : 0 ≤ (x6_1 : Int) := zdec
              have q240 : x6_1 < (t227.length : Int) := zdec
              obtain ⟨ad240, e240, hx240_0, hx240_1⟩ := at_T38 (Kd.R_reads' HO_5.out).2.2 x6_1 p240 q240
              obtain rfl : ad231 = ad240 := (by injection e240)
              replace p240 := eq_true p240
              replace q240 := eq_true q240
              refine start_ (n := 12) (S := fun w' => w'.cell? ⟨gb233, 0, none⟩ = some (.bool x234000_20) ∧ w'.cell? ⟨gb233, 1, none⟩ = some (.int .i64 x234001_20) ∧ w'.cell? ⟨gb233, 2, none⟩ = some (.int .i64 x234002_20) ∧ w'.cell? ⟨gb233, 3, none⟩ = some (.int .i64 x234003_20) ∧ w'.cell? (ad231.add ((x6_1).toNat * 2)) = some (.bool ((rd_T38 t227 x6_1).f0)) ∧ w'.cell? ⟨(ad231.add ((x6_1).toNat * 2)).block, (ad231.add ((x6_1).toNat * 2)).off + 1, none⟩ = some (.int .i64 ((rd_T38 t227 x6_1).f1))) (ds := []) cellarlaw8_kind.b19 (by kernel_rfl) rfl rfl ⟨(blk_cell BK233.out 0).trans rfl, (blk_cell BK233.out 1).trans rfl, (blk_cell BK233.out 2).trans rfl, (blk_cell BK233.out 3).trans rfl, hx240_0, hx240_1⟩ (fun hHeld => ?_); refine with_tabW cellarlaw8_kind.tab18 cellarlaw8_kind.bits18 (fun HT_ HW_ => ?_)
              generalize wc.drew = w50 at HO_5 BK225 BK233 HB hx240_0 hx240_1 hHeld ⊢
              refine pure_ (i := 0) (N := some 73) (v := ?_) (a' := ?_) cellarlaw8_kind.b20 rfl rfl (any_of HT_.out (by kernel_rfl)) (fun _ _ _ h => h) (Or.inl ⟨by rfl, ?_⟩) ?_ ?_
              rotate_left
              ·intro w'
               go_simp
               with_reducible rfl
              rotate_left
              ·simp only [Act.put, List.setIfInBounds_toArray, List.set_cons_zero, List.set_cons_succ, i64_w, i32_w]
               rfl
              refine pure_ (i := 1) (N := some 74) (v := ?_) (a' := ?_) cellarlaw8_kind.b21 rfl rfl (any_of HT_.out (by kernel_rfl)) (fun _ _ _ h => h) (Or.inl ⟨by rfl, ?_⟩) ?_ ?_
              rotate_left
              ·intro w'
               go_simp
               with_reducible rfl
              rotate_left
              ·simp only [Act.put, List.setIfInBounds_toArray, List.set_cons_zero, List.set_cons_succ, i64_w, i32_w]
               rfl
              refine pure_ (i := 2) (N := some 75) (v := ?_) (a' := ?_) cellarlaw8_kind.b22 rfl rfl (any_of HT_.out (by kernel_rfl)) (fun _ _ _ h => h) (Or.inl ⟨by rfl, ?_⟩) ?_ ?_
              rotate_left
              ·intro w'
               go_simp
               with_reducible rfl
              rotate_left
              ·simp only [Act.put, List.setIfInBounds_toArray, List.set_cons_zero, List.set_cons_succ, i64_w, i32_w]
               rfl
              refine pure_ (i := 4) (N := some 77) (v := ?_) (a' := ?_) cellarlaw8_kind.b23 rfl rfl (any_of HT_.out (by kernel_rfl)) (fun _ _ _ h => h) (Or.inl ⟨by rfl, ?_⟩) ?_ ?_
              rotate_left
              ·intro w'
               go_simp
               with_reducible rfl
              rotate_left
              ·simp only [Act.put, List.setIfInBounds_toArray, List.set_cons_zero, List.set_cons_succ, i64_w, i32_w]
               rfl
              refine take_ (i := 3) (N := some 76) (v := ?_) (a' := ?_) cellarlaw8_kind.b24 rfl rfl (take_ofW HT_.out HW_.out (by kernel_rfl)) (fun _ _ _ h => h) (Or.inl ⟨by rfl, ?_⟩) hHeld ?_ ?_
              rotate_left
              ·rintro w' ⟨s0, s1, s2, s3, s4, s5⟩
               go_simp
               with_reducible rfl
              rotate_left
              ·simp only [Act.put, List.setIfInBounds_toArray, List.set_cons_zero, List.set_cons_succ, i64_w, i32_w]
               rfl
              refine take_ (i := 5) (N := some 78) (v := ?_) (a' := ?_) cellarlaw8_kind.b25 rfl rfl (take_ofW HT_.out HW_.out (by kernel_rfl)) (fun _ _ _ h => h) (Or.inl ⟨by rfl, ?_⟩) hHeld ?_ ?_
              rotate_left
              ·rintro w' ⟨s0, s1, s2, s3, s4, s5⟩
               go_simp
               with_reducible rfl
              rotate_left
              ·simp only [Act.put, List.setIfInBounds_toArray, List.set_cons_zero, List.set_cons_succ, i64_w, i32_w]
               rfl
              refine one_ (i := 6) (N := some 79) cellarlaw8_kind.b26 rfl rfl (one_of HT_.out (by kernel_rfl)) (by decide) (fun K hK => ?_)
              refine goes_ Try.func26 (by kernel_rfl) rfl #[.agg #[.bool ((rd_T38 t227 x6_1).f0), .int .i64 ((rd_T38 t227 x6_1).f1)], .int .i64 a1, .agg #[.bool x234000_20, .int .i64 x234001_20, .int .i64 x234002_20, .int .i64 x234003_20]] (by rfl) rfl rfl (by (try simp only [List.map_toArray, List.map_cons, List.map_nil]); first | done | rfl | (simp only [List.length_drop, List.length_take]; rfl)) ?_
              with_reducible refine (bytes_Put.calls kj20 ((rd_T38 t227 x6_1).f0) ((rd_T38 t227 x6_1).f1) a1 x234000_20 x234001_20 x234002_20 x234003_20 t241 t244 _ A48.out).mono ?_
              rintro e w51 ⟨v242, rfl, ho0, hb⟩
              have HS4_ := (hb.cell (World.block_lt_of_cell? _ _ (hHeld.2.2.2.2.1))).trans (hHeld.2.2.2.2.1)
              have HS5_ := (hb.cell (World.block_lt_of_cell? _ _ (hHeld.2.2.2.2.2))).trans (hHeld.2.2.2.2.2)
              refine ⟨_, rfl, ?_⟩
              have n0_ := Aside0.mk (Kd.R_below (by (with_reducible repeat (first | apply Kd.R_alloc | apply Kd.R_drewN | apply Kd.R_drew)); exact HO_5.out) hb)
              have n1_ := Aside0.mk (Kd.R_lower ho0 (below_size (zw2 HB.out GE225.out GE233.out)))
              have n2_ := Aside0.mk (blk_below (g := gb225) (o := .cells #[.slice A0_0 l0_0.length c0_0, .slice A0_1 l0_1.length c0_1, .slice A0_2 l0_2.length c0_2] 26 (0, 0)) (zb BK225.out) hb)
              have n3_ := Aside0.mk (blk_below (g := gb233) (o := .cells #[.bool x234000_20, .int .i64 x234001_20, .int .i64 x234002_20, .int .i64 x234003_20] 33 (0, 0)) (zb BK233.out) hb)
              have n4_ := Aside0.mk (below_step (zw2 HB.out GE225.out GE233.out) hb)
              clear HO_5
              clear BK225
              clear BK233
              clear HB
              have HO_5 := n0_
              have HO243 := n1_
              have BK225 := n2_
              have BK233 := n3_
              have HB := n4_
              clear n0_ n1_ n2_ n3_ n4_
              (try clear hb)
              (try clear hb2)
              (try clear hk)
              (try clear hi)
              (try clear ho0)
              refine hK.out _ _ ⟨(blk_cell BK233.out 0).trans rfl, (blk_cell BK233.out 1).trans rfl, (blk_cell BK233.out 2).trans rfl, (blk_cell BK233.out 3).trans rfl, HS4_, HS5_⟩ (fun hHeld => ?_)
              clear hK K
              refine norm_ (a' := ?_) ?_ ?_
              rotate_left
              ·show Act.put _ (some 79) _ = _
               simp only [Act.put, List.setIfInBounds_toArray, List.set_cons_zero, List.set_cons_succ, i64_w, i32_w]
               rfl
              refine pure_ (i := 7) (N := some 72) (v := ?_) (a' := ?_) cellarlaw8_kind.b27 rfl rfl (any_of HT_.out (by kernel_rfl)) (fun _ _ _ h => h) (Or.inl ⟨by rfl, ?_⟩) ?_ ?_
              rotate_left
              ·intro w'
               go_simp
               with_reducible rfl
              rotate_left
              ·simp only [Act.put, List.setIfInBounds_toArray, List.set_cons_zero, List.set_cons_succ, i64_w, i32_w]
               rfl
              refine pure_ (i := 8) (N := some 80) (v := ?_) (a' := ?_) cellarlaw8_kind.b28 rfl rfl (any_of HT_.out (by kernel_rfl)) (fun _ _ _ h => h) (Or.inl ⟨by rfl, ?_⟩) ?_ ?_
              rotate_left
              ·intro w'
               go_simp
               with_reducible rfl
              rotate_left
              ·simp only [Act.put, List.setIfInBounds_toArray, List.set_cons_zero, List.set_cons_succ, i64_w, i32_w]
               rfl
              refine pure_ (i := 9) (N := some 81) (v := ?_) (a' := ?_) cellarlaw8_kind.b29 rfl rfl (any_of HT_.out (by kernel_rfl)) (fun _ _ _ h => h) (Or.inl ⟨by rfl, ?_⟩) ?_ ?_
              rotate_left
              ·intro w'
               go_simp
               with_reducible rfl
              rotate_left
              ·simp only [Act.put, List.setIfInBounds_toArray, List.set_cons_zero, List.set_cons_succ, i64_w, i32_w]
               rfl
              refine pure_ (i := 10) (N := some 10) (v := ?_) (a' := ?_) cellarlaw8_kind.b30 rfl rfl (any_of HT_.out (by kernel_rfl)) (fun _ _ _ h => h) (Or.inl ⟨by rfl, ?_⟩) ?_ ?_
              rotate_left
              ·intro w'
               go_simp
               with_reducible rfl
              rotate_left
              ·simp only [Act.put, List.setIfInBounds_toArray, List.set_cons_zero, List.set_cons_succ, i64_w, i32_w]
               rfl
              refine pure_ (i := 11) (N := some 11) (v := ?_) (a' := ?_) cellarlaw8_kind.b31 rfl rfl (any_of HT_.out (by kernel_rfl)) (fun _ _ _ h => h) (Or.inl ⟨by rfl, ?_⟩) ?_ ?_
              rotate_left
              ·intro w'
               go_simp
               with_reducible rfl
              rotate_left
              ·simp only [Act.put, List.setIfInBounds_toArray, List.set_cons_zero, List.set_cons_succ, i64_w, i32_w]
               rfl
              refine done_ (done_of HT_.out (by kernel_rfl)) ?_
              go_upto_region 19 with (fail)
              go_cut [101] (fun v101 wc => ∃ (kq : Nat) (x101_48 : Bool), v101 = .bool x101_48 ∧ Aside0 (cellarlaw8_kind.j3 kq a1 t227 x6_1 x7_2 t241 x101_48 x234000_20 x234001_20 x234002_20 x234003_20 = some r) ∧ Aside0 (kq ≤ kj20) ∧ Aside0 (Kd.R k38 38 wc w.heap.size (fun _ => True) (.slice (some ad231) t227.length co18) t227) ∧ Aside0 (Kd.R k51 51 wc w.heap.size (fun _ => True) v242 t241) ∧ Aside0 (wc.heap[gb225]? = some (.cells #[(.slice A0_0 l0_0.length c0_0), (.slice A0_1 l0_1.length c0_1), (.slice A0_2 l0_2.length c0_2)] 26 (0, 0))) ∧ Aside0 (wc.heap[gb233]? = some (.cells #[.bool x234000_20, .int .i64 x234001_20, .int .i64 x234002_20, .int .i64 x234003_20] 33 (0, 0))) ∧ Aside0 (Below w.heap.size w wc))
              case first =>
               have H := HC49.out
               clear HC49
               replace H := Option.bind_eq_some_iff.mp H
               obtain ⟨t245, A520, H⟩ := H
               replace H : (if t245 = 0 then ((cellarref7_Put.f kj20 ((rd_T38 t227 x6_1).f0) ((rd_T38 t227 x6_1).f1) a1 x234000_20 x234001_20 x234002_20 x234003_20).bind fun t247 => ((cellarref0_EqBytes.f kj20 t241 t247).bind fun t250 => (if t250 = true then (cellarlaw8_kind.j3 kj20 a1 t227 x6_1 x7_2 t241 ((t241.length : Int) == 0) x234000_20 x234001_20 x234002_20 x234003_20) else (cellarlaw8_kind.j3 kj20 a1 t227 x6_1 x7_2 t241 true x234000_20 x234001_20 x234002_20 x234003_20)))) else (cellarlaw8_kind.j3 kj20 a1 t227 x6_1 x7_2 t241 true x234000_20 x234001_20 x234002_20 x234003_20)) = some r := H
               have A52 := Aside0.mk A520
               clear A520
               by_cases c53 : t245 = 0
               ·rw [if_pos c53] at H
                have c53b0 : (t245 == 0) = true := beq_iff_eq.mpr c53
                have c53b1 : (t245 != 0) = false := bne_eq_false_iff_eq.mpr c53
                clear c53
                (first | rw [c53b0] | (simp only [i64_w, i32_w]; rw [c53b0]) | skip)
                replace H := Option.bind_eq_some_iff.mp H
                obtain ⟨t247, A540, H⟩ := H
                replace H : ((cellarref0_EqBytes.f kj20 t241 t247).bind fun t250 => (if t250 = true then (cellarlaw8_kind.j3 kj20 a1 t227 x6_1 x7_2 t241 ((t241.length : Int) == 0) x234000_20 x234001_20 x234002_20 x234003_20) else (cellarlaw8_kind.j3 kj20 a1 t227 x6_1 x7_2 t241 true x234000_20 x234001_20 x234002_20 x234003_20))) = some r := H
                have A54 := Aside0.mk A540
                clear A540
                replace H := Option.bind_eq_some_iff.mp H
                obtain ⟨t250, A550, H⟩ := H
                replace H : (if t250 = true then (cellarlaw8_kind.j3 kj20 a1 t227 x6_1 x7_2 t241 ((t241.length : Int) == 0) x234000_20 x234001_20 x234002_20 x234003_20) else (cellarlaw8_kind.j3 kj20 a1 t227 x6_1 x7_2 t241 true x234000_20 x234001_20 x234002_20 x234003_20)) = some r := H
                have A55 := Aside0.mk A550
                clear A550
                by_cases c56 : t250 = true
                ·subst c56
                 have H1 : (cellarlaw8_kind.j3 kj20 a1 t227 x6_1 x7_2 t241 ((t241.length : Int) == 0) x234000_20 x234001_20 x234002_20 x234003_20) = some r := by rw [if_pos rfl] at H; exact H
                 clear H
                 have H := H1
                 clear H1
                 have H' := Aside0.mk H
                 clear H
                 try go_wp2
                 have n0_ := Aside0.mk (Kd.R_drew HO_5.out)
                 have n1_ := Aside0.mk (Kd.R_drew HO243.out)
                 have n2_ := Aside0.mk (blk_drew BK225.out)
                 have n3_ := Aside0.mk (blk_drew BK233.out)
                 have n4_ := Aside0.mk (below_drew1 HB.out)
                 clear HO_5
                 clear HO243
                 clear BK225
                 clear BK233
                 clear HB
                 have HO_5 := n0_
                 have HO243 := n1_
                 have BK225 := n2_
                 have BK233 := n3_
                 have HB := n4_
                 clear n0_ n1_ n2_ n3_ n4_
                 have p246 : 0 ≤ (x6_1 : Int) := zdec
                 have q246 : x6_1 < (t227.length : Int) := zdec
                 obtain ⟨ad246, e246, hx246_0, hx246_1⟩ := at_T38 (Kd.R_reads' HO_5.out).2.2 x6_1 p246 q246
                 obtain rfl : ad231 = ad246 := (by injection e246)
                 replace p246 := eq_true p246
                 replace q246 := eq_true q246
                 refine start_ (n := 20) (S := fun w' => w'.cell? ⟨gb233, 0, none⟩ = some (.bool x234000_20) ∧ w'.cell? ⟨gb233, 1, none⟩ = some (.int .i64 x234001_20) ∧ w'.cell? ⟨gb233, 2, none⟩ = some (.int .i64 x234002_20) ∧ w'.cell? ⟨gb233, 3, none⟩ = some (.int .i64 x234003_20) ∧ w'.cell? (ad231.add ((x6_1).toNat * 2)) = some (.bool ((rd_T38 t227 x6_1).f0)) ∧ w'.cell? ⟨(ad231.add ((x6_1).toNat * 2)).block, (ad231.add ((x6_1).toNat * 2)).off + 1, none⟩ = some (.int .i64 ((rd_T38 t227 x6_1).f1))) (ds := []) cellarlaw8_kind.b32 (by kernel_rfl) rfl rfl ⟨(blk_cell BK233.out 0).trans rfl, (blk_cell BK233.out 1).trans rfl, (blk_cell BK233.out 2).trans rfl, (blk_cell BK233.out 3).trans rfl, hx246_0, hx246_1⟩ (fun hHeld => ?_); refine with_tabW cellarlaw8_kind.tab19 cellarlaw8_kind.bits19 (fun HT_ HW_ => ?_)
                 generalize w51.drew = w57 at HO_5 HO243 BK225 BK233 HB hx246_0 hx246_1 hHeld ⊢
                 refine pure_ (i := 0) (N := some 82) (v := ?_) (a' := ?_) cellarlaw8_kind.b33 rfl rfl (any_of HT_.out (by kernel_rfl)) (fun _ _ _ h => h) (Or.inl ⟨by rfl, ?_⟩) ?_ ?_
                 rotate_left
                 ·intro w'
                  go_simp
                  with_reducible rfl
                 rotate_left
                 ·simp only [Act.put, List.setIfInBounds_toArray, List.set_cons_zero, List.set_cons_succ, i64_w, i32_w]
                  rfl
                 refine one_ (i := 1) (N := some 83) cellarlaw8_kind.b34 rfl rfl (one_of HT_.out (by kernel_rfl)) (by decide) (fun K hK => ?_)
                 refine goes_ Try.func23 (by kernel_rfl) rfl #[.int .i64 t244] (by rfl) rfl rfl (by (try simp only [List.map_toArray, List.map_cons, List.map_nil]); first | done | rfl | (simp only [List.length_drop, List.length_take]; rfl)) ?_
                 with_reducible refine (cellarlaw8_num.calls t244 t245 _ A52.out).mono ?_
                 rintro e w' ⟨rfl, ⟨nd, rfl⟩⟩
                 refine ⟨_, rfl, ?_⟩
                 refine hK.out _ _ ⟨(blk_cell BK233.out 0).trans rfl, (blk_cell BK233.out 1).trans rfl, (blk_cell BK233.out 2).trans rfl, (blk_cell BK233.out 3).trans rfl, hHeld.2.2.2.2.1, hHeld.2.2.2.2.2⟩ (fun hHeld => ?_)
                 clear hK K
                 refine norm_ (a' := ?_) ?_ ?_
                 rotate_left
                 ·show Act.put _ (some 83) _ = _
                  simp only [Act.put, List.setIfInBounds_toArray, List.set_cons_zero, List.set_cons_succ, i64_w, i32_w]
                  rfl
                 refine pure_ (i := 2) (N := some 84) (v := ?_) (a' := ?_) cellarlaw8_kind.b35 rfl rfl (any_of HT_.out (by kernel_rfl)) (fun _ _ _ h => h) (Or.inl ⟨by rfl, ?_⟩) ?_ ?_
                 rotate_left
                 ·intro w'
                  go_simp
                  with_reducible rfl
                 rotate_left
                 ·simp only [Act.put, List.setIfInBounds_toArray, List.set_cons_zero, List.set_cons_succ, i64_w, i32_w]
                  rfl
                 refine pure_ (i := 3) (N := some 85) (v := ?_) (a' := ?_) cellarlaw8_kind.b36 rfl rfl (any_of HT_.out (by kernel_rfl)) (fun _ _ _ h => h) (Or.inl ⟨by rfl, ?_⟩) ?_ ?_
                 rotate_left
                 ·intro w'
                  go_simp
                  with_reducible rfl
                 rotate_left
                 ·simp only [Act.put, List.setIfInBounds_toArray, List.set_cons_zero, List.set_cons_succ, i64_w, i32_w]
                  rfl
                 refine pure_ (i := 4) (N := some 86) (v := ?_) (a' := ?_) cellarlaw8_kind.b37 rfl rfl (any_of HT_.out (by kernel_rfl)) (fun _ _ _ h => h) (Or.inl ⟨by rfl, ?_⟩) ?_ ?_
                 rotate_left
                 ·intro w'
                  go_simp
                  with_reducible rfl
                 rotate_left
                 ·simp only [Act.put, List.setIfInBounds_toArray, List.set_cons_zero, List.set_cons_succ, i64_w, i32_w]
                  rfl
                 refine pure_ (i := 5) (N := some 87) (v := ?_) (a' := ?_) cellarlaw8_kind.b38 rfl rfl (any_of HT_.out (by kernel_rfl)) (fun _ _ _ h => h) (Or.inl ⟨by rfl, ?_⟩) ?_ ?_
                 rotate_left
                 ·intro w'
                  go_simp
                  with_reducible rfl
                 rotate_left
                 ·simp only [Act.put, List.setIfInBounds_toArray, List.set_cons_zero, List.set_cons_succ, i64_w, i32_w]
                  rfl
                 refine pure_ (i := 6) (N := some 88) (v := ?_) (a' := ?_) cellarlaw8_kind.b39 rfl rfl (any_of HT_.out (by kernel_rfl)) (fun _ _ _ h => h) (Or.inl ⟨by rfl, ?_⟩) ?_ ?_
                 rotate_left
                 ·intro w'
                  go_simp
                  with_reducible rfl
                 rotate_left
                 ·simp only [Act.put, List.setIfInBounds_toArray, List.set_cons_zero, List.set_cons_succ, i64_w, i32_w]
                  rfl
                 refine pure_ (i := 7) (N := some 89) (v := ?_) (a' := ?_) cellarlaw8_kind.b40 rfl rfl (any_of HT_.out (by kernel_rfl)) (fun _ _ _ h => h) (Or.inl ⟨by rfl, ?_⟩) ?_ ?_
                 rotate_left
                 ·intro w'
                  go_simp
                  with_reducible rfl
                 rotate_left
                 ·simp only [Act.put, List.setIfInBounds_toArray, List.set_cons_zero, List.set_cons_succ, i64_w, i32_w]
                  rfl
                 refine pure_ (i := 9) (N := some 91) (v := ?_) (a' := ?_) cellarlaw8_kind.b41 rfl rfl (any_of HT_.out (by kernel_rfl)) (fun _ _ _ h => h) (Or.inl ⟨by rfl, ?_⟩) ?_ ?_
                 rotate_left
                 ·intro w'
                  go_simp
                  with_reducible rfl
                 rotate_left
                 ·simp only [Act.put, List.setIfInBounds_toArray, List.set_cons_zero, List.set_cons_succ, i64_w, i32_w]
                  rfl
                 refine take_ (i := 8) (N := some 90) (v := ?_) (a' := ?_) cellarlaw8_kind.b42 rfl rfl (take_ofW HT_.out HW_.out (by kernel_rfl)) (fun _ _ _ h => h) (Or.inl ⟨by rfl, ?_⟩) hHeld ?_ ?_
                 rotate_left
                 ·rintro w' ⟨s0, s1, s2, s3, s4, s5⟩
                  go_simp
                  with_reducible rfl
                 rotate_left
                 ·simp only [Act.put, List.setIfInBounds_toArray, List.set_cons_zero, List.set_cons_succ, i64_w, i32_w]
                  rfl
                 refine take_ (i := 10) (N := some 92) (v := ?_) (a' := ?_) cellarlaw8_kind.b43 rfl rfl (take_ofW HT_.out HW_.out (by kernel_rfl)) (fun _ _ _ h => h) (Or.inl ⟨by rfl, ?_⟩) hHeld ?_ ?_
                 rotate_left
                 ·rintro w' ⟨s0, s1, s2, s3, s4, s5⟩
                  go_simp
                  with_reducible rfl
                 rotate_left
                 ·simp only [Act.put, List.setIfInBounds_toArray, List.set_cons_zero, List.set_cons_succ, i64_w, i32_w]
                  rfl
                 refine one_ (i := 11) (N := some 93) cellarlaw8_kind.b44 rfl rfl (one_of HT_.out (by kernel_rfl)) (by decide) (fun K hK => ?_)
                 refine goes_ Try.func30 (by kernel_rfl) rfl #[.agg #[.bool ((rd_T38 t227 x6_1).f0), .int .i64 ((rd_T38 t227 x6_1).f1)], .int .i64 a1, .agg #[.bool x234000_20, .int .i64 x234001_20, .int .i64 x234002_20, .int .i64 x234003_20]] (by rfl) rfl rfl (by (try simp only [List.map_toArray, List.map_cons, List.map_nil]); first | done | rfl | (simp only [List.length_drop, List.length_take]; rfl)) ?_
                 with_reducible refine (cellarref7_Put.calls kj20 ((rd_T38 t227 x6_1).f0) ((rd_T38 t227 x6_1).f1) a1 x234000_20 x234001_20 x234002_20 x234003_20 t247 _ A54.out).mono ?_
                 rintro e w58 ⟨v248, rfl, ho0, hb⟩
                 have HS4_ := (hb.cell (World.block_lt_of_cell? _ _ (hHeld.2.2.2.2.1))).trans (hHeld.2.2.2.2.1)
                 have HS5_ := (hb.cell (World.block_lt_of_cell? _ _ (hHeld.2.2.2.2.2))).trans (hHeld.2.2.2.2.2)
                 refine ⟨_, rfl, ?_⟩
                 have n0_ := Aside0.mk (Kd.R_below (by (with_reducible repeat (first | apply Kd.R_alloc | apply Kd.R_drewN | apply Kd.R_drew)); exact HO_5.out) hb)
                 have n1_ := Aside0.mk (Kd.R_elder' (by (with_reducible repeat (first | apply Kd.R_alloc | apply Kd.R_drewN | apply Kd.R_drew)); exact HO243.out) (Kd.R_base ho0) hb)
                 have n2_ := Aside0.mk (Kd.R_lower (Kd.R_new' ho0 (Kd.R_lt (by (with_reducible repeat (first | apply Kd.R_alloc | apply Kd.R_drewN | apply Kd.R_drew)); exact HO243.out))) (below_size (zw2 HB.out GE225.out GE233.out)))
                 have n3_ := Aside0.mk (blk_below (g := gb225) (o := .cells #[.slice A0_0 l0_0.length c0_0, .slice A0_1 l0_1.length c0_1, .slice A0_2 l0_2.length c0_2] 26 (0, 0)) (zb BK225.out) hb)
                 have n4_ := Aside0.mk (blk_below (g := gb233) (o := .cells #[.bool x234000_20, .int .i64 x234001_20, .int .i64 x234002_20, .int .i64 x234003_20] 33 (0, 0)) (zb BK233.out) hb)
                 have n5_ := Aside0.mk (below_step (zw2 HB.out GE225.out GE233.out) hb)
                 clear HO_5
                 clear HO243
                 clear BK225
                 clear BK233
                 clear HB
                 have HO_5 := n0_
                 have HO243 := n1_
                 have HO249 := n2_
                 have BK225 := n3_
                 have BK233 := n4_
                 have HB := n5_
                 clear n0_ n1_ n2_ n3_ n4_ n5_
                 (try clear hb)
                 (try clear hb2)
                 (try clear hk)
                 (try clear hi)
                 (try clear ho0)
                 obtain ⟨Ao59, co59, eo59⟩ := Kd.R_slice HO243.out
                 (first | subst eo59 | (injection eo59 with f1_ f2_ f3_; have f4_ := f1_.symm; have f5_ := f3_.symm; clear f1_ f2_ f3_; subst f4_; subst f5_))
                 obtain ⟨Ao60, co60, eo60⟩ := Kd.R_slice HO249.out
                 (first | subst eo60 | (injection eo60 with f1_ f2_ f3_; have f4_ := f1_.symm; have f5_ := f3_.symm; clear f1_ f2_ f3_; subst f4_; subst f5_))
                 refine hK.out _ _ ⟨(blk_cell BK233.out 0).trans rfl, (blk_cell BK233.out 1).trans rfl, (blk_cell BK233.out 2).trans rfl, (blk_cell BK233.out 3).trans rfl, HS4_, HS5_⟩ (fun hHeld => ?_)
                 clear hK K
                 refine norm_ (a' := ?_) ?_ ?_
                 rotate_left
                 ·show Act.put _ (some 93) _ = _
                  simp only [Act.put, List.setIfInBounds_toArray, List.set_cons_zero, List.set_cons_succ, i64_w, i32_w]
                  rfl
                 refine one_ (i := 12) (N := some 94) cellarlaw8_kind.b45 rfl rfl (one_of HT_.out (by kernel_rfl)) (by decide) (fun K hK => ?_)
                 refine goes_ Try.func24 (by kernel_rfl) rfl #[.slice Ao59 t241.length co59, .slice Ao60 t247.length co60] (by rfl) rfl rfl (by (try simp only [List.map_toArray, List.map_cons, List.map_nil]); first | done | rfl | (simp only [List.length_drop, List.length_take]; rfl)) ?_
                 with_reducible refine (cellarref0_EqBytes.calls kj20 _ _ t241 _ _ t247 true _ ?side1 ?side2 ?side3 ?side4 A55.out).mono ?_
                 (case side1 => repeat (first | exact (Kd.R_reads' HO243.out).2.2 | (with_reducible refine Kd.C_alloc ?_ _) | (with_reducible refine Kd.C_drewN ?_ _) | (with_reducible refine Kd.C_drew ?_)))
                 (case side2 => exact (Kd.R_reads' HO243.out).2.1)
                 (case side3 => repeat (first | exact (Kd.R_reads' HO249.out).2.2 | (with_reducible refine Kd.C_alloc ?_ _) | (with_reducible refine Kd.C_drewN ?_ _) | (with_reducible refine Kd.C_drew ?_)))
                 (case side4 => exact (Kd.R_reads' HO249.out).2.1)
                 rintro e w' ⟨rfl, ⟨nd, rfl⟩⟩
                 refine ⟨_, rfl, ?_⟩
                 refine hK.out _ _ ⟨(blk_cell BK233.out 0).trans rfl, (blk_cell BK233.out 1).trans rfl, (blk_cell BK233.out 2).trans rfl, (blk_cell BK233.out 3).trans rfl, hHeld.2.2.2.2.1, hHeld.2.2.2.2.2⟩ (fun hHeld => ?_)
                 clear hK K
                 refine norm_ (a' := ?_) ?_ ?_
                 rotate_left
                 ·show Act.put _ (some 94) _ = _
                  simp only [Act.put, List.setIfInBounds_toArray, List.set_cons_zero, List.set_cons_succ, i64_w, i32_w]
                  rfl
                 refine pure_ (i := 13) (N := some 95) (v := ?_) (a' := ?_) cellarlaw8_kind.b46 rfl rfl (any_of HT_.out (by kernel_rfl)) (fun _ _ _ h => h) (Or.inl ⟨by rfl, ?_⟩) ?_ ?_
                 rotate_left
                 ·intro w'
                  go_simp
                  with_reducible rfl
                 rotate_left
                 ·simp only [Act.put, List.setIfInBounds_toArray, List.set_cons_zero, List.set_cons_succ, i64_w, i32_w]
                  rfl
                 refine pure_ (i := 14) (N := some 96) (v := ?_) (a' := ?_) cellarlaw8_kind.b47 rfl rfl (any_of HT_.out (by kernel_rfl)) (fun _ _ _ h => h) (Or.inl ⟨by rfl, ?_⟩) ?_ ?_
                 rotate_left
                 ·intro w'
                  go_simp
                  with_reducible rfl
                 rotate_left
                 ·simp only [Act.put, List.setIfInBounds_toArray, List.set_cons_zero, List.set_cons_succ, i64_w, i32_w]
                  rfl
                 refine pure_ (i := 15) (N := some 97) (v := ?_) (a' := ?_) cellarlaw8_kind.b48 rfl rfl (any_of HT_.out (by kernel_rfl)) (fun _ _ _ h => h) (Or.inl ⟨by rfl, ?_⟩) ?_ ?_
                 rotate_left
                 ·intro w'
                  go_simp
                  with_reducible rfl
                 rotate_left
                 ·simp only [Act.put, List.setIfInBounds_toArray, List.set_cons_zero, List.set_cons_succ, i64_w, i32_w]
                  rfl
                 refine pure_ (i := 16) (N := some 98) (v := ?_) (a' := ?_) cellarlaw8_kind.b49 rfl rfl (any_of HT_.out (by kernel_rfl)) (fun _ _ _ h => h) (Or.inl ⟨by rfl, ?_⟩) ?_ ?_
                 rotate_left
                 ·intro w'
                  go_simp
                  with_reducible rfl
                 rotate_left
                 ·simp only [Act.put, List.setIfInBounds_toArray, List.set_cons_zero, List.set_cons_succ, i64_w, i32_w]
                  rfl
                 refine pure_ (i := 17) (N := some 99) (v := ?_) (a' := ?_) cellarlaw8_kind.b50 rfl rfl (any_of HT_.out (by kernel_rfl)) (fun _ _ _ h => h) (Or.inl ⟨by rfl, ?_⟩) ?_ ?_
                 rotate_left
                 ·intro w'
                  go_simp
                  with_reducible rfl
                 rotate_left
                 ·simp only [Act.put, List.setIfInBounds_toArray, List.set_cons_zero, List.set_cons_succ, i64_w, i32_w]
                  rfl
                 refine pure_ (i := 18) (N := some 100) (v := ?_) (a' := ?_) cellarlaw8_kind.b51 rfl rfl (any_of HT_.out (by kernel_rfl)) (fun _ _ _ h => h) (Or.inl ⟨by rfl, ?_⟩) ?_ ?_
                 rotate_left
                 ·intro w'
                  go_simp
                  with_reducible rfl
                 rotate_left
                 ·simp only [Act.put, List.setIfInBounds_toArray, List.set_cons_zero, List.set_cons_succ, i64_w, i32_w]
                  rfl
                 refine pure_ (i := 19) (N := some 101) (v := ?_) (a' := ?_) cellarlaw8_kind.b52 rfl rfl (any_of HT_.out (by kernel_rfl)) (fun _ _ _ h => h) (Or.inl ⟨by rfl, ?_⟩) ?_ ?_
                 rotate_left
                 ·intro w'
                  go_simp
                  with_reducible rfl
                 rotate_left
                 ·simp only [Act.put, List.setIfInBounds_toArray, List.set_cons_zero, List.set_cons_succ, i64_w, i32_w]
                  rfl
                 refine done_ (done_of HT_.out (by kernel_rfl)) ?_
                 try go_wp2
                 go_meet
                 case rel => exact ⟨_, (((t241.length : Int) == 0)), (by first | rfl | (simp; done) | (simp [*]; done)), H', ⟨by have := HK1.out; have := HK2.out; have := HJ20.out; first | omega | exact Nat.le_refl _⟩, ⟨by (with_reducible repeat (first | apply Kd.R_alloc | apply Kd.R_drewN | apply Kd.R_drew)); exact HO_5.out⟩, ⟨by (with_reducible repeat (first | apply Kd.R_alloc | apply Kd.R_drewN | apply Kd.R_drew)); exact Kd.R_mono HO243.out (fun _ hk => trivial)⟩, ⟨zb BK225.out⟩, ⟨zb BK233.out⟩, ⟨zw2 HB.out GE225.out GE233.out⟩⟩
                ·replace c56 := Bool.eq_false_iff.mpr c56
                 subst c56
                 have H1 : (cellarlaw8_kind.j3 kj20 a1 t227 x6_1 x7_2 t241 true x234000_20 x234001_20 x234002_20 x234003_20) = some r := by rw [if_neg (show ¬ (false = true) by decide)] at H; exact H
                 clear H
                 have H := H1
                 clear H1
                 have H' := Aside0.mk H
                 clear H
                 try go_wp2
                 have n0_ := Aside0.mk (Kd.R_drew HO_5.out)
                 have n1_ := Aside0.mk (Kd.R_drew HO243.out)
                 have n2_ := Aside0.mk (blk_drew BK225.out)
                 have n3_ := Aside0.mk (blk_drew BK233.out)
                 have n4_ := Aside0.mk (below_drew1 HB.out)
                 clear HO_5
                 clear HO243
                 clear BK225
                 clear BK233
                 clear HB
                 have HO_5 := n0_
                 have HO243 := n1_
                 have BK225 := n2_
                 have BK233 := n3_
                 have HB := n4_
                 clear n0_ n1_ n2_ n3_ n4_
                 have p246 : 0 ≤ (x6_1 : Int) := zdec
                 have q246 : x6_1 < (t227.length : Int) := zdec
                 obtain ⟨ad246, e246, hx246_0, hx246_1⟩ := at_T38 (Kd.R_reads' HO_5.out).2.2 x6_1 p246 q246
                 obtain rfl : ad231 = ad246 := (by injection e246)
                 replace p246 := eq_true p246
                 replace q246 := eq_true q246
                 refine start_ (n := 20) (S := fun w' => w'.cell? ⟨gb233, 0, none⟩ = some (.bool x234000_20) ∧ w'.cell? ⟨gb233, 1, none⟩ = some (.int .i64 x234001_20) ∧ w'.cell? ⟨gb233, 2, none⟩ = some (.int .i64 x234002_20) ∧ w'.cell? ⟨gb233, 3, none⟩ = some (.int .i64 x234003_20) ∧ w'.cell? (ad231.add ((x6_1).toNat * 2)) = some (.bool ((rd_T38 t227 x6_1).f0)) ∧ w'.cell? ⟨(ad231.add ((x6_1).toNat * 2)).block, (ad231.add ((x6_1).toNat * 2)).off + 1, none⟩ = some (.int .i64 ((rd_T38 t227 x6_1).f1))) (ds := []) cellarlaw8_kind.b32 (by kernel_rfl) rfl rfl ⟨(blk_cell BK233.out 0).trans rfl, (blk_cell BK233.out 1).trans rfl, (blk_cell BK233.out 2).trans rfl, (blk_cell BK233.out 3).trans rfl, hx246_0, hx246_1⟩ (fun hHeld => ?_); refine with_tabW cellarlaw8_kind.tab19 cellarlaw8_kind.bits19 (fun HT_ HW_ => ?_)
                 generalize w51.drew = w61 at HO_5 HO243 BK225 BK233 HB hx246_0 hx246_1 hHeld ⊢
                 refine pure_ (i := 0) (N := some 82) (v := ?_) (a' := ?_) cellarlaw8_kind.b33 rfl rfl (any_of HT_.out (by kernel_rfl)) (fun _ _ _ h => h) (Or.inl ⟨by rfl, ?_⟩) ?_ ?_
                 rotate_left
                 ·intro w'
                  go_simp
                  with_reducible rfl
                 rotate_left
                 ·simp only [Act.put, List.setIfInBounds_toArray, List.set_cons_zero, List.set_cons_succ, i64_w, i32_w]
                  rfl
                 refine one_ (i := 1) (N := some 83) cellarlaw8_kind.b34 rfl rfl (one_of HT_.out (by kernel_rfl)) (by decide) (fun K hK => ?_)
                 refine goes_ Try.func23 (by kernel_rfl) rfl #[.int .i64 t244] (by rfl) rfl rfl (by (try simp only [List.map_toArray, List.map_cons, List.map_nil]); first | done | rfl | (simp only [List.length_drop, List.length_take]; rfl)) ?_
                 with_reducible refine (cellarlaw8_num.calls t244 t245 _ A52.out).mono ?_
                 rintro e w' ⟨rfl, ⟨nd, rfl⟩⟩
                 refine ⟨_, rfl, ?_⟩
                 refine hK.out _ _ ⟨(blk_cell BK233.out 0).trans rfl, (blk_cell BK233.out 1).trans rfl, (blk_cell BK233.out 2).trans rfl, (blk_cell BK233.out 3).trans rfl, hHeld.2.2.2.2.1, hHeld.2.2.2.2.2⟩ (fun hHeld => ?_)
                 clear hK K
                 refine norm_ (a' := ?_) ?_ ?_
                 rotate_left
                 ·show Act.put _ (some 83) _ = _
                  simp only [Act.put, List.setIfInBounds_toArray, List.set_cons_zero, List.set_cons_succ, i64_w, i32_w]
                  rfl
                 refine pure_ (i := 2) (N := some 84) (v := ?_) (a' := ?_) cellarlaw8_kind.b35 rfl rfl (any_of HT_.out (by kernel_rfl)) (fun _ _ _ h => h) (Or.inl ⟨by rfl, ?_⟩) ?_ ?_
                 rotate_left
                 ·intro w'
                  go_simp
                  with_reducible rfl
                 rotate_left
                 ·simp only [Act.put, List.setIfInBounds_toArray, List.set_cons_zero, List.set_cons_succ, i64_w, i32_w]
                  rfl
                 refine pure_ (i := 3) (N := some 85) (v := ?_) (a' := ?_) cellarlaw8_kind.b36 rfl rfl (any_of HT_.out (by kernel_rfl)) (fun _ _ _ h => h) (Or.inl ⟨by rfl, ?_⟩) ?_ ?_
                 rotate_left
                 ·intro w'
                  go_simp
                  with_reducible rfl
                 rotate_left
                 ·simp only [Act.put, List.setIfInBounds_toArray, List.set_cons_zero, List.set_cons_succ, i64_w, i32_w]
                  rfl
                 refine pure_ (i := 4) (N := some 86) (v := ?_) (a' := ?_) cellarlaw8_kind.b37 rfl rfl (any_of HT_.out (by kernel_rfl)) (fun _ _ _ h => h) (Or.inl ⟨by rfl, ?_⟩) ?_ ?_
                 rotate_left
                 ·intro w'
                  go_simp
                  with_reducible rfl
                 rotate_left
                 ·simp only [Act.put, List.setIfInBounds_toArray, List.set_cons_zero, List.set_cons_succ, i64_w, i32_w]
                  rfl
                 refine pure_ (i := 5) (N := some 87) (v := ?_) (a' := ?_) cellarlaw8_kind.b38 rfl rfl (any_of HT_.out (by kernel_rfl)) (fun _ _ _ h => h) (Or.inl ⟨by rfl, ?_⟩) ?_ ?_
                 rotate_left
                 ·intro w'
                  go_simp
                  with_reducible rfl
                 rotate_left
                 ·simp only [Act.put, List.setIfInBounds_toArray, List.set_cons_zero, List.set_cons_succ, i64_w, i32_w]
                  rfl
                 refine pure_ (i := 6) (N := some 88) (v := ?_) (a' := ?_) cellarlaw8_kind.b39 rfl rfl (any_of HT_.out (by kernel_rfl)) (fun _ _ _ h => h) (Or.inl ⟨by rfl, ?_⟩) ?_ ?_
                 rotate_left
                 ·intro w'
                  go_simp
                  with_reducible rfl
                 rotate_left
                 ·simp only [Act.put, List.setIfInBounds_toArray, List.set_cons_zero, List.set_cons_succ, i64_w, i32_w]
                  rfl
                 refine pure_ (i := 7) (N := some 89) (v := ?_) (a' := ?_) cellarlaw8_kind.b40 rfl rfl (any_of HT_.out (by kernel_rfl)) (fun _ _ _ h => h) (Or.inl ⟨by rfl, ?_⟩) ?_ ?_
                 rotate_left
                 ·intro w'
                  go_simp
                  with_reducible rfl
                 rotate_left
                 ·simp only [Act.put, List.setIfInBounds_toArray, List.set_cons_zero, List.set_cons_succ, i64_w, i32_w]
                  rfl
                 refine pure_ (i := 9) (N := some 91) (v := ?_) (a' := ?_) cellarlaw8_kind.b41 rfl rfl (any_of HT_.out (by kernel_rfl)) (fun _ _ _ h => h) (Or.inl ⟨by rfl, ?_⟩) ?_ ?_
                 rotate_left
                 ·intro w'
                  go_simp
                  with_reducible rfl
                 rotate_left
                 ·simp only [Act.put, List.setIfInBounds_toArray, List.set_cons_zero, List.set_cons_succ, i64_w, i32_w]
                  rfl
                 refine take_ (i := 8) (N := some 90) (v := ?_) (a' := ?_) cellarlaw8_kind.b42 rfl rfl (take_ofW HT_.out HW_.out (by kernel_rfl)) (fun _ _ _ h => h) (Or.inl ⟨by rfl, ?_⟩) hHeld ?_ ?_
                 rotate_left
                 ·rintro w' ⟨s0, s1, s2, s3, s4, s5⟩
                  go_simp
                  with_reducible rfl
                 rotate_left
                 ·simp only [Act.put, List.setIfInBounds_toArray, List.set_cons_zero, List.set_cons_succ, i64_w, i32_w]
                  rfl
                 refine take_ (i := 10) (N := some 92) (v := ?_) (a' := ?_) cellarlaw8_kind.b43 rfl rfl (take_ofW HT_.out HW_.out (by kernel_rfl)) (fun _ _ _ h => h) (Or.inl ⟨by rfl, ?_⟩) hHeld ?_ ?_
                 rotate_left
                 ·rintro w' ⟨s0, s1, s2, s3, s4, s5⟩
                  go_simp
                  with_reducible rfl
                 rotate_left
                 ·simp only [Act.put, List.setIfInBounds_toArray, List.set_cons_zero, List.set_cons_succ, i64_w, i32_w]
                  rfl
                 refine one_ (i := 11) (N := some 93) cellarlaw8_kind.b44 rfl rfl (one_of HT_.out (by kernel_rfl)) (by decide) (fun K hK => ?_)
                 refine goes_ Try.func30 (by kernel_rfl) rfl #[.agg #[.bool ((rd_T38 t227 x6_1).f0), .int .i64 ((rd_T38 t227 x6_1).f1)], .int .i64 a1, .agg #[.bool x234000_20, .int .i64 x234001_20, .int .i64 x234002_20, .int .i64 x234003_20]] (by rfl) rfl rfl (by (try simp only [List.map_toArray, List.map_cons, List.map_nil]); first | done | rfl | (simp only [List.length_drop, List.length_take]; rfl)) ?_
                 with_reducible refine (cellarref7_Put.calls kj20 ((rd_T38 t227 x6_1).f0) ((rd_T38 t227 x6_1).f1) a1 x234000_20 x234001_20 x234002_20 x234003_20 t247 _ A54.out).mono ?_
                 rintro e w62 ⟨v248, rfl, ho0, hb⟩
                 have HS4_ := (hb.cell (World.block_lt_of_cell? _ _ (hHeld.2.2.2.2.1))).trans (hHeld.2.2.2.2.1)
                 have HS5_ := (hb.cell (World.block_lt_of_cell? _ _ (hHeld.2.2.2.2.2))).trans (hHeld.2.2.2.2.2)
                 refine ⟨_, rfl, ?_⟩
                 have n0_ := Aside0.mk (Kd.R_below (by (with_reducible repeat (first | apply Kd.R_alloc | apply Kd.R_drewN | apply Kd.R_drew)); exact HO_5.out) hb)
                 have n1_ := Aside0.mk (Kd.R_elder' (by (with_reducible repeat (first | apply Kd.R_alloc | apply Kd.R_drewN | apply Kd.R_drew)); exact HO243.out) (Kd.R_base ho0) hb)
                 have n2_ := Aside0.mk (Kd.R_lower (Kd.R_new' ho0 (Kd.R_lt (by (with_reducible repeat (first | apply Kd.R_alloc | apply Kd.R_drewN | apply Kd.R_drew)); exact HO243.out))) (below_size (zw2 HB.out GE225.out GE233.out)))
                 have n3_ := Aside0.mk (blk_below (g := gb225) (o := .cells #[.slice A0_0 l0_0.length c0_0, .slice A0_1 l0_1.length c0_1, .slice A0_2 l0_2.length c0_2] 26 (0, 0)) (zb BK225.out) hb)
                 have n4_ := Aside0.mk (blk_below (g := gb233) (o := .cells #[.bool x234000_20, .int .i64 x234001_20, .int .i64 x234002_20, .int .i64 x234003_20] 33 (0, 0)) (zb BK233.out) hb)
                 have n5_ := Aside0.mk (below_step (zw2 HB.out GE225.out GE233.out) hb)
                 clear HO_5
                 clear HO243
                 clear BK225
                 clear BK233
                 clear HB
                 have HO_5 := n0_
                 have HO243 := n1_
                 have HO249 := n2_
                 have BK225 := n3_
                 have BK233 := n4_
                 have HB := n5_
                 clear n0_ n1_ n2_ n3_ n4_ n5_
                 (try clear hb)
                 (try clear hb2)
                 (try clear hk)
                 (try clear hi)
                 (try clear ho0)
                 obtain ⟨Ao63, co63, eo63⟩ := Kd.R_slice HO243.out
                 (first | subst eo63 | (injection eo63 with f1_ f2_ f3_; have f4_ := f1_.symm; have f5_ := f3_.symm; clear f1_ f2_ f3_; subst f4_; subst f5_))
                 obtain ⟨Ao64, co64, eo64⟩ := Kd.R_slice HO249.out
                 (first | subst eo64 | (injection eo64 with f1_ f2_ f3_; have f4_ := f1_.symm; have f5_ := f3_.symm; clear f1_ f2_ f3_; subst f4_; subst f5_))
                 refine hK.out _ _ ⟨(blk_cell BK233.out 0).trans rfl, (blk_cell BK233.out 1).trans rfl, (blk_cell BK233.out 2).trans rfl, (blk_cell BK233.out 3).trans rfl, HS4_, HS5_⟩ (fun hHeld => ?_)
                 clear hK K
                 refine norm_ (a' := ?_) ?_ ?_
                 rotate_left
                 ·show Act.put _ (some 93) _ = _
                  simp only [Act.put, List.setIfInBounds_toArray, List.set_cons_zero, List.set_cons_succ, i64_w, i32_w]
                  rfl
                 refine one_ (i := 12) (N := some 94) cellarlaw8_kind.b45 rfl rfl (one_of HT_.out (by kernel_rfl)) (by decide) (fun K hK => ?_)
                 refine goes_ Try.func24 (by kernel_rfl) rfl #[.slice Ao63 t241.length co63, .slice Ao64 t247.length co64] (by rfl) rfl rfl (by (try simp only [List.map_toArray, List.map_cons, List.map_nil]); first | done | rfl | (simp only [List.length_drop, List.length_take]; rfl)) ?_
                 with_reducible refine (cellarref0_EqBytes.calls kj20 _ _ t241 _ _ t247 false _ ?side1 ?side2 ?side3 ?side4 A55.out).mono ?_
                 (case side1 => repeat (first | exact (Kd.R_reads' HO243.out).2.2 | (with_reducible refine Kd.C_alloc ?_ _) | (with_reducible refine Kd.C_drewN ?_ _) | (with_reducible refine Kd.C_drew ?_)))
                 (case side2 => exact (Kd.R_reads' HO243.out).2.1)
                 (case side3 => repeat (first | exact (Kd.R_reads' HO249.out).2.2 | (with_reducible refine Kd.C_alloc ?_ _) | (with_reducible refine Kd.C_drewN ?_ _) | (with_reducible refine Kd.C_drew ?_)))
                 (case side4 => exact (Kd.R_reads' HO249.out).2.1)
                 rintro e w' ⟨rfl, ⟨nd, rfl⟩⟩
                 refine ⟨_, rfl, ?_⟩
                 refine hK.out _ _ ⟨(blk_cell BK233.out 0).trans rfl, (blk_cell BK233.out 1).trans rfl, (blk_cell BK233.out 2).trans rfl, (blk_cell BK233.out 3).trans rfl, hHeld.2.2.2.2.1, hHeld.2.2.2.2.2⟩ (fun hHeld => ?_)
                 clear hK K
                 refine norm_ (a' := ?_) ?_ ?_
                 rotate_left
                 ·show Act.put _ (some 94) _ = _
                  simp only [Act.put, List.setIfInBounds_toArray, List.set_cons_zero, List.set_cons_succ, i64_w, i32_w]
                  rfl
                 refine pure_ (i := 13) (N := some 95) (v := ?_) (a' := ?_) cellarlaw8_kind.b46 rfl rfl (any_of HT_.out (by kernel_rfl)) (fun _ _ _ h => h) (Or.inl ⟨by rfl, ?_⟩) ?_ ?_
                 rotate_left
                 ·intro w'
                  go_simp
                  with_reducible rfl
                 rotate_left
                 ·simp only [Act.put, List.setIfInBounds_toArray, List.set_cons_zero, List.set_cons_succ, i64_w, i32_w]
                  rfl
                 refine pure_ (i := 14) (N := some 96) (v := ?_) (a' := ?_) cellarlaw8_kind.b47 rfl rfl (any_of HT_.out (by kernel_rfl)) (fun _ _ _ h => h) (Or.inl ⟨by rfl, ?_⟩) ?_ ?_
                 rotate_left
                 ·intro w'
                  go_simp
                  with_reducible rfl
                 rotate_left
                 ·simp only [Act.put, List.setIfInBounds_toArray, List.set_cons_zero, List.set_cons_succ, i64_w, i32_w]
                  rfl
                 refine pure_ (i := 15) (N := some 97) (v := ?_) (a' := ?_) cellarlaw8_kind.b48 rfl rfl (any_of HT_.out (by kernel_rfl)) (fun _ _ _ h => h) (Or.inl ⟨by rfl, ?_⟩) ?_ ?_
                 rotate_left
                 ·intro w'
                  go_simp
                  with_reducible rfl
                 rotate_left
                 ·simp only [Act.put, List.setIfInBounds_toArray, List.set_cons_zero, List.set_cons_succ, i64_w, i32_w]
                  rfl
                 refine pure_ (i := 16) (N := some 98) (v := undef) (a' := ?_) cellarlaw8_kind.b49 rfl rfl (any_of HT_.out (by kernel_rfl)) (fun _ _ _ h => h) (Or.inr ⟨by rfl, rfl⟩) ?_ ?_
                 rotate_left
                 ·simp only [Act.put, List.setIfInBounds_toArray, List.set_cons_zero, List.set_cons_succ, i64_w, i32_w]
                  rfl
                 refine pure_ (i := 17) (N := some 99) (v := undef) (a' := ?_) cellarlaw8_kind.b50 rfl rfl (any_of HT_.out (by kernel_rfl)) (fun _ _ _ h => h) (Or.inr ⟨by rfl, rfl⟩) ?_ ?_
                 rotate_left
                 ·simp only [Act.put, List.setIfInBounds_toArray, List.set_cons_zero, List.set_cons_succ, i64_w, i32_w]
                  rfl
                 refine pure_ (i := 18) (N := some 100) (v := undef) (a' := ?_) cellarlaw8_kind.b51 rfl rfl (any_of HT_.out (by kernel_rfl)) (fun _ _ _ h => h) (Or.inr ⟨by rfl, rfl⟩) ?_ ?_
                 rotate_left
                 ·simp only [Act.put, List.setIfInBounds_toArray, List.set_cons_zero, List.set_cons_succ, i64_w, i32_w]
                  rfl
                 refine pure_ (i := 19) (N := some 101) (v := ?_) (a' := ?_) cellarlaw8_kind.b52 rfl rfl (any_of HT_.out (by kernel_rfl)) (fun _ _ _ h => h) (Or.inl ⟨by rfl, ?_⟩) ?_ ?_
                 rotate_left
                 ·intro w'
                  go_simp
                  with_reducible rfl
                 rotate_left
                 ·simp only [Act.put, List.setIfInBounds_toArray, List.set_cons_zero, List.set_cons_succ, i64_w, i32_w]
                  rfl
                 refine done_ (done_of HT_.out (by kernel_rfl)) ?_
                 try go_wp2
                 go_meet
                 case rel => exact ⟨_, (true), (by first | rfl | (simp; done) | (simp [*]; done)), H', ⟨by have := HK1.out; have := HK2.out; have := HJ20.out; first | omega | exact Nat.le_refl _⟩, ⟨by (with_reducible repeat (first | apply Kd.R_alloc | apply Kd.R_drewN | apply Kd.R_drew)); exact HO_5.out⟩, ⟨by (with_reducible repeat (first | apply Kd.R_alloc | apply Kd.R_drewN | apply Kd.R_drew)); exact Kd.R_mono HO243.out (fun _ hk => trivial)⟩, ⟨zb BK225.out⟩, ⟨zb BK233.out⟩, ⟨zw2 HB.out GE225.out GE233.out⟩⟩
               ·rw [if_neg c53] at H
                have c53b0 : (t245 == 0) = false := beq_eq_false_iff_ne.mpr c53
                have c53b1 : (t245 != 0) = true := bne_iff_ne.mpr c53
                (first | rw [c53b0] | (simp only [i64_w, i32_w]; rw [c53b0]) | skip)
                have H' := Aside0.mk H
                clear H
                try go_wp2
                have n0_ := Aside0.mk (Kd.R_drew HO_5.out)
                have n1_ := Aside0.mk (Kd.R_drew HO243.out)
                have n2_ := Aside0.mk (blk_drew BK225.out)
                have n3_ := Aside0.mk (blk_drew BK233.out)
                have n4_ := Aside0.mk (below_drew1 HB.out)
                clear HO_5
                clear HO243
                clear BK225
                clear BK233
                clear HB
                have HO_5 := n0_
                have HO243 := n1_
                have BK225 := n2_
                have BK233 := n3_
                have HB := n4_
                clear n0_ n1_ n2_ n3_ n4_
                refine start_ (n := 20) (S := fun w' => True) (ds := []) cellarlaw8_kind.b32 (by kernel_rfl) rfl rfl trivial (fun hHeld => ?_); refine with_tabW cellarlaw8_kind.tab19 cellarlaw8_kind.bits19 (fun HT_ HW_ => ?_)
                generalize w51.drew = w65 at HO_5 HO243 BK225 BK233 HB hHeld ⊢
                refine pure_ (i := 0) (N := some 82) (v := ?_) (a' := ?_) cellarlaw8_kind.b33 rfl rfl (any_of HT_.out (by kernel_rfl)) (fun _ _ _ h => h) (Or.inl ⟨by rfl, ?_⟩) ?_ ?_
                rotate_left
                ·intro w'
                 go_simp
                 with_reducible rfl
                rotate_left
                ·simp only [Act.put, List.setIfInBounds_toArray, List.set_cons_zero, List.set_cons_succ, i64_w, i32_w]
                 rfl
                refine one_ (i := 1) (N := some 83) cellarlaw8_kind.b34 rfl rfl (one_of HT_.out (by kernel_rfl)) (by decide) (fun K hK => ?_)
                refine goes_ Try.func23 (by kernel_rfl) rfl #[.int .i64 t244] (by rfl) rfl rfl (by (try simp only [List.map_toArray, List.map_cons, List.map_nil]); first | done | rfl | (simp only [List.length_drop, List.length_take]; rfl)) ?_
                with_reducible refine (cellarlaw8_num.calls t244 t245 _ A52.out).mono ?_
                rintro e w' ⟨rfl, ⟨nd, rfl⟩⟩
                refine ⟨_, rfl, ?_⟩
                refine hK.out _ _ trivial (fun hHeld => ?_)
                clear hK K
                refine norm_ (a' := ?_) ?_ ?_
                rotate_left
                ·show Act.put _ (some 83) _ = _
                 simp only [Act.put, List.setIfInBounds_toArray, List.set_cons_zero, List.set_cons_succ, i64_w, i32_w]
                 rfl
                refine pure_ (i := 2) (N := some 84) (v := ?_) (a' := ?_) cellarlaw8_kind.b35 rfl rfl (any_of HT_.out (by kernel_rfl)) (fun _ _ _ h => h) (Or.inl ⟨by rfl, ?_⟩) ?_ ?_
                rotate_left
                ·intro w'
                 go_simp
                 with_reducible rfl
                rotate_left
                ·simp only [Act.put, List.setIfInBounds_toArray, List.set_cons_zero, List.set_cons_succ, i64_w, i32_w]
                 rfl
                refine pure_ (i := 3) (N := some 85) (v := ?_) (a' := ?_) cellarlaw8_kind.b36 rfl rfl (any_of HT_.out (by kernel_rfl)) (fun _ _ _ h => h) (Or.inl ⟨by rfl, ?_⟩) ?_ ?_
                rotate_left
                ·intro w'
                 go_simp
                 with_reducible rfl
                rotate_left
                ·simp only [Act.put, List.setIfInBounds_toArray, List.set_cons_zero, List.set_cons_succ, i64_w, i32_w]
                 rfl
                refine pure_ (i := 4) (N := some 86) (v := undef) (a' := ?_) cellarlaw8_kind.b37 rfl rfl (any_of HT_.out (by kernel_rfl)) (fun _ _ _ h => h) (Or.inr ⟨by rfl, rfl⟩) ?_ ?_
                rotate_left
                ·simp only [Act.put, List.setIfInBounds_toArray, List.set_cons_zero, List.set_cons_succ, i64_w, i32_w]
                 rfl
                refine pure_ (i := 5) (N := some 87) (v := undef) (a' := ?_) cellarlaw8_kind.b38 rfl rfl (any_of HT_.out (by kernel_rfl)) (fun _ _ _ h => h) (Or.inr ⟨by rfl, rfl⟩) ?_ ?_
                rotate_left
                ·simp only [Act.put, List.setIfInBounds_toArray, List.set_cons_zero, List.set_cons_succ, i64_w, i32_w]
                 rfl
                refine pure_ (i := 6) (N := some 88) (v := undef) (a' := ?_) cellarlaw8_kind.b39 rfl rfl (any_of HT_.out (by kernel_rfl)) (fun _ _ _ h => h) (Or.inr ⟨by rfl, rfl⟩) ?_ ?_
                rotate_left
                ·simp only [Act.put, List.setIfInBounds_toArray, List.set_cons_zero, List.set_cons_succ, i64_w, i32_w]
                 rfl
                refine pure_ (i := 7) (N := some 89) (v := undef) (a' := ?_) cellarlaw8_kind.b40 rfl rfl (any_of HT_.out (by kernel_rfl)) (fun _ _ _ h => h) (Or.inr ⟨by rfl, rfl⟩) ?_ ?_
                rotate_left
                ·simp only [Act.put, List.setIfInBounds_toArray, List.set_cons_zero, List.set_cons_succ, i64_w, i32_w]
                 rfl
                refine pure_ (i := 8) (N := some 90) (v := undef) (a' := ?_) cellarlaw8_kind.b53 rfl rfl (any_of HT_.out (by kernel_rfl)) (fun _ _ _ h => h) (Or.inr ⟨by rfl, rfl⟩) ?_ ?_
                rotate_left
                ·simp only [Act.put, List.setIfInBounds_toArray, List.set_cons_zero, List.set_cons_succ, i64_w, i32_w]
                 rfl
                refine pure_ (i := 9) (N := some 91) (v := undef) (a' := ?_) cellarlaw8_kind.b42 rfl rfl (any_of HT_.out (by kernel_rfl)) (fun _ _ _ h => h) (Or.inr ⟨by rfl, rfl⟩) ?_ ?_
                rotate_left
                ·simp only [Act.put, List.setIfInBounds_toArray, List.set_cons_zero, List.set_cons_succ, i64_w, i32_w]
                 rfl
                refine pure_ (i := 10) (N := some 92) (v := undef) (a' := ?_) cellarlaw8_kind.b43 rfl rfl (any_of HT_.out (by kernel_rfl)) (fun _ _ _ h => h) (Or.inr ⟨by rfl, rfl⟩) ?_ ?_
                rotate_left
                ·simp only [Act.put, List.setIfInBounds_toArray, List.set_cons_zero, List.set_cons_succ, i64_w, i32_w]
                 rfl
                refine pure_ (i := 11) (N := some 93) (v := undef) (a' := ?_) cellarlaw8_kind.b44 rfl rfl (any_of HT_.out (by kernel_rfl)) (fun _ _ _ h => h) (Or.inr ⟨by rfl, rfl⟩) ?_ ?_
                rotate_left
                ·simp only [Act.put, List.setIfInBounds_toArray, List.set_cons_zero, List.set_cons_succ, i64_w, i32_w]
                 rfl
                refine pure_ (i := 12) (N := some 94) (v := undef) (a' := ?_) cellarlaw8_kind.b45 rfl rfl (any_of HT_.out (by kernel_rfl)) (fun _ _ _ h => h) (Or.inr ⟨by rfl, rfl⟩) ?_ ?_
                rotate_left
                ·simp only [Act.put, List.setIfInBounds_toArray, List.set_cons_zero, List.set_cons_succ, i64_w, i32_w]
                 rfl
                refine pure_ (i := 13) (N := some 95) (v := undef) (a' := ?_) cellarlaw8_kind.b46 rfl rfl (any_of HT_.out (by kernel_rfl)) (fun _ _ _ h => h) (Or.inr ⟨by rfl, rfl⟩) ?_ ?_
                rotate_left
                ·simp only [Act.put, List.setIfInBounds_toArray, List.set_cons_zero, List.set_cons_succ, i64_w, i32_w]
                 rfl
                refine pure_ (i := 14) (N := some 96) (v := ?_) (a' := ?_) cellarlaw8_kind.b47 rfl rfl (any_of HT_.out (by kernel_rfl)) (fun _ _ _ h => h) (Or.inl ⟨by rfl, ?_⟩) ?_ ?_
                rotate_left
                ·intro w'
                 go_simp
                 with_reducible rfl
                rotate_left
                ·simp only [Act.put, List.setIfInBounds_toArray, List.set_cons_zero, List.set_cons_succ, i64_w, i32_w]
                 rfl
                refine pure_ (i := 15) (N := some 97) (v := ?_) (a' := ?_) cellarlaw8_kind.b48 rfl rfl (any_of HT_.out (by kernel_rfl)) (fun _ _ _ h => h) (Or.inl ⟨by rfl, ?_⟩) ?_ ?_
                rotate_left
                ·intro w'
                 go_simp
                 with_reducible rfl
                rotate_left
                ·simp only [Act.put, List.setIfInBounds_toArray, List.set_cons_zero, List.set_cons_succ, i64_w, i32_w]
                 rfl
                refine pure_ (i := 16) (N := some 98) (v := undef) (a' := ?_) cellarlaw8_kind.b49 rfl rfl (any_of HT_.out (by kernel_rfl)) (fun _ _ _ h => h) (Or.inr ⟨by rfl, rfl⟩) ?_ ?_
                rotate_left
                ·simp only [Act.put, List.setIfInBounds_toArray, List.set_cons_zero, List.set_cons_succ, i64_w, i32_w]
                 rfl
                refine pure_ (i := 17) (N := some 99) (v := undef) (a' := ?_) cellarlaw8_kind.b50 rfl rfl (any_of HT_.out (by kernel_rfl)) (fun _ _ _ h => h) (Or.inr ⟨by rfl, rfl⟩) ?_ ?_
                rotate_left
                ·simp only [Act.put, List.setIfInBounds_toArray, List.set_cons_zero, List.set_cons_succ, i64_w, i32_w]
                 rfl
                refine pure_ (i := 18) (N := some 100) (v := undef) (a' := ?_) cellarlaw8_kind.b51 rfl rfl (any_of HT_.out (by kernel_rfl)) (fun _ _ _ h => h) (Or.inr ⟨by rfl, rfl⟩) ?_ ?_
                rotate_left
                ·simp only [Act.put, List.setIfInBounds_toArray, List.set_cons_zero, List.set_cons_succ, i64_w, i32_w]
                 rfl
                refine pure_ (i := 19) (N := some 101) (v := ?_) (a' := ?_) cellarlaw8_kind.b52 rfl rfl (any_of HT_.out (by kernel_rfl)) (fun _ _ _ h => h) (Or.inl ⟨by rfl, ?_⟩) ?_ ?_
                rotate_left
                ·intro w'
                 go_simp
                 with_reducible rfl
                rotate_left
                ·simp only [Act.put, List.setIfInBounds_toArray, List.set_cons_zero, List.set_cons_succ, i64_w, i32_w]
                 rfl
                refine done_ (done_of HT_.out (by kernel_rfl)) ?_
                try go_wp2
                go_meet
                case rel => exact ⟨_, (true), (by first | rfl | (simp; done) | (simp [*]; done)), H', ⟨by have := HK1.out; have := HK2.out; have := HJ20.out; first | omega | exact Nat.le_refl _⟩, ⟨by (with_reducible repeat (first | apply Kd.R_alloc | apply Kd.R_drewN | apply Kd.R_drew)); exact HO_5.out⟩, ⟨by (with_reducible repeat (first | apply Kd.R_alloc | apply Kd.R_drewN | apply Kd.R_drew)); exact HO243.out⟩, ⟨zb BK225.out⟩, ⟨zb BK233.out⟩, ⟨zw2 HB.out GE225.out GE233.out⟩⟩
              case rest => as_aux_lemma =>
               clear HC49
               try clear c2
               try clear p2
               try clear q2
               try clear hx2
               try clear c3
               try clear c5
               try clear c23
               try clear c24
               try clear p24
               try clear q24
               try clear hx24
               try clear c30
               try clear c53
               try clear c53b0
               try clear c53b1
               try clear c56
               try clear hx246_0
               try clear hx246_1
               try clear p246
               try clear q246
               obtain ⟨kq, x101_48, rfl, HA, HJ48, HO_5, HO_10, BK225, BK233, HB⟩ := hcut
               cases kq with
               | zero => exact absurd HA.out (by simp [cellarlaw8_kind.j3])
               | succ kj48 =>
                have H := HA.out
                clear HA
                simp only [cellarlaw8_kind.j3] at H
                by_cases c66 : x101_48 = true
                ·subst c66
                 have H1 : (some false) = some r := by rw [if_pos rfl] at H; exact H
                 clear H
                 have H := H1
                 clear H1
                 obtain rfl := Option.some.inj H
                 go_wp2
                 go_ret
                 exact ⟨by first | rfl | (simp [errW_none, errW_some] <;> rfl) | (simp [*, errW_none, errW_some] <;> rfl), zw2 HB.out GE225.out GE233.out⟩
                ·replace c66 := Bool.eq_false_iff.mpr c66
                 subst c66
                 have H1 : (cellarlaw8_kind.l2 kj48 a1 t227 x6_1 x7_2 t241 0 x234000_20 x234001_20 x234002_20 x234003_20) = some r := by rw [if_neg (show ¬ (false = true) by decide)] at H; exact H
                 clear H
                 have H := H1
                 clear H1
                 have H' := Aside0.mk H
                 clear H
                 go_wp2
                 go_loopg [12] kj48 (fun kq v12 w' => ∃ (x10_5 : List (S51)) (x12_5 : Int), v12 = .int .i64 x12_5 ∧ Aside0 (cellarlaw8_kind.l2 kq a1 t227 x6_1 x7_2 x10_5 x12_5 x234000_20 x234001_20 x234002_20 x234003_20 = some r) ∧ Aside0 (kq ≤ kj48) ∧ Aside0 (Kd.R k38 38 w' w.heap.size (fun _ => True) (.slice (some ad231) t227.length co18) t227) ∧ Aside0 (Kd.R k51 51 w' w.heap.size (fun _ => True) v242 x10_5) ∧ Aside0 (w'.heap[gb225]? = some (.cells #[(.slice A0_0 l0_0.length c0_0), (.slice A0_1 l0_1.length c0_1), (.slice A0_2 l0_2.length c0_2)] 26 (0, 0))) ∧ Aside0 (w'.heap[gb233]? = some (.cells #[.bool x234000_20, .int .i64 x234001_20, .int .i64 x234002_20, .int .i64 x234003_20] 33 (0, 0))) ∧ Aside0 (Below w.heap.size w w'))
                 case atStart => exact ⟨(t241), (0), (by first | rfl | (simp; done) | (simp [*]; done)), H', ⟨Nat.le_refl _⟩, ⟨by (with_reducible repeat (first | apply Kd.R_alloc | apply Kd.R_drewN | apply Kd.R_drew)); exact HO_5.out⟩, ⟨by (with_reducible repeat (first | apply Kd.R_alloc | apply Kd.R_drewN | apply Kd.R_drew)); exact HO_10.out⟩, ⟨zb BK225.out⟩, ⟨zb BK233.out⟩, ⟨zw2 HB.out GE225.out GE233.out⟩⟩
                 case round =>
                  clear H'
                  try clear c2
                  try clear p2
                  try clear q2
                  try clear hx2
                  try clear c3
                  try clear c5
                  try clear c6
                  try clear c23
                  try clear c24
                  try clear p24
                  try clear q24
                  try clear hx24
                  try clear c30
                  try clear c53
                  try clear c53b0
                  try clear c53b1
                  try clear c56
                  try clear c66
                  try clear hx246_0
                  try clear hx246_1
                  try clear p2
                  try clear p24
                  try clear p246
                  try clear q2
                  try clear q24
                  try clear q246
                  obtain ⟨x10_5, x12_5, rfl, HA, HK5, HO_5, HO_10, BK225, BK233, HB⟩ := hrel
                  cases gk with
                  | zero => exact absurd HA.out (by simp [cellarlaw8_kind.l2])
                  | succ k5 =>
                   have H := HA.out
                   clear HA
                   simp only [cellarlaw8_kind.l2] at H
                   by_cases c67 : x12_5 < 3
                   ·rw [if_pos c67] at H
                    have c67b0 : decide (x12_5 < 3) = true := decide_eq_true c67
                    clear c67
                    replace H := Option.bind_eq_some_iff.mp H
                    obtain ⟨t251, A680, H⟩ := H
                    replace H : (if x12_5 = 1 then (if (t251.length : Int) = 0 then (none) else (if 0 ≤ (Int.tmod x7_2 (t251.length : Int)) then (if (Int.tmod x7_2 (t251.length : Int)) < (t251.length : Int) then (cellarlaw8_kind.j5 k5 a1 t227 x6_1 x7_2 x10_5 x12_5 (t251.set ((Int.tmod x7_2 (t251.length : Int)) : Int).toNat (⟨2, 0, wrap64 (1 + (Int.tmod x7_2 5)), Int.tmod x7_2 9, Int.tmod x7_2 4⟩ : S51)) x234000_20 x234001_20 x234002_20 x234003_20) else (none)) else (none))) else (if x12_5 = 2 then (if (t251.length : Int) = 0 then (none) else (if 0 ≤ (Int.tmod x7_2 (t251.length : Int)) then (if (Int.tmod x7_2 (t251.length : Int)) < (t251.length : Int) then (cellarlaw8_kind.j5 k5 a1 t227 x6_1 x7_2 x10_5 x12_5 (t251.set ((Int.tmod x7_2 (t251.length : Int)) : Int).toNat (⟨1, x7_2, 0, 0, 0⟩ : S51)) x234000_20 x234001_20 x234002_20 x234003_20) else (none)) else (none))) else (cellarlaw8_kind.j5 k5 a1 t227 x6_1 x7_2 x10_5 x12_5 t251 x234000_20 x234001_20 x234002_20 x234003_20))) = some r := H
                    have A68 := Aside0.mk A680
                    clear A680
                    have HC69 := Aside0.mk H
                    clear H
                    obtain ⟨Ao70, co70, eo70⟩ := Kd.R_slice HO_10.out
                    subst eo70
                    go_upto_block 6 with (first | ((with_reducible refine gate_callee (f := 16) rfl ?_); refine goesL_ (some 107) rfl rfl Try.func16 (by kernel_rfl) rfl #[.slice Ao70 x10_5.length co70] rfl (by (try simp only [List.map_toArray, List.map_cons, List.map_nil]); first | done | rfl | (simp only [List.length_drop, List.length_take]; rfl)) ?_; (with_reducible refine (cellarref0_CopyBytes.calls k5 _ _ x10_5 t251 _ ?side1 ?side2 A68.out).mono ?_); (case side1 => repeat (first | exact (Kd.R_reads' HO_10.out).2.2 | (with_reducible refine Kd.C_alloc ?_ _) | (with_reducible refine Kd.C_drewN ?_ _) | (with_reducible refine Kd.C_drew ?_))); (case side2 => exact (Kd.R_reads' HO_10.out).2.1); rintro e w71 ⟨v252, rfl, ho0, hb⟩; refine ⟨_, rfl, ?_⟩; have n0_ := Aside0.mk (Kd.R_below (by (with_reducible repeat (first | apply Kd.R_alloc | apply Kd.R_drewN | apply Kd.R_drew)); exact HO_5.out) hb); have n1_ := Aside0.mk (Kd.R_elder' (by (with_reducible repeat (first | apply Kd.R_alloc | apply Kd.R_drewN | apply Kd.R_drew)); exact HO_10.out) (Kd.R_base ho0) hb); have n2_ := Aside0.mk (Kd.R_lower (Kd.R_new' ho0 (Kd.R_lt (by (with_reducible repeat (first | apply Kd.R_alloc | apply Kd.R_drewN | apply Kd.R_drew)); exact HO_10.out))) (below_size (zw2 HB.out GE225.out GE233.out))); have n3_ := Aside0.mk (blk_below (g := gb225) (o := .cells #[.slice A0_0 l0_0.length c0_0, .slice A0_1 l0_1.length c0_1, .slice A0_2 l0_2.length c0_2] 26 (0, 0)) (zb BK225.out) hb); have n4_ := Aside0.mk (blk_below (g := gb233) (o := .cells #[.bool x234000_20, .int .i64 x234001_20, .int .i64 x234002_20, .int .i64 x234003_20] 33 (0, 0)) (zb BK233.out) hb); have n5_ := Aside0.mk (below_step (zw2 HB.out GE225.out GE233.out) hb); clear HO_5; clear HO_10; clear BK225; clear BK233; clear HB; have HO_5 := n0_; have HO_10 := n1_; have HO253 := n2_; have BK225 := n3_; have BK233 := n4_; have HB := n5_; clear n0_ n1_ n2_ n3_ n4_ n5_; (try clear hb); (try clear hb2); (try clear hk); (try clear hi); (try clear ho0)))
                    (try simp only [Act.put, List.setIfInBounds_toArray, List.set_cons_zero, List.set_cons_succ])
                    go_cut [] (fun wc => ∃ (kq : Nat) (x13_68 : List (S51)), Aside0 (cellarlaw8_kind.j5 kq a1 t227 x6_1 x7_2 x10_5 x12_5 x13_68 x234000_20 x234001_20 x234002_20 x234003_20 = some r) ∧ Aside0 (kq ≤ k5) ∧ Aside0 (Kd.R k38 38 wc w.heap.size (fun _ => True) (.slice (some ad231) t227.length co18) t227) ∧ Aside0 (Kd.R k51 51 wc w.heap.size (fun k_ => some k_ ≠ (v252 : Value).ownBlock) (.slice Ao70 x10_5.length co70) x10_5) ∧ Aside0 (Kd.R k51 51 wc w.heap.size (fun k_ => some k_ ≠ ((.slice Ao70 x10_5.length co70) : Value).ownBlock) v252 x13_68) ∧ Aside0 (wc.heap[gb225]? = some (.cells #[(.slice A0_0 l0_0.length c0_0), (.slice A0_1 l0_1.length c0_1), (.slice A0_2 l0_2.length c0_2)] 26 (0, 0))) ∧ Aside0 (wc.heap[gb233]? = some (.cells #[.bool x234000_20, .int .i64 x234001_20, .int .i64 x234002_20, .int .i64 x234003_20] 33 (0, 0))) ∧ Aside0 (Below w.heap.size w wc))
                    case first =>
                     have H := HC69.out
                     clear HC69
                     by_cases c72 : x12_5 = 1
                     ·rw [if_pos c72] at H
                      have c72b0 : (x12_5 == 1) = true := beq_iff_eq.mpr c72
                      have c72b1 : (x12_5 != 1) = false := bne_eq_false_iff_eq.mpr c72
                      clear c72
                      (first | rw [c72b0] | (simp only [i64_w, i32_w]; rw [c72b0]) | skip)
                      by_cases c73 : (t251.length : Int) = 0
                      ·rw [if_pos c73] at H
                       exact absurd H (by simp)
                      ·rw [if_neg c73] at H
                       have c73b0 : ((t251.length : Int) == 0) = false := beq_eq_false_iff_ne.mpr c73
                       have c73b1 : ((t251.length : Int) != 0) = true := bne_iff_ne.mpr c73
                       have c73b2 : ¬ (t251 = []) := fun h_ => c73 (by rw [h_]; rfl)
                       obtain ⟨ji74, hji74⟩ : ∃ j_ : Int, (Int.tmod x7_2 (t251.length : Int)) = j_ := ⟨_, rfl⟩
                       replace H : (if 0 ≤ (ji74) then (if (ji74) < (t251.length : Int) then (cellarlaw8_kind.j5 k5 a1 t227 x6_1 x7_2 x10_5 x12_5 (t251.set ((ji74) : Int).toNat (⟨2, 0, wrap64 (1 + (Int.tmod x7_2 5)), Int.tmod x7_2 9, Int.tmod x7_2 4⟩ : S51)) x234000_20 x234001_20 x234002_20 x234003_20) else (none)) else (none)) = some r := by first | (rw [hji74] at H; exact H) | (simp only [hji74] at H ⊢; exact H)
                       by_cases c75 : 0 ≤ (ji74)
                       ·rw [if_pos c75] at H
                        have c75b0 : decide (0 ≤ (ji74)) = true := decide_eq_true c75
                        clear c75
                        by_cases c76 : (ji74) < (t251.length : Int)
                        ·rw [if_pos c76] at H
                         have c76b0 : decide ((ji74) < (t251.length : Int)) = true := decide_eq_true c76
                         clear c76
                         obtain ⟨y254, hy254⟩ : ∃ y_ : List (S51), y_ = (t251.set ((ji74) : Int).toNat (⟨2, 0, wrap64 (1 + (Int.tmod x7_2 5)), Int.tmod x7_2 9, Int.tmod x7_2 4⟩ : S51)) := ⟨_, rfl⟩
                         replace H : (cellarlaw8_kind.j5 k5 a1 t227 x6_1 x7_2 x10_5 x12_5 y254 x234000_20 x234001_20 x234002_20 x234003_20) = some r := by first | (rw [hy254]; with_reducible exact H) | (have H2_ := (Option.bind_some _ _).symm.trans H; rw [hy254]; with_reducible exact H2_) | (have H2_ := (Option.bind_some _ _).symm.trans H; with_reducible exact H2_) | with_reducible exact H | (rw [hy254]; exact H) | exact H
                         have Ny254 := Aside0.mk hy254
                         clear hy254
                         have H' := Aside0.mk H
                         clear H
                         obtain ⟨Ao78, co78, eo78⟩ := Kd.R_slice HO253.out
                         subst eo78
                         have p77 : 0 ≤ ((ji74) : Int) := zdec
                         have q77 : ((ji74) : Int) < ((t251.length : Int) : Int) := zdec
                         obtain ⟨go77, co77, eo77, gb77, gl77, cl77, HG77⟩ := Kd.R_form HO253.out (by omega)
                         (first | cases eo77 | (injection eo77 with ea_ en_ ec_; (first | subst ea_ | (injection ea_ with ea_; subst ea_)); subst ec_; clear en_))
                         have GB77 := Aside0.mk gb77
                         have GG77 := Aside0.mk HG77
                         clear gb77 gl77 HG77
                         obtain ⟨ce77, hcl77, hM77, hcc77, hfr77⟩ := Kd.R_elem HO253.out z51 ((ji74) : Int) p77 q77
                         obtain rfl := k51_openM hM77
                         have hx77_0 : w71.cell? ⟨go77, ((ji74) : Int).toNat * 5, none⟩ = some (.int .i64 ((rd_T51 t251 (ji74)).f0)) := hcc77 0 _ rfl
                         have hx77_1 : w71.cell? ⟨go77, ((ji74) : Int).toNat * 5 + 1, none⟩ = some (.int .i64 ((rd_T51 t251 (ji74)).f1)) := hcc77 1 _ rfl
                         have hx77_2 : w71.cell? ⟨go77, ((ji74) : Int).toNat * 5 + 2, none⟩ = some (.int .i64 ((rd_T51 t251 (ji74)).f2)) := hcc77 2 _ rfl
                         have hx77_3 : w71.cell? ⟨go77, ((ji74) : Int).toNat * 5 + 3, none⟩ = some (.int .i64 ((rd_T51 t251 (ji74)).f3)) := hcc77 3 _ rfl
                         have hx77_4 : w71.cell? ⟨go77, ((ji74) : Int).toNat * 5 + 4, none⟩ = some (.int .i64 ((rd_T51 t251 (ji74)).f4)) := hcc77 4 _ rfl
                         have hf77_0 : w71.frozen? ⟨go77, ((ji74) : Int).toNat * 5, none⟩ = false := hfr77 0
                         have hf77_1 : w71.frozen? ⟨go77, ((ji74) : Int).toNat * 5 + 1, none⟩ = false := hfr77 1
                         have hf77_2 : w71.frozen? ⟨go77, ((ji74) : Int).toNat * 5 + 2, none⟩ = false := hfr77 2
                         have hf77_3 : w71.frozen? ⟨go77, ((ji74) : Int).toNat * 5 + 3, none⟩ = false := hfr77 3
                         have hf77_4 : w71.frozen? ⟨go77, ((ji74) : Int).toNat * 5 + 4, none⟩ = false := hfr77 4
                         clear hcl77 hcc77 hfr77 hM77
                         replace p77 := eq_true p77
                         replace q77 := eq_true q77
                         have n_ := Aside0.mk (Kd.R_mono (ok' := (fun k_ => some k_ ≠ (.slice Ao70 x10_5.length co70 : Value).ownBlock)) HO253.out (fun k_ hk => hk.2))
                         clear HO253
                         have HO253 := n_
                         clear n_
                         have HX79 := Aside0.mk (show Kd.R k51 51 w71 w.heap.size (fun k_ => some k_ ≠ (.slice Ao70 x10_5.length co70 : Value).ownBlock) (.slice (some ⟨go77, 0, none⟩) t251.length co78) t251 from (by (with_reducible repeat (first | apply Kd.R_alloc | apply Kd.R_drewN | apply Kd.R_drew)); exact HO253.out))
                         obtain ⟨ce79, hcl79, hM79, hcc79, hfr79⟩ := Kd.R_elem HX79.out z51 ((ji74) : Int) (zdec) (by have h_ : ((ji74) : Int) < ((t251.length : Int) : Int) := zdec; first | exact h_ | (have e_ := (Kd.R_reads' HO253.out).1; omega) | simpa using h_)
                         obtain rfl := k51_openM hM79
                         have HP79 := Kd.R_seg HX79.out ((ji74) : Int) (zdec) (by have h_ : ((ji74) : Int) < ((t251.length : Int) : Int) := zdec; first | exact h_ | (have e_ := (Kd.R_reads' HO253.out).1; omega) | simpa using h_) (seg := [.int .i64 2, .int .i64 0, .int .i64 (wrap64 (1 + (Int.tmod x7_2 5))), .int .i64 (Int.tmod x7_2 9), .int .i64 (Int.tmod x7_2 4)]) (j := 0) hcl79 hcc79 (show 5 ≤ 5 from by decide) (x' := (⟨2, 0, wrap64 (1 + (Int.tmod x7_2 5)), Int.tmod x7_2 9, Int.tmod x7_2 4⟩ : S51)) (k51_mkM _ _ _ (⟨2, 0, wrap64 (1 + (Int.tmod x7_2 5)), Int.tmod x7_2 9, Int.tmod x7_2 4⟩ : S51) ) (fun _ hk => hk)
                         have hx79_0 := hcc79 0 _ rfl
                         (try simp only [show (k51).sz = 5 from rfl, Nat.mul_one, Nat.add_zero] at hx79_0)
                         have hf79_0 := hfr79 0
                         (try simp only [show (k51).sz = 5 from rfl, Nat.mul_one, Nat.add_zero] at hf79_0)
                         have hx79_1 := hcc79 1 _ rfl
                         (try simp only [show (k51).sz = 5 from rfl, Nat.mul_one, Nat.add_zero] at hx79_1)
                         have hf79_1 := hfr79 1
                         (try simp only [show (k51).sz = 5 from rfl, Nat.mul_one, Nat.add_zero] at hf79_1)
                         have hx79_2 := hcc79 2 _ rfl
                         (try simp only [show (k51).sz = 5 from rfl, Nat.mul_one, Nat.add_zero] at hx79_2)
                         have hf79_2 := hfr79 2
                         (try simp only [show (k51).sz = 5 from rfl, Nat.mul_one, Nat.add_zero] at hf79_2)
                         have hx79_3 := hcc79 3 _ rfl
                         (try simp only [show (k51).sz = 5 from rfl, Nat.mul_one, Nat.add_zero] at hx79_3)
                         have hf79_3 := hfr79 3
                         (try simp only [show (k51).sz = 5 from rfl, Nat.mul_one, Nat.add_zero] at hf79_3)
                         have hx79_4 := hcc79 4 _ rfl
                         (try simp only [show (k51).sz = 5 from rfl, Nat.mul_one, Nat.add_zero] at hx79_4)
                         have hf79_4 := hfr79 4
                         (try simp only [show (k51).sz = 5 from rfl, Nat.mul_one, Nat.add_zero] at hf79_4)
                         clear hcl79 hcc79 hfr79 hM79
                         go_wp2_with (first | ((with_reducible refine gate_store (t := 51) (p := 124) rfl ?_); refine store_event (t := 51) (p := 124) (v := ?vo_w80) (w1 := (((((w71.setCell ⟨go77, ((ji74) : Int).toNat * 5, none⟩ (.int .i64 2)).setCell ⟨go77, ((ji74) : Int).toNat * 5 + 1, none⟩ (.int .i64 0)).setCell ⟨go77, ((ji74) : Int).toNat * 5 + 2, none⟩ (.int .i64 (wrap64 (1 + (Int.tmod x7_2 5))))).setCell ⟨go77, ((ji74) : Int).toNat * 5 + 3, none⟩ (.int .i64 (Int.tmod x7_2 9))).setCell ⟨go77, ((ji74) : Int).toNat * 5 + 4, none⟩ (.int .i64 (Int.tmod x7_2 4)))) ?hg ?ho ?hn ?hr ?_; (case ho => rfl); (case hg => rfl); (case hn => rfl); (case hr => first | (go_simp; done) | (go_simp; rfl)); intro w80 hw; have hg : w71.grownBy w80 (some go77) := (by rw [hw]; exact HP79.2); have hp_ : Kd.R k51 51 w80 w.heap.size (fun k_ => some k_ ≠ (.slice Ao70 x10_5.length co70 : Value).ownBlock) (.slice (some ⟨go77, 0, none⟩) t251.length co78) y254 := (by rw [hw, Ny254.out]; exact HP79.1); clear HP79; have n0_ := Aside0.mk (Kd.R_over' (v := (.slice (some ⟨go77, 0, none⟩) t251.length co78)) (by (with_reducible repeat (first | apply Kd.R_alloc | apply Kd.R_drewN | apply Kd.R_drew)); exact HO_5.out) (Kd.R_typed HO253.out) (by decide) hg); have n1_ := Aside0.mk (Kd.R_after (v := (.slice (some ⟨go77, 0, none⟩) t251.length co78)) (v1 := (.slice (some ⟨go77, 0, none⟩) t251.length co78)) (ok := (fun _ => True)) (by (with_reducible repeat (first | apply Kd.R_alloc | apply Kd.R_drewN | apply Kd.R_drew)); exact HO_10.out) hg (.inl rfl)); have n2_ := Aside0.mk (blk_grown (g := gb225) (o := .cells #[.slice A0_0 l0_0.length c0_0, .slice A0_1 l0_1.length c0_1, .slice A0_2 l0_2.length c0_2] 26 (0, 0)) (zb BK225.out) hg (Kd.R_ne HO253.out BK225.out (by decide))); have n3_ := Aside0.mk (blk_grown (g := gb233) (o := .cells #[.bool x234000_20, .int .i64 x234001_20, .int .i64 x234002_20, .int .i64 x234003_20] 33 (0, 0)) (zb BK233.out) hg (Kd.R_ne HO253.out BK233.out (by decide))); have n4_ := Aside0.mk (hp_); have n5_ := Aside0.mk ((by rw [hw]; exact below_set (below_set (below_set (below_set (below_set (HB.out) GB77.out) GB77.out) GB77.out) GB77.out) GB77.out : Below w.heap.size w w80)); clear HO_5; clear HO_10; clear BK225; clear BK233; clear HO253; clear HB; have HO_5 := n0_; have HO_10 := n1_; have BK225 := n2_; have BK233 := n3_; have HO253 := n4_; have HB := n5_; clear n0_ n1_ n2_ n3_ n4_ n5_; clear hg hw hp_))
                         go_meet
                         case rel => exact ⟨_, (y254), H', ⟨by have := HK1.out; have := HK2.out; have := HJ20.out; have := HJ48.out; have := HK5.out; first | omega | exact Nat.le_refl _⟩, ⟨by (with_reducible repeat (first | apply Kd.R_alloc | apply Kd.R_drewN | apply Kd.R_drew)); exact HO_5.out⟩, ⟨by (with_reducible repeat (first | apply Kd.R_alloc | apply Kd.R_drewN | apply Kd.R_drew)); exact Kd.R_mono HO_10.out (fun _ hk => hk.2)⟩, ⟨by (with_reducible repeat (first | apply Kd.R_alloc | apply Kd.R_drewN | apply Kd.R_drew)); exact HO253.out⟩, ⟨zb BK225.out⟩, ⟨zb BK233.out⟩, ⟨zw2 HB.out GE225.out GE233.out⟩⟩
                        ·rw [if_neg c76] at H
                         exact absurd H (by simp)
                       ·rw [if_neg c75] at H
                        exact absurd H (by simp)
                     ·rw [if_neg c72] at H
                      have c72b0 : (x12_5 == 1) = false := beq_eq_false_iff_ne.mpr c72
                      have c72b1 : (x12_5 != 1) = true := bne_iff_ne.mpr c72
                      (first | rw [c72b0] | (simp only [i64_w, i32_w]; rw [c72b0]) | skip)
                      by_cases c81 : x12_5 = 2
                      ·rw [if_pos c81] at H
                       have c81b0 : (x12_5 == 2) = true := beq_iff_eq.mpr c81
                       have c81b1 : (x12_5 != 2) = false := bne_eq_false_iff_eq.mpr c81
                       clear c81
                       by_cases c82 : (t251.length : Int) = 0
                       ·rw [if_pos c82] at H
                        exact absurd H (by simp)
                       ·rw [if_neg c82] at H
                        have c82b0 : ((t251.length : Int) == 0) = false := beq_eq_false_iff_ne.mpr c82
                        have c82b1 : ((t251.length : Int) != 0) = true := bne_iff_ne.mpr c82
                        have c82b2 : ¬ (t251 = []) := fun h_ => c82 (by rw [h_]; rfl)
                        obtain ⟨ji83, hji83⟩ : ∃ j_ : Int, (Int.tmod x7_2 (t251.length : Int)) = j_ := ⟨_, rfl⟩
                        replace H : (if 0 ≤ (ji83) then (if (ji83) < (t251.length : Int) then (cellarlaw8_kind.j5 k5 a1 t227 x6_1 x7_2 x10_5 x12_5 (t251.set ((ji83) : Int).toNat (⟨1, x7_2, 0, 0, 0⟩ : S51)) x234000_20 x234001_20 x234002_20 x234003_20) else (none)) else (none)) = some r := by first | (rw [hji83] at H; exact H) | (simp only [hji83] at H ⊢; exact H)
                        by_cases c84 : 0 ≤ (ji83)
                        ·rw [if_pos c84] at H
                         have c84b0 : decide (0 ≤ (ji83)) = true := decide_eq_true c84
                         clear c84
                         by_cases c85 : (ji83) < (t251.length : Int)
                         ·rw [if_pos c85] at H
                          have c85b0 : decide ((ji83) < (t251.length : Int)) = true := decide_eq_true c85
                          clear c85
                          obtain ⟨y255, hy255⟩ : ∃ y_ : List (S51), y_ = (t251.set ((ji83) : Int).toNat (⟨1, x7_2, 0, 0, 0⟩ : S51)) := ⟨_, rfl⟩
                          replace H : (cellarlaw8_kind.j5 k5 a1 t227 x6_1 x7_2 x10_5 x12_5 y255 x234000_20 x234001_20 x234002_20 x234003_20) = some r := by first | (rw [hy255]; with_reducible exact H) | (have H2_ := (Option.bind_some _ _).symm.trans H; rw [hy255]; with_reducible exact H2_) | (have H2_ := (Option.bind_some _ _).symm.trans H; with_reducible exact H2_) | with_reducible exact H | (rw [hy255]; exact H) | exact H
                          have Ny255 := Aside0.mk hy255
                          clear hy255
                          have H' := Aside0.mk H
                          clear H
                          obtain ⟨Ao87, co87, eo87⟩ := Kd.R_slice HO253.out
                          subst eo87
                          have p86 : 0 ≤ ((ji83) : Int) := zdec
                          have q86 : ((ji83) : Int) < ((t251.length : Int) : Int) := zdec
                          obtain ⟨go86, co86, eo86, gb86, gl86, cl86, HG86⟩ := Kd.R_form HO253.out (by omega)
                          (first | cases eo86 | (injection eo86 with ea_ en_ ec_; (first | subst ea_ | (injection ea_ with ea_; subst ea_)); subst ec_; clear en_))
                          have GB86 := Aside0.mk gb86
                          have GG86 := Aside0.mk HG86
                          clear gb86 gl86 HG86
                          obtain ⟨ce86, hcl86, hM86, hcc86, hfr86⟩ := Kd.R_elem HO253.out z51 ((ji83) : Int) p86 q86
                          obtain rfl := k51_openM hM86
                          have hx86_0 : w71.cell? ⟨go86, ((ji83) : Int).toNat * 5, none⟩ = some (.int .i64 ((rd_T51 t251 (ji83)).f0)) := hcc86 0 _ rfl
                          have hx86_1 : w71.cell? ⟨go86, ((ji83) : Int).toNat * 5 + 1, none⟩ = some (.int .i64 ((rd_T51 t251 (ji83)).f1)) := hcc86 1 _ rfl
                          have hx86_2 : w71.cell? ⟨go86, ((ji83) : Int).toNat * 5 + 2, none⟩ = some (.int .i64 ((rd_T51 t251 (ji83)).f2)) := hcc86 2 _ rfl
                          have hx86_3 : w71.cell? ⟨go86, ((ji83) : Int).toNat * 5 + 3, none⟩ = some (.int .i64 ((rd_T51 t251 (ji83)).f3)) := hcc86 3 _ rfl
                          have hx86_4 : w71.cell? ⟨go86, ((ji83) : Int).toNat * 5 + 4, none⟩ = some (.int .i64 ((rd_T51 t251 (ji83)).f4)) := hcc86 4 _ rfl
                          have hf86_0 : w71.frozen? ⟨go86, ((ji83) : Int).toNat * 5, none⟩ = false := hfr86 0
                          have hf86_1 : w71.frozen? ⟨go86, ((ji83) : Int).toNat * 5 + 1, none⟩ = false := hfr86 1
                          have hf86_2 : w71.frozen? ⟨go86, ((ji83) : Int).toNat * 5 + 2, none⟩ = false := hfr86 2
                          have hf86_3 : w71.frozen? ⟨go86, ((ji83) : Int).toNat * 5 + 3, none⟩ = false := hfr86 3
                          have hf86_4 : w71.frozen? ⟨go86, ((ji83) : Int).toNat * 5 + 4, none⟩ = false := hfr86 4
                          clear hcl86 hcc86 hfr86 hM86
                          replace p86 := eq_true p86
                          replace q86 := eq_true q86
                          have n_ := Aside0.mk (Kd.R_mono (ok' := (fun k_ => some k_ ≠ (.slice Ao70 x10_5.length co70 : Value).ownBlock)) HO253.out (fun k_ hk => hk.2))
                          clear HO253
                          have HO253 := n_
                          clear n_
                          have HX88 := Aside0.mk (show Kd.R k51 51 w71 w.heap.size (fun k_ => some k_ ≠ (.slice Ao70 x10_5.length co70 : Value).ownBlock) (.slice (some ⟨go86, 0, none⟩) t251.length co87) t251 from (by (with_reducible repeat (first | apply Kd.R_alloc | apply Kd.R_drewN | apply Kd.R_drew)); exact HO253.out))
                          obtain ⟨ce88, hcl88, hM88, hcc88, hfr88⟩ := Kd.R_elem HX88.out z51 ((ji83) : Int) (zdec) (by have h_ : ((ji83) : Int) < ((t251.length : Int) : Int) := zdec; first | exact h_ | (have e_ := (Kd.R_reads' HO253.out).1; omega) | simpa using h_)
                          obtain rfl := k51_openM hM88
                          have HP88 := Kd.R_seg HX88.out ((ji83) : Int) (zdec) (by have h_ : ((ji83) : Int) < ((t251.length : Int) : Int) := zdec; first | exact h_ | (have e_ := (Kd.R_reads' HO253.out).1; omega) | simpa using h_) (seg := [.int .i64 1, .int .i64 x7_2, .int .i64 0, .int .i64 0, .int .i64 0]) (j := 0) hcl88 hcc88 (show 5 ≤ 5 from by decide) (x' := (⟨1, x7_2, 0, 0, 0⟩ : S51)) (k51_mkM _ _ _ (⟨1, x7_2, 0, 0, 0⟩ : S51) ) (fun _ hk => hk)
                          have hx88_0 := hcc88 0 _ rfl
                          (try simp only [show (k51).sz = 5 from rfl, Nat.mul_one, Nat.add_zero] at hx88_0)
                          have hf88_0 := hfr88 0
                          (try simp only [show (k51).sz = 5 from rfl, Nat.mul_one, Nat.add_zero] at hf88_0)
                          have hx88_1 := hcc88 1 _ rfl
                          (try simp only [show (k51).sz = 5 from rfl, Nat.mul_one, Nat.add_zero] at hx88_1)
                          have hf88_1 := hfr88 1
                          (try simp only [show (k51).sz = 5 from rfl, Nat.mul_one, Nat.add_zero] at hf88_1)
                          have hx88_2 := hcc88 2 _ rfl
                          (try simp only [show (k51).sz = 5 from rfl, Nat.mul_one, Nat.add_zero] at hx88_2)
                          have hf88_2 := hfr88 2
                          (try simp only [show (k51).sz = 5 from rfl, Nat.mul_one, Nat.add_zero] at hf88_2)
                          have hx88_3 := hcc88 3 _ rfl
                          (try simp only [show (k51).sz = 5 from rfl, Nat.mul_one, Nat.add_zero] at hx88_3)
                          have hf88_3 := hfr88 3
                          (try simp only [show (k51).sz = 5 from rfl, Nat.mul_one, Nat.add_zero] at hf88_3)
                          have hx88_4 := hcc88 4 _ rfl
                          (try simp only [show (k51).sz = 5 from rfl, Nat.mul_one, Nat.add_zero] at hx88_4)
                          have hf88_4 := hfr88 4
                          (try simp only [show (k51).sz = 5 from rfl, Nat.mul_one, Nat.add_zero] at hf88_4)
                          clear hcl88 hcc88 hfr88 hM88
                          go_wp2_with (first | ((with_reducible refine gate_store (t := 51) (p := 134) rfl ?_); refine store_event (t := 51) (p := 134) (v := ?vo_w89) (w1 := (((((w71.setCell ⟨go86, ((ji83) : Int).toNat * 5, none⟩ (.int .i64 1)).setCell ⟨go86, ((ji83) : Int).toNat * 5 + 1, none⟩ (.int .i64 x7_2)).setCell ⟨go86, ((ji83) : Int).toNat * 5 + 2, none⟩ (.int .i64 0)).setCell ⟨go86, ((ji83) : Int).toNat * 5 + 3, none⟩ (.int .i64 0)).setCell ⟨go86, ((ji83) : Int).toNat * 5 + 4, none⟩ (.int .i64 0))) ?hg ?ho ?hn ?hr ?_; (case ho => rfl); (case hg => rfl); (case hn => rfl); (case hr => first | (go_simp; done) | (go_simp; rfl)); intro w89 hw; have hg : w71.grownBy w89 (some go86) := (by rw [hw]; exact HP88.2); have hp_ : Kd.R k51 51 w89 w.heap.size (fun k_ => some k_ ≠ (.slice Ao70 x10_5.length co70 : Value).ownBlock) (.slice (some ⟨go86, 0, none⟩) t251.length co87) y255 := (by rw [hw, Ny255.out]; exact HP88.1); clear HP88; have n0_ := Aside0.mk (Kd.R_over' (v := (.slice (some ⟨go86, 0, none⟩) t251.length co87)) (by (with_reducible repeat (first | apply Kd.R_alloc | apply Kd.R_drewN | apply Kd.R_drew)); exact HO_5.out) (Kd.R_typed HO253.out) (by decide) hg); have n1_ := Aside0.mk (Kd.R_after (v := (.slice (some ⟨go86, 0, none⟩) t251.length co87)) (v1 := (.slice (some ⟨go86, 0, none⟩) t251.length co87)) (ok := (fun _ => True)) (by (with_reducible repeat (first | apply Kd.R_alloc | apply Kd.R_drewN | apply Kd.R_drew)); exact HO_10.out) hg (.inl rfl)); have n2_ := Aside0.mk (blk_grown (g := gb225) (o := .cells #[.slice A0_0 l0_0.length c0_0, .slice A0_1 l0_1.length c0_1, .slice A0_2 l0_2.length c0_2] 26 (0, 0)) (zb BK225.out) hg (Kd.R_ne HO253.out BK225.out (by decide))); have n3_ := Aside0.mk (blk_grown (g := gb233) (o := .cells #[.bool x234000_20, .int .i64 x234001_20, .int .i64 x234002_20, .int .i64 x234003_20] 33 (0, 0)) (zb BK233.out) hg (Kd.R_ne HO253.out BK233.out (by decide))); have n4_ := Aside0.mk (hp_); have n5_ := Aside0.mk ((by rw [hw]; exact below_set (below_set (below_set (below_set (below_set (HB.out) GB86.out) GB86.out) GB86.out) GB86.out) GB86.out : Below w.heap.size w w89)); clear HO_5; clear HO_10; clear BK225; clear BK233; clear HO253; clear HB; have HO_5 := n0_; have HO_10 := n1_; have BK225 := n2_; have BK233 := n3_; have HO253 := n4_; have HB := n5_; clear n0_ n1_ n2_ n3_ n4_ n5_; clear hg hw hp_))
                          go_meet
                          case rel => exact ⟨_, (y255), H', ⟨by have := HK1.out; have := HK2.out; have := HJ20.out; have := HJ48.out; have := HK5.out; first | omega | exact Nat.le_refl _⟩, ⟨by (with_reducible repeat (first | apply Kd.R_alloc | apply Kd.R_drewN | apply Kd.R_drew)); exact HO_5.out⟩, ⟨by (with_reducible repeat (first | apply Kd.R_alloc | apply Kd.R_drewN | apply Kd.R_drew)); exact Kd.R_mono HO_10.out (fun _ hk => hk.2)⟩, ⟨by (with_reducible repeat (first | apply Kd.R_alloc | apply Kd.R_drewN | apply Kd.R_drew)); exact HO253.out⟩, ⟨zb BK225.out⟩, ⟨zb BK233.out⟩, ⟨zw2 HB.out GE225.out GE233.out⟩⟩
                         ·rw [if_neg c85] at H
                          exact absurd H (by simp)
                        ·rw [if_neg c84] at H
                         exact absurd H (by simp)
                      ·rw [if_neg c81] at H
                       have c81b0 : (x12_5 == 2) = false := beq_eq_false_iff_ne.mpr c81
                       have c81b1 : (x12_5 != 2) = true := bne_iff_ne.mpr c81
                       have H' := Aside0.mk H
                       clear H
                       go_wp2
                       go_meet
                       case rel => exact ⟨_, (t251), H', ⟨by have := HK1.out; have := HK2.out; have := HJ20.out; have := HJ48.out; have := HK5.out; first | omega | exact Nat.le_refl _⟩, ⟨by (with_reducible repeat (first | apply Kd.R_alloc | apply Kd.R_drewN | apply Kd.R_drew)); exact HO_5.out⟩, ⟨by (with_reducible repeat (first | apply Kd.R_alloc | apply Kd.R_drewN | apply Kd.R_drew)); exact Kd.R_mono HO_10.out (fun _ hk => hk.2)⟩, ⟨by (with_reducible repeat (first | apply Kd.R_alloc | apply Kd.R_drewN | apply Kd.R_drew)); exact Kd.R_mono HO253.out (fun _ hk => hk.2)⟩, ⟨zb BK225.out⟩, ⟨zb BK233.out⟩, ⟨zw2 HB.out GE225.out GE233.out⟩⟩
                    case rest => as_aux_lemma =>
                     clear HC69
                     try clear c1
                     try clear c2
                     try clear p2
                     try clear q2
                     try clear hx2
                     try clear c3
                     try clear c5
                     try clear c6
                     try clear p6
                     try clear c7
                     try clear p7
                     try clear q7
                     try clear hx7
                     try clear hf7
                     try clear c8
                     try clear p8
                     try clear q8
                     try clear hx8
                     try clear hf8
                     try clear c16
                     try clear c23
                     try clear c24
                     try clear p24
                     try clear q24
                     try clear hx24
                     try clear c30
                     try clear c53
                     try clear c53b0
                     try clear c53b1
                     try clear c56
                     try clear p64
                     try clear c66
                     try clear c67
                     try clear c67b0
                     try clear c72
                     try clear c72b0
                     try clear c72b1
                     try clear c73
                     try clear c73b0
                     try clear c73b1
                     try clear c73b2
                     try clear c75
                     try clear c75b0
                     try clear c76
                     try clear c76b0
                     try clear c77
                     try clear p77
                     try clear q77
                     try clear hx77
                     try clear hf77
                     try clear c79
                     try clear hx79
                     try clear hf79
                     try clear c81
                     try clear c81b0
                     try clear c81b1
                     try clear c82
                     try clear c82b0
                     try clear c82b1
                     try clear c82b2
                     try clear c84
                     try clear c84b0
                     try clear c85
                     try clear c85b0
                     try clear c86
                     try clear p86
                     try clear q86
                     try clear hx86
                     try clear hf86
                     try clear c88
                     try clear hx88
                     try clear hf88
                     try clear hx246_0
                     try clear hx246_1
                     try clear hx77_0
                     try clear hx77_1
                     try clear hx77_2
                     try clear hx77_3
                     try clear hx77_4
                     try clear hx79_0
                     try clear hx79_1
                     try clear hx79_2
                     try clear hx79_3
                     try clear hx79_4
                     try clear hx86_0
                     try clear hx86_1
                     try clear hx86_2
                     try clear hx86_3
                     try clear hx86_4
                     try clear hx88_0
                     try clear hx88_1
                     try clear hx88_2
                     try clear hx88_3
                     try clear hx88_4
                     try clear p2
                     try clear p24
                     try clear p246
                     try clear p77
                     try clear p86
                     try clear q2
                     try clear q24
                     try clear q246
                     try clear q77
                     try clear q86
                     obtain ⟨kq, x13_68, HA, HJ68, HO_5, HO_10, HO_13, BK225, BK233, HB⟩ := hcut
                     cases kq with
                     | zero => exact absurd HA.out (by simp [cellarlaw8_kind.j5])
                     | succ kj68 =>
                      have H := HA.out
                      clear HA
                      simp only [cellarlaw8_kind.j5] at H
                      by_cases c90 : 0 ≤ x6_1
                      ·rw [if_pos c90] at H
                       have c90b0 : decide (0 ≤ x6_1) = true := decide_eq_true c90
                       clear c90
                       by_cases c91 : x6_1 < (t227.length : Int)
                       ·rw [if_pos c91] at H
                        have c91b0 : decide (x6_1 < (t227.length : Int)) = true := decide_eq_true c91
                        clear c91
                        replace H := Option.bind_eq_some_iff.mp H
                        obtain ⟨⟨t257, t258, t259, t260, t261, t262⟩, A920, H⟩ := H
                        replace H : ((cellarref7_Get.f kj68 ((rd_T38 t227 x6_1).f0) ((rd_T38 t227 x6_1).f1) a1 x13_68).bind fun bt265 => ((cellarlaw8_num.f t262).bind fun t271 => (if t271 = 0 then (if (!(t257 == bt265.1) || (!(t258 == bt265.2.1) || (!(t259 == bt265.2.2.1) || (!(t260 == bt265.2.2.2.1))))) = true then (cellarlaw8_kind.j6 kj68 a1 t227 x6_1 x7_2 x10_5 x12_5 true x234000_20 x234001_20 x234002_20 x234003_20) else (if t261 = bt265.2.2.2.2 then (if x12_5 = 0 then (if (!(t257 == x234000_20) || (!(t258 == x234001_20) || (!(t259 == x234002_20) || (!(t260 == x234003_20))))) = true then (cellarlaw8_kind.j6 kj68 a1 t227 x6_1 x7_2 x10_5 x12_5 true x234000_20 x234001_20 x234002_20 x234003_20) else (cellarlaw8_kind.j6 kj68 a1 t227 x6_1 x7_2 x10_5 x12_5 (t261 != 0) x234000_20 x234001_20 x234002_20 x234003_20)) else (cellarlaw8_kind.j6 kj68 a1 t227 x6_1 x7_2 x10_5 x12_5 false x234000_20 x234001_20 x234002_20 x234003_20)) else (cellarlaw8_kind.j6 kj68 a1 t227 x6_1 x7_2 x10_5 x12_5 true x234000_20 x234001_20 x234002_20 x234003_20))) else (cellarlaw8_kind.j6 kj68 a1 t227 x6_1 x7_2 x10_5 x12_5 true x234000_20 x234001_20 x234002_20 x234003_20)))) = some r := H
                        have A92 := Aside0.mk A920
                        clear A920
                        replace H := Option.bind_eq_some_iff.mp H
                        obtain ⟨⟨t265, t266, t267, t268, t269⟩, A930, H⟩ := H
                        replace H : ((cellarlaw8_num.f t262).bind fun t271 => (if t271 = 0 then (if (!(t257 == t265) || (!(t258 == t266) || (!(t259 == t267) || (!(t260 == t268))))) = true then (cellarlaw8_kind.j6 kj68 a1 t227 x6_1 x7_2 x10_5 x12_5 true x234000_20 x234001_20 x234002_20 x234003_20) else (if t261 = t269 then (if x12_5 = 0 then (if (!(t257 == x234000_20) || (!(t258 == x234001_20) || (!(t259 == x234002_20) || (!(t260 == x234003_20))))) = true then (cellarlaw8_kind.j6 kj68 a1 t227 x6_1 x7_2 x10_5 x12_5 true x234000_20 x234001_20 x234002_20 x234003_20) else (cellarlaw8_kind.j6 kj68 a1 t227 x6_1 x7_2 x10_5 x12_5 (t261 != 0) x234000_20 x234001_20 x234002_20 x234003_20)) else (cellarlaw8_kind.j6 kj68 a1 t227 x6_1 x7_2 x10_5 x12_5 false x234000_20 x234001_20 x234002_20 x234003_20)) else (cellarlaw8_kind.j6 kj68 a1 t227 x6_1 x7_2 x10_5 x12_5 true x234000_20 x234001_20 x234002_20 x234003_20))) else (cellarlaw8_kind.j6 kj68 a1 t227 x6_1 x7_2 x10_5 x12_5 true x234000_20 x234001_20 x234002_20 x234003_20))) = some r := H
                        have A93 := Aside0.mk A930
                        clear A930
                        have HC94 := Aside0.mk H
                        clear H
                        have p256 : 0 ≤ (x6_1 : Int) := zdec
                        have q256 : x6_1 < (t227.length : Int) := zdec
                        obtain ⟨ad256, e256, hx256_0, hx256_1⟩ := at_T38 (Kd.R_reads' HO_5.out).2.2 x6_1 p256 q256
                        obtain rfl : ad231 = ad256 := (by injection e256)
                        replace p256 := eq_true p256
                        replace q256 := eq_true q256
                        obtain ⟨Ao95, co95, eo95⟩ := Kd.R_slice HO_13.out
                        subst eo95
                        go_upto_region 32 with (first | ((with_reducible refine gate_callee (f := 17) rfl ?_); refine goesL_ (some 142) rfl rfl Try.func17 (by kernel_rfl) rfl #[.agg #[.bool ((rd_T38 t227 x6_1).f0), .int .i64 ((rd_T38 t227 x6_1).f1)], .int .i64 a1, .slice Ao95 x13_68.length co95] rfl (by (try simp only [List.map_toArray, List.map_cons, List.map_nil]); first | done | rfl | (simp only [List.length_drop, List.length_take]; rfl)) ?_; (with_reducible refine (bytes_Get.calls kj68 ((rd_T38 t227 x6_1).f0) ((rd_T38 t227 x6_1).f1) a1 _ _ x13_68 t257 t258 t259 t260 t261 t262 _ ?side1 ?side2 A92.out).mono ?_); (case side1 => repeat (first | exact (Kd.R_reads' HO_13.out).2.2 | (with_reducible refine Kd.C_alloc ?_ _) | (with_reducible refine Kd.C_drewN ?_ _) | (with_reducible refine Kd.C_drew ?_))); (case side2 => exact (Kd.R_reads' HO_13.out).2.1); rintro e w96 ⟨rfl, hb⟩; refine ⟨_, rfl, ?_⟩; have n0_ := Aside0.mk (Kd.R_below (by (with_reducible repeat (first | apply Kd.R_alloc | apply Kd.R_drewN | apply Kd.R_drew)); exact HO_5.out) hb); have n1_ := Aside0.mk (Kd.R_below (by (with_reducible repeat (first | apply Kd.R_alloc | apply Kd.R_drewN | apply Kd.R_drew)); exact HO_10.out) hb); have n2_ := Aside0.mk (Kd.R_below (by (with_reducible repeat (first | apply Kd.R_alloc | apply Kd.R_drewN | apply Kd.R_drew)); exact HO_13.out) hb); have n3_ := Aside0.mk (blk_below (g := gb225) (o := .cells #[.slice A0_0 l0_0.length c0_0, .slice A0_1 l0_1.length c0_1, .slice A0_2 l0_2.length c0_2] 26 (0, 0)) (zb BK225.out) hb); have n4_ := Aside0.mk (blk_below (g := gb233) (o := .cells #[.bool x234000_20, .int .i64 x234001_20, .int .i64 x234002_20, .int .i64 x234003_20] 33 (0, 0)) (zb BK233.out) hb); have n5_ := Aside0.mk (below_step (zw2 HB.out GE225.out GE233.out) hb); clear HO_5; clear HO_10; clear HO_13; clear BK225; clear BK233; clear HB; have HO_5 := n0_; have HO_10 := n1_; have HO_13 := n2_; have BK225 := n3_; have BK233 := n4_; have HB := n5_; clear n0_ n1_ n2_ n3_ n4_ n5_; (try clear hb); (try clear hb2); (try clear hk); (try clear hi)) | ((with_reducible refine gate_dst (N := 14) rfl ?_); (try (refine gate_guard (by rfl) ?_; dsimp only)); refine box_event ?hg (N := 14) ?hd (cs := #[.bool false, .int .i64 0, .int .i64 0, .int .i64 0]) (t := 33) ?hr ?_; (case hd => rfl); (case hg => rfl); (case hr => first | (go_simp; done) | (go_simp; rfl)); intro gb263 hg w97 hbox hb; have n0_ := Aside0.mk (Kd.R_below (by (with_reducible repeat (first | apply Kd.R_alloc | apply Kd.R_drewN | apply Kd.R_drew)); exact HO_5.out) hb); have n1_ := Aside0.mk (Kd.R_below (by (with_reducible repeat (first | apply Kd.R_alloc | apply Kd.R_drewN | apply Kd.R_drew)); exact HO_10.out) hb); have n2_ := Aside0.mk (Kd.R_below (by (with_reducible repeat (first | apply Kd.R_alloc | apply Kd.R_drewN | apply Kd.R_drew)); exact HO_13.out) hb); have n3_ := Aside0.mk (blk_below (g := gb225) (o := .cells #[.slice A0_0 l0_0.length c0_0, .slice A0_1 l0_1.length c0_1, .slice A0_2 l0_2.length c0_2] 26 (0, 0)) (zb BK225.out) hb); have n4_ := Aside0.mk (blk_below (g := gb233) (o := .cells #[.bool x234000_20, .int .i64 x234001_20, .int .i64 x234002_20, .int .i64 x234003_20] 33 (0, 0)) (zb BK233.out) hb); have n5_ := Aside0.mk (below_step (zw2 HB.out GE225.out GE233.out) hb); have n6_ := Aside0.mk (hbox); have n7_ := Aside0.mk ((by rw [hg]; exact (below_size (zw2 HB.out GE225.out GE233.out)) : w.heap.size ≤ gb263)); have n8_ := Aside0.mk ((by rw [hg]; exact (below_size (zw2 HB.out GE225.out GE233.out)) : w.heap.size ≤ gb263)); have n9_ := Aside0.mk ((by rw [hg]; exact Nat.ne_of_lt (blk_lt (g := gb225) (o := .cells #[.slice A0_0 l0_0.length c0_0, .slice A0_1 l0_1.length c0_1, .slice A0_2 l0_2.length c0_2] 26 (0, 0)) (zb BK225.out)) : gb225 ≠ gb263)); have n10_ := Aside0.mk ((by rw [hg]; exact Nat.ne_of_gt (blk_lt (g := gb225) (o := .cells #[.slice A0_0 l0_0.length c0_0, .slice A0_1 l0_1.length c0_1, .slice A0_2 l0_2.length c0_2] 26 (0, 0)) (zb BK225.out)) : gb263 ≠ gb225)); have n11_ := Aside0.mk ((by rw [hg]; exact Nat.ne_of_lt (blk_lt (g := gb233) (o := .cells #[.bool x234000_20, .int .i64 x234001_20, .int .i64 x234002_20, .int .i64 x234003_20] 33 (0, 0)) (zb BK233.out)) : gb233 ≠ gb263)); have n12_ := Aside0.mk ((by rw [hg]; exact Nat.ne_of_gt (blk_lt (g := gb233) (o := .cells #[.bool x234000_20, .int .i64 x234001_20, .int .i64 x234002_20, .int .i64 x234003_20] 33 (0, 0)) (zb BK233.out)) : gb263 ≠ gb233)); clear HO_5; clear HO_10; clear HO_13; clear BK225; clear BK233; clear HB; have HO_5 := n0_; have HO_10 := n1_; have HO_13 := n2_; have BK225 := n3_; have BK233 := n4_; have HB := n5_; have BK263 := n6_; have GW263 := n7_; have GE263 := n8_; have NB225_263 := n9_; have NB263_225 := n10_; have NB233_263 := n11_; have NB263_233 := n12_; clear n0_ n1_ n2_ n3_ n4_ n5_ n6_ n7_ n8_ n9_ n10_ n11_ n12_; clear hb hbox hg; have hnb98 := NB263_225.out; have hnc98 := NB225_263.out; have hnb99 := NB263_233.out; have hnc99 := NB233_263.out; have hcz100_0 : w97.cell? ⟨gb263, 0, none⟩ = some (.bool false) := (blk_cell BK263.out 0).trans rfl; have hcz100_1 : w97.cell? ⟨gb263, 1, none⟩ = some (.int .i64 0) := (blk_cell BK263.out 1).trans rfl; have hcz100_2 : w97.cell? ⟨gb263, 2, none⟩ = some (.int .i64 0) := (blk_cell BK263.out 2).trans rfl; have hcz100_3 : w97.cell? ⟨gb263, 3, none⟩ = some (.int .i64 0) := (blk_cell BK263.out 3).trans rfl; have hfz100_0 := blk_frozen BK263.out 0; have hfz100_1 := blk_frozen BK263.out 1; have hfz100_2 := blk_frozen BK263.out 2; have hfz100_3 := blk_frozen BK263.out 3; have p264 : 0 ≤ (x6_1 : Int) := zdec; have q264 : x6_1 < (t227.length : Int) := zdec; obtain ⟨ad264, e264, hx264_0, hx264_1⟩ := at_T38 (Kd.R_reads' HO_5.out).2.2 x6_1 p264 q264; obtain rfl : ad231 = ad264 := (by injection e264); have hn264_0 : ad231.block ≠ gb263 := Kd.own_blk (Kd.R_ne HO_5.out BK263.out (by decide)); have hn264_1 : ad231.block ≠ gb263 := Kd.own_blk (Kd.R_ne HO_5.out BK263.out (by decide)); have hn264_2 : ad231.block ≠ gb263 := Kd.own_blk (Kd.R_ne HO_5.out BK263.out (by decide)); have hn264_3 : ad231.block ≠ gb263 := Kd.own_blk (Kd.R_ne HO_5.out BK263.out (by decide)); replace hx264_0 := (cell_far (p := ⟨gb263, 0, none⟩) (zy hn264_0) (.bool t257)).trans hx264_0; replace hx264_1 := (cell_far (p := ⟨gb263, 0, none⟩) (zy hn264_0) (.bool t257)).trans hx264_1; replace hx264_0 := (cell_far (p := ⟨gb263, 1, none⟩) (zy hn264_1) (.int .i64 t258)).trans hx264_0; replace hx264_1 := (cell_far (p := ⟨gb263, 1, none⟩) (zy hn264_1) (.int .i64 t258)).trans hx264_1; replace hx264_0 := (cell_far (p := ⟨gb263, 2, none⟩) (zy hn264_2) (.int .i64 t259)).trans hx264_0; replace hx264_1 := (cell_far (p := ⟨gb263, 2, none⟩) (zy hn264_2) (.int .i64 t259)).trans hx264_1; replace hx264_0 := (cell_far (p := ⟨gb263, 3, none⟩) (zy hn264_3) (.int .i64 t260)).trans hx264_0; replace hx264_1 := (cell_far (p := ⟨gb263, 3, none⟩) (zy hn264_3) (.int .i64 t260)).trans hx264_1; clear hn264_0; clear hn264_1; clear hn264_2; clear hn264_3; replace p264 := eq_true p264; replace q264 := eq_true q264) | ((with_reducible refine gate_callee (f := 22) rfl ?_); refine goesL_ (some 153) rfl rfl Try.func22 (by kernel_rfl) rfl #[.agg #[.bool ((rd_T38 t227 x6_1).f0), .int .i64 ((rd_T38 t227 x6_1).f1)], .int .i64 a1, .slice Ao95 x13_68.length co95] rfl (by (try simp only [List.map_toArray, List.map_cons, List.map_nil]); first | done | rfl | (simp only [List.length_drop, List.length_take]; rfl)) ?_; (with_reducible refine (cellarref7_Get.calls kj68 ((rd_T38 t227 x6_1).f0) ((rd_T38 t227 x6_1).f1) a1 _ _ x13_68 t265 t266 t267 t268 t269 _ ?side1 ?side2 A93.out).mono ?_); (case side1 => refine (Kd.R_reads' (e := 51) (base := w.heap.size) (ok := fun k_ => some k_ ≠ (.slice Ao70 x10_5.length co70 : Value).ownBlock) (n := x13_68.length) (c := co95) ?_).2.2; exact (by (with_reducible repeat (first | apply Kd.R_alloc | apply Kd.R_drewN | apply Kd.R_drew)); exact (Kd.R_mono (Kd.R_far (p := ⟨gb263, 3, none⟩) (Kd.R_far (p := ⟨gb263, 2, none⟩) (Kd.R_far (p := ⟨gb263, 1, none⟩) (Kd.R_far (p := ⟨gb263, 0, none⟩) (Kd.R_types HO_13.out BK263.out (by decide)) (fun _ hk => hk.2) (.bool t257)) (fun _ hk => hk.2) (.int .i64 t258)) (fun _ hk => hk.2) (.int .i64 t259)) (fun _ hk => hk.2) (.int .i64 t260)) (fun _ h_ => h_.1)))); (case side2 => exact (Kd.R_reads' HO_13.out).2.1); rintro e w101 ⟨rfl, hb⟩; refine ⟨_, rfl, ?_⟩; have n0_ := Aside0.mk (Kd.R_below (by (with_reducible repeat (first | apply Kd.R_alloc | apply Kd.R_drewN | apply Kd.R_drew)); exact (Kd.R_mono (Kd.R_far (p := ⟨gb263, 3, none⟩) (Kd.R_far (p := ⟨gb263, 2, none⟩) (Kd.R_far (p := ⟨gb263, 1, none⟩) (Kd.R_far (p := ⟨gb263, 0, none⟩) (Kd.R_types HO_5.out BK263.out (by decide)) (fun _ hk => hk.2) (.bool t257)) (fun _ hk => hk.2) (.int .i64 t258)) (fun _ hk => hk.2) (.int .i64 t259)) (fun _ hk => hk.2) (.int .i64 t260)) (fun _ h_ => h_.1))) hb); have n1_ := Aside0.mk (Kd.R_below (by (with_reducible repeat (first | apply Kd.R_alloc | apply Kd.R_drewN | apply Kd.R_drew)); exact (Kd.R_mono (Kd.R_far (p := ⟨gb263, 3, none⟩) (Kd.R_far (p := ⟨gb263, 2, none⟩) (Kd.R_far (p := ⟨gb263, 1, none⟩) (Kd.R_far (p := ⟨gb263, 0, none⟩) (Kd.R_types HO_10.out BK263.out (by decide)) (fun _ hk => hk.2) (.bool t257)) (fun _ hk => hk.2) (.int .i64 t258)) (fun _ hk => hk.2) (.int .i64 t259)) (fun _ hk => hk.2) (.int .i64 t260)) (fun _ h_ => h_.1))) hb); have n2_ := Aside0.mk (Kd.R_below (by (with_reducible repeat (first | apply Kd.R_alloc | apply Kd.R_drewN | apply Kd.R_drew)); exact (Kd.R_mono (Kd.R_far (p := ⟨gb263, 3, none⟩) (Kd.R_far (p := ⟨gb263, 2, none⟩) (Kd.R_far (p := ⟨gb263, 1, none⟩) (Kd.R_far (p := ⟨gb263, 0, none⟩) (Kd.R_types HO_13.out BK263.out (by decide)) (fun _ hk => hk.2) (.bool t257)) (fun _ hk => hk.2) (.int .i64 t258)) (fun _ hk => hk.2) (.int .i64 t259)) (fun _ hk => hk.2) (.int .i64 t260)) (fun _ h_ => h_.1))) hb); have n3_ := Aside0.mk (blk_below (g := gb225) (o := .cells #[.slice A0_0 l0_0.length c0_0, .slice A0_1 l0_1.length c0_1, .slice A0_2 l0_2.length c0_2] 26 (0, 0)) (zf1 BK225.out NB225_263.out) hb); have n4_ := Aside0.mk (blk_below (g := gb233) (o := .cells #[.bool x234000_20, .int .i64 x234001_20, .int .i64 x234002_20, .int .i64 x234003_20] 33 (0, 0)) (zf1 BK233.out NB233_263.out) hb); have n5_ := Aside0.mk (blk_below (g := gb263) (o := .cells #[.bool t257, .int .i64 t258, .int .i64 t259, .int .i64 t260] 33 (0, 0)) (by (with_reducible repeat (first | refine blk_drewN ?_ _ | refine blk_drew ?_ | refine blk_alloc ?_ _)); refine blk_put (cs := #[.bool t257, .int .i64 t258, .int .i64 t259, .int .i64 0]) ?_ 3 _ rfl; (with_reducible repeat (first | refine blk_drewN ?_ _ | refine blk_drew ?_ | refine blk_alloc ?_ _)); refine blk_put (cs := #[.bool t257, .int .i64 t258, .int .i64 0, .int .i64 0]) ?_ 2 _ rfl; (with_reducible repeat (first | refine blk_drewN ?_ _ | refine blk_drew ?_ | refine blk_alloc ?_ _)); refine blk_put (cs := #[.bool t257, .int .i64 0, .int .i64 0, .int .i64 0]) ?_ 1 _ rfl; (with_reducible repeat (first | refine blk_drewN ?_ _ | refine blk_drew ?_ | refine blk_alloc ?_ _)); refine blk_put (cs := #[.bool false, .int .i64 0, .int .i64 0, .int .i64 0]) ?_ 0 _ rfl; (with_reducible repeat (first | refine blk_drewN ?_ _ | refine blk_drew ?_ | refine blk_alloc ?_ _)); exact BK263.out) hb); have n6_ := Aside0.mk (below_step (zw3 HB.out GE225.out GE233.out GE263.out) hb); clear HO_5; clear HO_10; clear HO_13; clear BK225; clear BK233; clear BK263; clear HB; have HO_5 := n0_; have HO_10 := n1_; have HO_13 := n2_; have BK225 := n3_; have BK233 := n4_; have BK263 := n5_; have HB := n6_; clear n0_ n1_ n2_ n3_ n4_ n5_ n6_; (try clear hb); (try clear hb2); (try clear hk); (try clear hi)) | ((with_reducible refine gate_dst (N := 17) rfl ?_); (try (refine gate_guard (by rfl) ?_; dsimp only)); refine box_event ?hg (N := 17) ?hd (cs := #[.bool false, .int .i64 0, .int .i64 0, .int .i64 0]) (t := 33) ?hr ?_; (case hd => rfl); (case hg => rfl); (case hr => first | (go_simp; done) | (go_simp; rfl)); intro gb270 hg w102 hbox hb; have n0_ := Aside0.mk (Kd.R_below (by (with_reducible repeat (first | apply Kd.R_alloc | apply Kd.R_drewN | apply Kd.R_drew)); exact HO_5.out) hb); have n1_ := Aside0.mk (Kd.R_below (by (with_reducible repeat (first | apply Kd.R_alloc | apply Kd.R_drewN | apply Kd.R_drew)); exact HO_10.out) hb); have n2_ := Aside0.mk (Kd.R_below (by (with_reducible repeat (first | apply Kd.R_alloc | apply Kd.R_drewN | apply Kd.R_drew)); exact HO_13.out) hb); have n3_ := Aside0.mk (blk_below (g := gb225) (o := .cells #[.slice A0_0 l0_0.length c0_0, .slice A0_1 l0_1.length c0_1, .slice A0_2 l0_2.length c0_2] 26 (0, 0)) (zb BK225.out) hb); have n4_ := Aside0.mk (blk_below (g := gb233) (o := .cells #[.bool x234000_20, .int .i64 x234001_20, .int .i64 x234002_20, .int .i64 x234003_20] 33 (0, 0)) (zb BK233.out) hb); have n5_ := Aside0.mk (blk_below (g := gb263) (o := .cells #[.bool t257, .int .i64 t258, .int .i64 t259, .int .i64 t260] 33 (0, 0)) (zb BK263.out) hb); have n6_ := Aside0.mk (below_step (zw3 HB.out GE225.out GE233.out GE263.out) hb); have n7_ := Aside0.mk (hbox); have n8_ := Aside0.mk ((by rw [hg]; exact (below_size (zw3 HB.out GE225.out GE233.out GE263.out)) : w.heap.size ≤ gb270)); have n9_ := Aside0.mk ((by rw [hg]; exact (below_size (zw3 HB.out GE225.out GE233.out GE263.out)) : w.heap.size ≤ gb270)); have n10_ := Aside0.mk ((by rw [hg]; exact Nat.ne_of_lt (blk_lt (g := gb225) (o := .cells #[.slice A0_0 l0_0.length c0_0, .slice A0_1 l0_1.length c0_1, .slice A0_2 l0_2.length c0_2] 26 (0, 0)) (zb BK225.out)) : gb225 ≠ gb270)); have n11_ := Aside0.mk ((by rw [hg]; exact Nat.ne_of_gt (blk_lt (g := gb225) (o := .cells #[.slice A0_0 l0_0.length c0_0, .slice A0_1 l0_1.length c0_1, .slice A0_2 l0_2.length c0_2] 26 (0, 0)) (zb BK225.out)) : gb270 ≠ gb225)); have n12_ := Aside0.mk ((by rw [hg]; exact Nat.ne_of_lt (blk_lt (g := gb233) (o := .cells #[.bool x234000_20, .int .i64 x234001_20, .int .i64 x234002_20, .int .i64 x234003_20] 33 (0, 0)) (zb BK233.out)) : gb233 ≠ gb270)); have n13_ := Aside0.mk ((by rw [hg]; exact Nat.ne_of_gt (blk_lt (g := gb233) (o := .cells #[.bool x234000_20, .int .i64 x234001_20, .int .i64 x234002_20, .int .i64 x234003_20] 33 (0, 0)) (zb BK233.out)) : gb270 ≠ gb233)); have n14_ := Aside0.mk ((by rw [hg]; exact Nat.ne_of_lt (blk_lt (g := gb263) (o := .cells #[.bool t257, .int .i64 t258, .int .i64 t259, .int .i64 t260] 33 (0, 0)) (zb BK263.out)) : gb263 ≠ gb270)); have n15_ := Aside0.mk ((by rw [hg]; exact Nat.ne_of_gt (blk_lt (g := gb263) (o := .cells #[.bool t257, .int .i64 t258, .int .i64 t259, .int .i64 t260] 33 (0, 0)) (zb BK263.out)) : gb270 ≠ gb263)); clear HO_5; clear HO_10; clear HO_13; clear BK225; clear BK233; clear BK263; clear HB; have HO_5 := n0_; have HO_10 := n1_; have HO_13 := n2_; have BK225 := n3_; have BK233 := n4_; have BK263 := n5_; have HB := n6_; have BK270 := n7_; have GW270 := n8_; have GE270 := n9_; have NB225_270 := n10_; have NB270_225 := n11_; have NB233_270 := n12_; have NB270_233 := n13_; have NB263_270 := n14_; have NB270_263 := n15_; clear n0_ n1_ n2_ n3_ n4_ n5_ n6_ n7_ n8_ n9_ n10_ n11_ n12_ n13_ n14_ n15_; clear hb hbox hg; have hnb103 := NB270_225.out; have hnc103 := NB225_270.out; have hnb104 := NB270_233.out; have hnc104 := NB233_270.out; have hnb105 := NB270_263.out; have hnc105 := NB263_270.out; have hcz106_0 : w102.cell? ⟨gb270, 0, none⟩ = some (.bool false) := (blk_cell BK270.out 0).trans rfl; have hcz106_1 : w102.cell? ⟨gb270, 1, none⟩ = some (.int .i64 0) := (blk_cell BK270.out 1).trans rfl; have hcz106_2 : w102.cell? ⟨gb270, 2, none⟩ = some (.int .i64 0) := (blk_cell BK270.out 2).trans rfl; have hcz106_3 : w102.cell? ⟨gb270, 3, none⟩ = some (.int .i64 0) := (blk_cell BK270.out 3).trans rfl; have hfz106_0 := blk_frozen BK270.out 0; have hfz106_1 := blk_frozen BK270.out 1; have hfz106_2 := blk_frozen BK270.out 2; have hfz106_3 := blk_frozen BK270.out 3))
                        (try simp only [Act.put, List.setIfInBounds_toArray, List.set_cons_zero, List.set_cons_succ])
                        go_cut [181] (fun v181 wc => ∃ (kq : Nat) (x181_93 : Bool), v181 = .bool x181_93 ∧ Aside0 (cellarlaw8_kind.j6 kq a1 t227 x6_1 x7_2 x10_5 x12_5 x181_93 x234000_20 x234001_20 x234002_20 x234003_20 = some r) ∧ Aside0 (kq ≤ kj68) ∧ Aside0 (Kd.R k38 38 wc w.heap.size (fun _ => True) (.slice (some ad231) t227.length co18) t227) ∧ Aside0 (Kd.R k51 51 wc w.heap.size (fun _ => True) (.slice Ao70 x10_5.length co70) x10_5) ∧ Aside0 (wc.heap[gb225]? = some (.cells #[(.slice A0_0 l0_0.length c0_0), (.slice A0_1 l0_1.length c0_1), (.slice A0_2 l0_2.length c0_2)] 26 (0, 0))) ∧ Aside0 (wc.heap[gb233]? = some (.cells #[.bool x234000_20, .int .i64 x234001_20, .int .i64 x234002_20, .int .i64 x234003_20] 33 (0, 0))) ∧ Aside0 (wc.heap[gb263]? = some (.cells #[.bool t257, .int .i64 t258, .int .i64 t259, .int .i64 t260] 33 (0, 0))) ∧ Aside0 (wc.heap[gb270]? = some (.cells #[.bool t265, .int .i64 t266, .int .i64 t267, .int .i64 t268] 33 (0, 0))) ∧ Aside0 (Below w.heap.size w wc))
                        case first =>
                         have H := HC94.out
                         clear HC94
                         replace H := Option.bind_eq_some_iff.mp H
                         obtain ⟨t271, A1070, H⟩ := H
                         replace H : (if t271 = 0 then (if (!(t257 == t265) || (!(t258 == t266) || (!(t259 == t267) || (!(t260 == t268))))) = true then (cellarlaw8_kind.j6 kj68 a1 t227 x6_1 x7_2 x10_5 x12_5 true x234000_20 x234001_20 x234002_20 x234003_20) else (if t261 = t269 then (if x12_5 = 0 then (if (!(t257 == x234000_20) || (!(t258 == x234001_20) || (!(t259 == x234002_20) || (!(t260 == x234003_20))))) = true then (cellarlaw8_kind.j6 kj68 a1 t227 x6_1 x7_2 x10_5 x12_5 true x234000_20 x234001_20 x234002_20 x234003_20) else (cellarlaw8_kind.j6 kj68 a1 t227 x6_1 x7_2 x10_5 x12_5 (t261 != 0) x234000_20 x234001_20 x234002_20 x234003_20)) else (cellarlaw8_kind.j6 kj68 a1 t227 x6_1 x7_2 x10_5 x12_5 false x234000_20 x234001_20 x234002_20 x234003_20)) else (cellarlaw8_kind.j6 kj68 a1 t227 x6_1 x7_2 x10_5 x12_5 true x234000_20 x234001_20 x234002_20 x234003_20))) else (cellarlaw8_kind.j6 kj68 a1 t227 x6_1 x7_2 x10_5 x12_5 true x234000_20 x234001_20 x234002_20 x234003_20)) = some r := H
                         have A107 := Aside0.mk A1070
                         clear A1070
                         by_cases c108 : t271 = 0
                         ·rw [if_pos c108] at H
                          have c108b0 : (t271 == 0) = true := beq_iff_eq.mpr c108
                          have c108b1 : (t271 != 0) = false := bne_eq_false_iff_eq.mpr c108
                          clear c108
                          (first | rw [c108b0] | (simp only [i64_w, i32_w]; rw [c108b0]) | skip)
                          by_cases c109 : (!(t257 == t265) || (!(t258 == t266) || (!(t259 == t267) || (!(t260 == t268))))) = true
                          ·rw [if_pos c109] at H
                           have c109b0 : (!(t257 == t265) || (!(t258 == t266) || (!(t259 == t267) || (!(t260 == t268))))) = true := c109
                           clear c109
                           have H' := Aside0.mk H
                           clear H
                           go_wp2_with (first | ((with_reducible refine gate_callee (f := 23) rfl ?_); refine goesL_ (some 157) rfl rfl Try.func23 (by kernel_rfl) rfl #[.int .i64 t262] rfl (by (try simp only [List.map_toArray, List.map_cons, List.map_nil]); first | done | rfl | (simp only [List.length_drop, List.length_take]; rfl)) ?_; (with_reducible refine (cellarlaw8_num.calls t262 t271 _ A107.out).mono ?_); rintro e w' ⟨rfl, ⟨nd, rfl⟩⟩; refine ⟨_, rfl, ?_⟩; have hnb110 := NB263_225.out; have hnc110 := NB225_263.out; have hnb111 := NB263_233.out; have hnc111 := NB233_263.out; have hnb112 := NB263_270.out; have hnc112 := NB270_263.out; have hcz113_0 : w102.cell? ⟨gb263, 0, none⟩ = some (.bool t257) := (blk_cell BK263.out 0).trans rfl; have hcz113_1 : w102.cell? ⟨gb263, 1, none⟩ = some (.int .i64 t258) := (blk_cell BK263.out 1).trans rfl; have hcz113_2 : w102.cell? ⟨gb263, 2, none⟩ = some (.int .i64 t259) := (blk_cell BK263.out 2).trans rfl; have hcz113_3 : w102.cell? ⟨gb263, 3, none⟩ = some (.int .i64 t260) := (blk_cell BK263.out 3).trans rfl; have hfz113_0 := blk_frozen BK263.out 0; have hfz113_1 := blk_frozen BK263.out 1; have hfz113_2 := blk_frozen BK263.out 2; have hfz113_3 := blk_frozen BK263.out 3; have hnb114 := NB270_225.out; have hnc114 := NB225_270.out; have hnb115 := NB270_233.out; have hnc115 := NB233_270.out; have hcz116_0 : w102.cell? ⟨gb270, 0, none⟩ = some (.bool false) := (blk_cell BK270.out 0).trans rfl; have hcz116_1 : w102.cell? ⟨gb270, 1, none⟩ = some (.int .i64 0) := (blk_cell BK270.out 1).trans rfl; have hcz116_2 : w102.cell? ⟨gb270, 2, none⟩ = some (.int .i64 0) := (blk_cell BK270.out 2).trans rfl; have hcz116_3 : w102.cell? ⟨gb270, 3, none⟩ = some (.int .i64 0) := (blk_cell BK270.out 3).trans rfl; have hfz116_0 := blk_frozen BK270.out 0; have hfz116_1 := blk_frozen BK270.out 1; have hfz116_2 := blk_frozen BK270.out 2; have hfz116_3 := blk_frozen BK270.out 3))
                           go_meet
                           case rel => exact ⟨_, (true), (by first | rfl | (simp; done) | (simp [*]; done)), H', ⟨by have := HK1.out; have := HK2.out; have := HJ20.out; have := HJ48.out; have := HK5.out; have := HJ68.out; first | omega | exact Nat.le_refl _⟩, ⟨by (with_reducible repeat (first | apply Kd.R_alloc | apply Kd.R_drewN | apply Kd.R_drew)); exact Kd.R_mono (Kd.R_far (p := ⟨gb270, 3, none⟩) (Kd.R_far (p := ⟨gb270, 2, none⟩) (Kd.R_far (p := ⟨gb270, 1, none⟩) (Kd.R_far (p := ⟨gb270, 0, none⟩) (Kd.R_types HO_5.out BK270.out (by decide)) (fun _ hk => hk.2) (.bool t265)) (fun _ hk => hk.2) (.int .i64 t266)) (fun _ hk => hk.2) (.int .i64 t267)) (fun _ hk => hk.2) (.int .i64 t268)) (fun _ hk => trivial)⟩, ⟨by (with_reducible repeat (first | apply Kd.R_alloc | apply Kd.R_drewN | apply Kd.R_drew)); exact Kd.R_mono (Kd.R_far (p := ⟨gb270, 3, none⟩) (Kd.R_far (p := ⟨gb270, 2, none⟩) (Kd.R_far (p := ⟨gb270, 1, none⟩) (Kd.R_far (p := ⟨gb270, 0, none⟩) (Kd.R_types HO_10.out BK270.out (by decide)) (fun _ hk => hk.2) (.bool t265)) (fun _ hk => hk.2) (.int .i64 t266)) (fun _ hk => hk.2) (.int .i64 t267)) (fun _ hk => hk.2) (.int .i64 t268)) (fun _ hk => trivial)⟩, ⟨zf1 BK225.out NB225_270.out⟩, ⟨zf1 BK233.out NB233_270.out⟩, ⟨zf1 BK263.out NB263_270.out⟩, ⟨by (with_reducible repeat (first | refine blk_drewN ?_ _ | refine blk_drew ?_ | refine blk_alloc ?_ _)); refine blk_put (cs := #[.bool t265, .int .i64 t266, .int .i64 t267, .int .i64 0]) ?_ 3 _ rfl; (with_reducible repeat (first | refine blk_drewN ?_ _ | refine blk_drew ?_ | refine blk_alloc ?_ _)); refine blk_put (cs := #[.bool t265, .int .i64 t266, .int .i64 0, .int .i64 0]) ?_ 2 _ rfl; (with_reducible repeat (first | refine blk_drewN ?_ _ | refine blk_drew ?_ | refine blk_alloc ?_ _)); refine blk_put (cs := #[.bool t265, .int .i64 0, .int .i64 0, .int .i64 0]) ?_ 1 _ rfl; (with_reducible repeat (first | refine blk_drewN ?_ _ | refine blk_drew ?_ | refine blk_alloc ?_ _)); refine blk_put (cs := #[.bool false, .int .i64 0, .int .i64 0, .int .i64 0]) ?_ 0 _ rfl; (with_reducible repeat (first | refine blk_drewN ?_ _ | refine blk_drew ?_ | refine blk_alloc ?_ _)); exact BK270.out⟩, ⟨zw4 HB.out GE225.out GE233.out GE263.out GE270.out⟩⟩
                          ·rw [if_neg c109] at H
                           have c109b0 : (!(t257 == t265) || (!(t258 == t266) || (!(t259 == t267) || (!(t260 == t268))))) = false := by simpa using c109
                           clear c109
                           by_cases c117 : t261 = t269
                           ·rw [if_pos c117] at H
                            have c117b0 : (t261 == t269) = true := beq_iff_eq.mpr c117
                            have c117b1 : (t261 != t269) = false := bne_eq_false_iff_eq.mpr c117
                            clear c117
                            by_cases c118 : x12_5 = 0
                            ·rw [if_pos c118] at H
                             have c118b0 : (x12_5 == 0) = true := beq_iff_eq.mpr c118
                             have c118b1 : (x12_5 != 0) = false := bne_eq_false_iff_eq.mpr c118
                             clear c118
                             by_cases c119 : (!(t257 == x234000_20) || (!(t258 == x234001_20) || (!(t259 == x234002_20) || (!(t260 == x234003_20))))) = true
                             ·rw [if_pos c119] at H
                              have c119b0 : (!(t257 == x234000_20) || (!(t258 == x234001_20) || (!(t259 == x234002_20) || (!(t260 == x234003_20))))) = true := c119
                              clear c119
                              have H' := Aside0.mk H
                              clear H
                              go_wp2_with (first | ((with_reducible refine gate_callee (f := 23) rfl ?_); refine goesL_ (some 157) rfl rfl Try.func23 (by kernel_rfl) rfl #[.int .i64 t262] rfl (by (try simp only [List.map_toArray, List.map_cons, List.map_nil]); first | done | rfl | (simp only [List.length_drop, List.length_take]; rfl)) ?_; (with_reducible refine (cellarlaw8_num.calls t262 t271 _ A107.out).mono ?_); rintro e w' ⟨rfl, ⟨nd, rfl⟩⟩; refine ⟨_, rfl, ?_⟩; have hnb120 := NB263_225.out; have hnc120 := NB225_263.out; have hnb121 := NB263_233.out; have hnc121 := NB233_263.out; have hnb122 := NB263_270.out; have hnc122 := NB270_263.out; have hcz123_0 : w102.cell? ⟨gb263, 0, none⟩ = some (.bool t257) := (blk_cell BK263.out 0).trans rfl; have hcz123_1 : w102.cell? ⟨gb263, 1, none⟩ = some (.int .i64 t258) := (blk_cell BK263.out 1).trans rfl; have hcz123_2 : w102.cell? ⟨gb263, 2, none⟩ = some (.int .i64 t259) := (blk_cell BK263.out 2).trans rfl; have hcz123_3 : w102.cell? ⟨gb263, 3, none⟩ = some (.int .i64 t260) := (blk_cell BK263.out 3).trans rfl; have hfz123_0 := blk_frozen BK263.out 0; have hfz123_1 := blk_frozen BK263.out 1; have hfz123_2 := blk_frozen BK263.out 2; have hfz123_3 := blk_frozen BK263.out 3; have hnb124 := NB270_225.out; have hnc124 := NB225_270.out; have hnb125 := NB270_233.out; have hnc125 := NB233_270.out; have hcz126_0 : w102.cell? ⟨gb270, 0, none⟩ = some (.bool false) := (blk_cell BK270.out 0).trans rfl; have hcz126_1 : w102.cell? ⟨gb270, 1, none⟩ = some (.int .i64 0) := (blk_cell BK270.out 1).trans rfl; have hcz126_2 : w102.cell? ⟨gb270, 2, none⟩ = some (.int .i64 0) := (blk_cell BK270.out 2).trans rfl; have hcz126_3 : w102.cell? ⟨gb270, 3, none⟩ = some (.int .i64 0) := (blk_cell BK270.out 3).trans rfl; have hfz126_0 := blk_frozen BK270.out 0; have hfz126_1 := blk_frozen BK270.out 1; have hfz126_2 := blk_frozen BK270.out 2; have hfz126_3 := blk_frozen BK270.out 3; have hnb127 := NB233_225.out; have hnc127 := NB225_233.out; have hcz128_0 : w102.cell? ⟨gb233, 0, none⟩ = some (.bool x234000_20) := (blk_cell BK233.out 0).trans rfl; have hcz128_1 : w102.cell? ⟨gb233, 1, none⟩ = some (.int .i64 x234001_20) := (blk_cell BK233.out 1).trans rfl; have hcz128_2 : w102.cell? ⟨gb233, 2, none⟩ = some (.int .i64 x234002_20) := (blk_cell BK233.out 2).trans rfl; have hcz128_3 : w102.cell? ⟨gb233, 3, none⟩ = some (.int .i64 x234003_20) := (blk_cell BK233.out 3).trans rfl; have hfz128_0 := blk_frozen BK233.out 0; have hfz128_1 := blk_frozen BK233.out 1; have hfz128_2 := blk_frozen BK233.out 2; have hfz128_3 := blk_frozen BK233.out 3))
                              go_meet
                              case rel => exact ⟨_, (true), (by first | rfl | (simp; done) | (simp [*]; done)), H', ⟨by have := HK1.out; have := HK2.out; have := HJ20.out; have := HJ48.out; have := HK5.out; have := HJ68.out; first | omega | exact Nat.le_refl _⟩, ⟨by (with_reducible repeat (first | apply Kd.R_alloc | apply Kd.R_drewN | apply Kd.R_drew)); exact Kd.R_mono (Kd.R_far (p := ⟨gb270, 3, none⟩) (Kd.R_far (p := ⟨gb270, 2, none⟩) (Kd.R_far (p := ⟨gb270, 1, none⟩) (Kd.R_far (p := ⟨gb270, 0, none⟩) (Kd.R_types HO_5.out BK270.out (by decide)) (fun _ hk => hk.2) (.bool t265)) (fun _ hk => hk.2) (.int .i64 t266)) (fun _ hk => hk.2) (.int .i64 t267)) (fun _ hk => hk.2) (.int .i64 t268)) (fun _ hk => trivial)⟩, ⟨by (with_reducible repeat (first | apply Kd.R_alloc | apply Kd.R_drewN | apply Kd.R_drew)); exact Kd.R_mono (Kd.R_far (p := ⟨gb270, 3, none⟩) (Kd.R_far (p := ⟨gb270, 2, none⟩) (Kd.R_far (p := ⟨gb270, 1, none⟩) (Kd.R_far (p := ⟨gb270, 0, none⟩) (Kd.R_types HO_10.out BK270.out (by decide)) (fun _ hk => hk.2) (.bool t265)) (fun _ hk => hk.2) (.int .i64 t266)) (fun _ hk => hk.2) (.int .i64 t267)) (fun _ hk => hk.2) (.int .i64 t268)) (fun _ hk => trivial)⟩, ⟨zf1 BK225.out NB225_270.out⟩, ⟨zf1 BK233.out NB233_270.out⟩, ⟨zf1 BK263.out NB263_270.out⟩, ⟨by (with_reducible repeat (first | refine blk_drewN ?_ _ | refine blk_drew ?_ | refine blk_alloc ?_ _)); refine blk_put (cs := #[.bool t265, .int .i64 t266, .int .i64 t267, .int .i64 0]) ?_ 3 _ rfl; (with_reducible repeat (first | refine blk_drewN ?_ _ | refine blk_drew ?_ | refine blk_alloc ?_ _)); refine blk_put (cs := #[.bool t265, .int .i64 t266, .int .i64 0, .int .i64 0]) ?_ 2 _ rfl; (with_reducible repeat (first | refine blk_drewN ?_ _ | refine blk_drew ?_ | refine blk_alloc ?_ _)); refine blk_put (cs := #[.bool t265, .int .i64 0, .int .i64 0, .int .i64 0]) ?_ 1 _ rfl; (with_reducible repeat (first | refine blk_drewN ?_ _ | refine blk_drew ?_ | refine blk_alloc ?_ _)); refine blk_put (cs := #[.bool false, .int .i64 0, .int .i64 0, .int .i64 0]) ?_ 0 _ rfl; (with_reducible repeat (first | refine blk_drewN ?_ _ | refine blk_drew ?_ | refine blk_alloc ?_ _)); exact BK270.out⟩, ⟨zw4 HB.out GE225.out GE233.out GE263.out GE270.out⟩⟩
                             ·rw [if_neg c119] at H
                              have c119b0 : (!(t257 == x234000_20) || (!(t258 == x234001_20) || (!(t259 == x234002_20) || (!(t260 == x234003_20))))) = false := by simpa using c119
                              clear c119
                              have H' := Aside0.mk H
                              clear H
                              go_wp2_with (first | ((with_reducible refine gate_callee (f := 23) rfl ?_); refine goesL_ (some 157) rfl rfl Try.func23 (by kernel_rfl) rfl #[.int .i64 t262] rfl (by (try simp only [List.map_toArray, List.map_cons, List.map_nil]); first | done | rfl | (simp only [List.length_drop, List.length_take]; rfl)) ?_; (with_reducible refine (cellarlaw8_num.calls t262 t271 _ A107.out).mono ?_); rintro e w' ⟨rfl, ⟨nd, rfl⟩⟩; refine ⟨_, rfl, ?_⟩; have hnb129 := NB263_225.out; have hnc129 := NB225_263.out; have hnb130 := NB263_233.out; have hnc130 := NB233_263.out; have hnb131 := NB263_270.out; have hnc131 := NB270_263.out; have hcz132_0 : w102.cell? ⟨gb263, 0, none⟩ = some (.bool t257) := (blk_cell BK263.out 0).trans rfl; have hcz132_1 : w102.cell? ⟨gb263, 1, none⟩ = some (.int .i64 t258) := (blk_cell BK263.out 1).trans rfl; have hcz132_2 : w102.cell? ⟨gb263, 2, none⟩ = some (.int .i64 t259) := (blk_cell BK263.out 2).trans rfl; have hcz132_3 : w102.cell? ⟨gb263, 3, none⟩ = some (.int .i64 t260) := (blk_cell BK263.out 3).trans rfl; have hfz132_0 := blk_frozen BK263.out 0; have hfz132_1 := blk_frozen BK263.out 1; have hfz132_2 := blk_frozen BK263.out 2; have hfz132_3 := blk_frozen BK263.out 3; have hnb133 := NB270_225.out; have hnc133 := NB225_270.out; have hnb134 := NB270_233.out; have hnc134 := NB233_270.out; have hcz135_0 : w102.cell? ⟨gb270, 0, none⟩ = some (.bool false) := (blk_cell BK270.out 0).trans rfl; have hcz135_1 : w102.cell? ⟨gb270, 1, none⟩ = some (.int .i64 0) := (blk_cell BK270.out 1).trans rfl; have hcz135_2 : w102.cell? ⟨gb270, 2, none⟩ = some (.int .i64 0) := (blk_cell BK270.out 2).trans rfl; have hcz135_3 : w102.cell? ⟨gb270, 3, none⟩ = some (.int .i64 0) := (blk_cell BK270.out 3).trans rfl; have hfz135_0 := blk_frozen BK270.out 0; have hfz135_1 := blk_frozen BK270.out 1; have hfz135_2 := blk_frozen BK270.out 2; have hfz135_3 := blk_frozen BK270.out 3; have hnb136 := NB233_225.out; have hnc136 := NB225_233.out; have hcz137_0 : w102.cell? ⟨gb233, 0, none⟩ = some (.bool x234000_20) := (blk_cell BK233.out 0).trans rfl; have hcz137_1 : w102.cell? ⟨gb233, 1, none⟩ = some (.int .i64 x234001_20) := (blk_cell BK233.out 1).trans rfl; have hcz137_2 : w102.cell? ⟨gb233, 2, none⟩ = some (.int .i64 x234002_20) := (blk_cell BK233.out 2).trans rfl; have hcz137_3 : w102.cell? ⟨gb233, 3, none⟩ = some (.int .i64 x234003_20) := (blk_cell BK233.out 3).trans rfl; have hfz137_0 := blk_frozen BK233.out 0; have hfz137_1 := blk_frozen BK233.out 1; have hfz137_2 := blk_frozen BK233.out 2; have hfz137_3 := blk_frozen BK233.out 3))
                              go_meet
                              case rel => exact ⟨_, ((t261 != 0)), (by first | rfl | (simp; done) | (simp [*]; done)), H', ⟨by have := HK1.out; have := HK2.out; have := HJ20.out; have := HJ48.out; have := HK5.out; have := HJ68.out; first | omega | exact Nat.le_refl _⟩, ⟨by (with_reducible repeat (first | apply Kd.R_alloc | apply Kd.R_drewN | apply Kd.R_drew)); exact Kd.R_mono (Kd.R_far (p := ⟨gb270, 3, none⟩) (Kd.R_far (p := ⟨gb270, 2, none⟩) (Kd.R_far (p := ⟨gb270, 1, none⟩) (Kd.R_far (p := ⟨gb270, 0, none⟩) (Kd.R_types HO_5.out BK270.out (by decide)) (fun _ hk => hk.2) (.bool t265)) (fun _ hk => hk.2) (.int .i64 t266)) (fun _ hk => hk.2) (.int .i64 t267)) (fun _ hk => hk.2) (.int .i64 t268)) (fun _ hk => trivial)⟩, ⟨by (with_reducible repeat (first | apply Kd.R_alloc | apply Kd.R_drewN | apply Kd.R_drew)); exact Kd.R_mono (Kd.R_far (p := ⟨gb270, 3, none⟩) (Kd.R_far (p := ⟨gb270, 2, none⟩) (Kd.R_far (p := ⟨gb270, 1, none⟩) (Kd.R_far (p := ⟨gb270, 0, none⟩) (Kd.R_types HO_10.out BK270.out (by decide)) (fun _ hk => hk.2) (.bool t265)) (fun _ hk => hk.2) (.int .i64 t266)) (fun _ hk => hk.2) (.int .i64 t267)) (fun _ hk => hk.2) (.int .i64 t268)) (fun _ hk => trivial)⟩, ⟨zf1 BK225.out NB225_270.out⟩, ⟨zf1 BK233.out NB233_270.out⟩, ⟨zf1 BK263.out NB263_270.out⟩, ⟨by (with_reducible repeat (first | refine blk_drewN ?_ _ | refine blk_drew ?_ | refine blk_alloc ?_ _)); refine blk_put (cs := #[.bool t265, .int .i64 t266, .int .i64 t267, .int .i64 0]) ?_ 3 _ rfl; (with_reducible repeat (first | refine blk_drewN ?_ _ | refine blk_drew ?_ | refine blk_alloc ?_ _)); refine blk_put (cs := #[.bool t265, .int .i64 t266, .int .i64 0, .int .i64 0]) ?_ 2 _ rfl; (with_reducible repeat (first | refine blk_drewN ?_ _ | refine blk_drew ?_ | refine blk_alloc ?_ _)); refine blk_put (cs := #[.bool t265, .int .i64 0, .int .i64 0, .int .i64 0]) ?_ 1 _ rfl; (with_reducible repeat (first | refine blk_drewN ?_ _ | refine blk_drew ?_ | refine blk_alloc ?_ _)); refine blk_put (cs := #[.bool false, .int .i64 0, .int .i64 0, .int .i64 0]) ?_ 0 _ rfl; (with_reducible repeat (first | refine blk_drewN ?_ _ | refine blk_drew ?_ | refine blk_alloc ?_ _)); exact BK270.out⟩, ⟨zw4 HB.out GE225.out GE233.out GE263.out GE270.out⟩⟩
                            ·rw [if_neg c118] at H
                             have c118b0 : (x12_5 == 0) = false := beq_eq_false_iff_ne.mpr c118
                             have c118b1 : (x12_5 != 0) = true := bne_iff_ne.mpr c118
                             have H' := Aside0.mk H
                             clear H
                             go_wp2_with (first | ((with_reducible refine gate_callee (f := 23) rfl ?_); refine goesL_ (some 157) rfl rfl Try.func23 (by kernel_rfl) rfl #[.int .i64 t262] rfl (by (try simp only [List.map_toArray, List.map_cons, List.map_nil]); first | done | rfl | (simp only [List.length_drop, List.length_take]; rfl)) ?_; (with_reducible refine (cellarlaw8_num.calls t262 t271 _ A107.out).mono ?_); rintro e w' ⟨rfl, ⟨nd, rfl⟩⟩; refine ⟨_, rfl, ?_⟩; have hnb138 := NB263_225.out; have hnc138 := NB225_263.out; have hnb139 := NB263_233.out; have hnc139 := NB233_263.out; have hnb140 := NB263_270.out; have hnc140 := NB270_263.out; have hcz141_0 : w102.cell? ⟨gb263, 0, none⟩ = some (.bool t257) := (blk_cell BK263.out 0).trans rfl; have hcz141_1 : w102.cell? ⟨gb263, 1, none⟩ = some (.int .i64 t258) := (blk_cell BK263.out 1).trans rfl; have hcz141_2 : w102.cell? ⟨gb263, 2, none⟩ = some (.int .i64 t259) := (blk_cell BK263.out 2).trans rfl; have hcz141_3 : w102.cell? ⟨gb263, 3, none⟩ = some (.int .i64 t260) := (blk_cell BK263.out 3).trans rfl; have hfz141_0 := blk_frozen BK263.out 0; have hfz141_1 := blk_frozen BK263.out 1; have hfz141_2 := blk_frozen BK263.out 2; have hfz141_3 := blk_frozen BK263.out 3; have hnb142 := NB270_225.out; have hnc142 := NB225_270.out; have hnb143 := NB270_233.out; have hnc143 := NB233_270.out; have hcz144_0 : w102.cell? ⟨gb270, 0, none⟩ = some (.bool false) := (blk_cell BK270.out 0).trans rfl; have hcz144_1 : w102.cell? ⟨gb270, 1, none⟩ = some (.int .i64 0) := (blk_cell BK270.out 1).trans rfl; have hcz144_2 : w102.cell? ⟨gb270, 2, none⟩ = some (.int .i64 0) := (blk_cell BK270.out 2).trans rfl; have hcz144_3 : w102.cell? ⟨gb270, 3, none⟩ = some (.int .i64 0) := (blk_cell BK270.out 3).trans rfl; have hfz144_0 := blk_frozen BK270.out 0; have hfz144_1 := blk_frozen BK270.out 1; have hfz144_2 := blk_frozen BK270.out 2; have hfz144_3 := blk_frozen BK270.out 3))
                             go_meet
                             case rel => exact ⟨_, (false), (by first | rfl | (simp; done) | (simp [*]; done)), H', ⟨by have := HK1.out; have := HK2.out; have := HJ20.out; have := HJ48.out; have := HK5.out; have := HJ68.out; first | omega | exact Nat.le_refl _⟩, ⟨by (with_reducible repeat (first | apply Kd.R_alloc | apply Kd.R_drewN | apply Kd.R_drew)); exact Kd.R_mono (Kd.R_far (p := ⟨gb270, 3, none⟩) (Kd.R_far (p := ⟨gb270, 2, none⟩) (Kd.R_far (p := ⟨gb270, 1, none⟩) (Kd.R_far (p := ⟨gb270, 0, none⟩) (Kd.R_types HO_5.out BK270.out (by decide)) (fun _ hk => hk.2) (.bool t265)) (fun _ hk => hk.2) (.int .i64 t266)) (fun _ hk => hk.2) (.int .i64 t267)) (fun _ hk => hk.2) (.int .i64 t268)) (fun _ hk => trivial)⟩, ⟨by (with_reducible repeat (first | apply Kd.R_alloc | apply Kd.R_drewN | apply Kd.R_drew)); exact Kd.R_mono (Kd.R_far (p := ⟨gb270, 3, none⟩) (Kd.R_far (p := ⟨gb270, 2, none⟩) (Kd.R_far (p := ⟨gb270, 1, none⟩) (Kd.R_far (p := ⟨gb270, 0, none⟩) (Kd.R_types HO_10.out BK270.out (by decide)) (fun _ hk => hk.2) (.bool t265)) (fun _ hk => hk.2) (.int .i64 t266)) (fun _ hk => hk.2) (.int .i64 t267)) (fun _ hk => hk.2) (.int .i64 t268)) (fun _ hk => trivial)⟩, ⟨zf1 BK225.out NB225_270.out⟩, ⟨zf1 BK233.out NB233_270.out⟩, ⟨zf1 BK263.out NB263_270.out⟩, ⟨by (with_reducible repeat (first | refine blk_drewN ?_ _ | refine blk_drew ?_ | refine blk_alloc ?_ _)); refine blk_put (cs := #[.bool t265, .int .i64 t266, .int .i64 t267, .int .i64 0]) ?_ 3 _ rfl; (with_reducible repeat (first | refine blk_drewN ?_ _ | refine blk_drew ?_ | refine blk_alloc ?_ _)); refine blk_put (cs := #[.bool t265, .int .i64 t266, .int .i64 0, .int .i64 0]) ?_ 2 _ rfl; (with_reducible repeat (first | refine blk_drewN ?_ _ | refine blk_drew ?_ | refine blk_alloc ?_ _)); refine blk_put (cs := #[.bool t265, .int .i64 0, .int .i64 0, .int .i64 0]) ?_ 1 _ rfl; (with_reducible repeat (first | refine blk_drewN ?_ _ | refine blk_drew ?_ | refine blk_alloc ?_ _)); refine blk_put (cs := #[.bool false, .int .i64 0, .int .i64 0, .int .i64 0]) ?_ 0 _ rfl; (with_reducible repeat (first | refine blk_drewN ?_ _ | refine blk_drew ?_ | refine blk_alloc ?_ _)); exact BK270.out⟩, ⟨zw4 HB.out GE225.out GE233.out GE263.out GE270.out⟩⟩
                           ·rw [if_neg c117] at H
                            have c117b0 : (t261 == t269) = false := beq_eq_false_iff_ne.mpr c117
                            have c117b1 : (t261 != t269) = true := bne_iff_ne.mpr c117
                            have H' := Aside0.mk H
                            clear H
                            go_wp2_with (first | ((with_reducible refine gate_callee (f := 23) rfl ?_); refine goesL_ (some 157) rfl rfl Try.func23 (by kernel_rfl) rfl #[.int .i64 t262] rfl (by (try simp only [List.map_toArray, List.map_cons, List.map_nil]); first | done | rfl | (simp only [List.length_drop, List.length_take]; rfl)) ?_; (with_reducible refine (cellarlaw8_num.calls t262 t271 _ A107.out).mono ?_); rintro e w' ⟨rfl, ⟨nd, rfl⟩⟩; refine ⟨_, rfl, ?_⟩; have hnb145 := NB263_225.out; have hnc145 := NB225_263.out; have hnb146 := NB263_233.out; have hnc146 := NB233_263.out; have hnb147 := NB263_270.out; have hnc147 := NB270_263.out; have hcz148_0 : w102.cell? ⟨gb263, 0, none⟩ = some (.bool t257) := (blk_cell BK263.out 0).trans rfl; have hcz148_1 : w102.cell? ⟨gb263, 1, none⟩ = some (.int .i64 t258) := (blk_cell BK263.out 1).trans rfl; have hcz148_2 : w102.cell? ⟨gb263, 2, none⟩ = some (.int .i64 t259) := (blk_cell BK263.out 2).trans rfl; have hcz148_3 : w102.cell? ⟨gb263, 3, none⟩ = some (.int .i64 t260) := (blk_cell BK263.out 3).trans rfl; have hfz148_0 := blk_frozen BK263.out 0; have hfz148_1 := blk_frozen BK263.out 1; have hfz148_2 := blk_frozen BK263.out 2; have hfz148_3 := blk_frozen BK263.out 3; have hnb149 := NB270_225.out; have hnc149 := NB225_270.out; have hnb150 := NB270_233.out; have hnc150 := NB233_270.out; have hcz151_0 : w102.cell? ⟨gb270, 0, none⟩ = some (.bool false) := (blk_cell BK270.out 0).trans rfl; have hcz151_1 : w102.cell? ⟨gb270, 1, none⟩ = some (.int .i64 0) := (blk_cell BK270.out 1).trans rfl; have hcz151_2 : w102.cell? ⟨gb270, 2, none⟩ = some (.int .i64 0) := (blk_cell BK270.out 2).trans rfl; have hcz151_3 : w102.cell? ⟨gb270, 3, none⟩ = some (.int .i64 0) := (blk_cell BK270.out 3).trans rfl; have hfz151_0 := blk_frozen BK270.out 0; have hfz151_1 := blk_frozen BK270.out 1; have hfz151_2 := blk_frozen BK270.out 2; have hfz151_3 := blk_frozen BK270.out 3))
                            go_meet
                            case rel => exact ⟨_, (true), (by first | rfl | (simp; done) | (simp [*]; done)), H', ⟨by have := HK1.out; have := HK2.out; have := HJ20.out; have := HJ48.out; have := HK5.out; have := HJ68.out; first | omega | exact Nat.le_refl _⟩, ⟨by (with_reducible repeat (first | apply Kd.R_alloc | apply Kd.R_drewN | apply Kd.R_drew)); exact Kd.R_mono (Kd.R_far (p := ⟨gb270, 3, none⟩) (Kd.R_far (p := ⟨gb270, 2, none⟩) (Kd.R_far (p := ⟨gb270, 1, none⟩) (Kd.R_far (p := ⟨gb270, 0, none⟩) (Kd.R_types HO_5.out BK270.out (by decide)) (fun _ hk => hk.2) (.bool t265)) (fun _ hk => hk.2) (.int .i64 t266)) (fun _ hk => hk.2) (.int .i64 t267)) (fun _ hk => hk.2) (.int .i64 t268)) (fun _ hk => trivial)⟩, ⟨by (with_reducible repeat (first | apply Kd.R_alloc | apply Kd.R_drewN | apply Kd.R_drew)); exact Kd.R_mono (Kd.R_far (p := ⟨gb270, 3, none⟩) (Kd.R_far (p := ⟨gb270, 2, none⟩) (Kd.R_far (p := ⟨gb270, 1, none⟩) (Kd.R_far (p := ⟨gb270, 0, none⟩) (Kd.R_types HO_10.out BK270.out (by decide)) (fun _ hk => hk.2) (.bool t265)) (fun _ hk => hk.2) (.int .i64 t266)) (fun _ hk => hk.2) (.int .i64 t267)) (fun _ hk => hk.2) (.int .i64 t268)) (fun _ hk => trivial)⟩, ⟨zf1 BK225.out NB225_270.out⟩, ⟨zf1 BK233.out NB233_270.out⟩, ⟨zf1 BK263.out NB263_270.out⟩, ⟨by (with_reducible repeat (first | refine blk_drewN ?_ _ | refine blk_drew ?_ | refine blk_alloc ?_ _)); refine blk_put (cs := #[.bool t265, .int .i64 t266, .int .i64 t267, .int .i64 0]) ?_ 3 _ rfl; (with_reducible repeat (first | refine blk_drewN ?_ _ | refine blk_drew ?_ | refine blk_alloc ?_ _)); refine blk_put (cs := #[.bool t265, .int .i64 t266, .int .i64 0, .int .i64 0]) ?_ 2 _ rfl; (with_reducible repeat (first | refine blk_drewN ?_ _ | refine blk_drew ?_ | refine blk_alloc ?_ _)); refine blk_put (cs := #[.bool t265, .int .i64 0, .int .i64 0, .int .i64 0]) ?_ 1 _ rfl; (with_reducible repeat (first | refine blk_drewN ?_ _ | refine blk_drew ?_ | refine blk_alloc ?_ _)); refine blk_put (cs := #[.bool false, .int .i64 0, .int .i64 0, .int .i64 0]) ?_ 0 _ rfl; (with_reducible repeat (first | refine blk_drewN ?_ _ | refine blk_drew ?_ | refine blk_alloc ?_ _)); exact BK270.out⟩, ⟨zw4 HB.out GE225.out GE233.out GE263.out GE270.out⟩⟩
                         ·rw [if_neg c108] at H
                          have c108b0 : (t271 == 0) = false := beq_eq_false_iff_ne.mpr c108
                          have c108b1 : (t271 != 0) = true := bne_iff_ne.mpr c108
                          (first | rw [c108b0] | (simp only [i64_w, i32_w]; rw [c108b0]) | skip)
                          have H' := Aside0.mk H
                          clear H
                          go_wp2_with (first | ((with_reducible refine gate_callee (f := 23) rfl ?_); refine goesL_ (some 157) rfl rfl Try.func23 (by kernel_rfl) rfl #[.int .i64 t262] rfl (by (try simp only [List.map_toArray, List.map_cons, List.map_nil]); first | done | rfl | (simp only [List.length_drop, List.length_take]; rfl)) ?_; (with_reducible refine (cellarlaw8_num.calls t262 t271 _ A107.out).mono ?_); rintro e w' ⟨rfl, ⟨nd, rfl⟩⟩; refine ⟨_, rfl, ?_⟩))
                          go_meet
                          case rel => exact ⟨_, (true), (by first | rfl | (simp; done) | (simp [*]; done)), H', ⟨by have := HK1.out; have := HK2.out; have := HJ20.out; have := HJ48.out; have := HK5.out; have := HJ68.out; first | omega | exact Nat.le_refl _⟩, ⟨by (with_reducible repeat (first | apply Kd.R_alloc | apply Kd.R_drewN | apply Kd.R_drew)); exact Kd.R_mono (Kd.R_far (p := ⟨gb270, 3, none⟩) (Kd.R_far (p := ⟨gb270, 2, none⟩) (Kd.R_far (p := ⟨gb270, 1, none⟩) (Kd.R_far (p := ⟨gb270, 0, none⟩) (Kd.R_types HO_5.out BK270.out (by decide)) (fun _ hk => hk.2) (.bool t265)) (fun _ hk => hk.2) (.int .i64 t266)) (fun _ hk => hk.2) (.int .i64 t267)) (fun _ hk => hk.2) (.int .i64 t268)) (fun _ hk => trivial)⟩, ⟨by (with_reducible repeat (first | apply Kd.R_alloc | apply Kd.R_drewN | apply Kd.R_drew)); exact Kd.R_mono (Kd.R_far (p := ⟨gb270, 3, none⟩) (Kd.R_far (p := ⟨gb270, 2, none⟩) (Kd.R_far (p := ⟨gb270, 1, none⟩) (Kd.R_far (p := ⟨gb270, 0, none⟩) (Kd.R_types HO_10.out BK270.out (by decide)) (fun _ hk => hk.2) (.bool t265)) (fun _ hk => hk.2) (.int .i64 t266)) (fun _ hk => hk.2) (.int .i64 t267)) (fun _ hk => hk.2) (.int .i64 t268)) (fun _ hk => trivial)⟩, ⟨zf1 BK225.out NB225_270.out⟩, ⟨zf1 BK233.out NB233_270.out⟩, ⟨zf1 BK263.out NB263_270.out⟩, ⟨by (with_reducible repeat (first | refine blk_drewN ?_ _ | refine blk_drew ?_ | refine blk_alloc ?_ _)); refine blk_put (cs := #[.bool t265, .int .i64 t266, .int .i64 t267, .int .i64 0]) ?_ 3 _ rfl; (with_reducible repeat (first | refine blk_drewN ?_ _ | refine blk_drew ?_ | refine blk_alloc ?_ _)); refine blk_put (cs := #[.bool t265, .int .i64 t266, .int .i64 0, .int .i64 0]) ?_ 2 _ rfl; (with_reducible repeat (first | refine blk_drewN ?_ _ | refine blk_drew ?_ | refine blk_alloc ?_ _)); refine blk_put (cs := #[.bool t265, .int .i64 0, .int .i64 0, .int .i64 0]) ?_ 1 _ rfl; (with_reducible repeat (first | refine blk_drewN ?_ _ | refine blk_drew ?_ | refine blk_alloc ?_ _)); refine blk_put (cs := #[.bool false, .int .i64 0, .int .i64 0, .int .i64 0]) ?_ 0 _ rfl; (with_reducible repeat (first | refine blk_drewN ?_ _ | refine blk_drew ?_ | refine blk_alloc ?_ _)); exact BK270.out⟩, ⟨zw4 HB.out GE225.out GE233.out GE263.out GE270.out⟩⟩
                        case rest => as_aux_lemma =>
                         clear HC94
                         try clear c1
                         try clear c2
                         try clear p2
                         try clear q2
                         try clear hx2
                         try clear c3
                         try clear c5
                         try clear c6
                         try clear p6
                         try clear c7
                         try clear p7
                         try clear q7
                         try clear hx7
                         try clear hf7
                         try clear c8
                         try clear p8
                         try clear q8
                         try clear hx8
                         try clear hf8
                         try clear c9
                         try clear c10
                         try clear c11
                         try clear c12
                         try clear c13
                         try clear c14
                         try clear c15
                         try clear c16
                         try clear c17
                         try clear c22
                         try clear c23
                         try clear c24
                         try clear p24
                         try clear q24
                         try clear hx24
                         try clear p25
                         try clear q25
                         try clear hx25
                         try clear p26
                         try clear q26
                         try clear hx26
                         try clear c30
                         try clear c53
                         try clear c53b0
                         try clear c53b1
                         try clear c56
                         try clear p64
                         try clear c66
                         try clear c67
                         try clear c67b0
                         try clear c72
                         try clear c72b0
                         try clear c72b1
                         try clear c73
                         try clear c73b0
                         try clear c73b1
                         try clear c73b2
                         try clear c75
                         try clear c75b0
                         try clear c76
                         try clear c76b0
                         try clear c77
                         try clear p77
                         try clear q77
                         try clear hx77
                         try clear hf77
                         try clear c79
                         try clear hx79
                         try clear hf79
                         try clear c81
                         try clear c81b0
                         try clear c81b1
                         try clear c82
                         try clear c82b0
                         try clear c82b1
                         try clear c82b2
                         try clear c84
                         try clear c84b0
                         try clear c85
                         try clear c85b0
                         try clear c86
                         try clear p86
                         try clear q86
                         try clear hx86
                         try clear hf86
                         try clear c88
                         try clear hx88
                         try clear hf88
                         try clear c90
                         try clear c90b0
                         try clear c91
                         try clear c91b0
                         try clear c98
                         try clear c99
                         try clear c103
                         try clear c104
                         try clear c105
                         try clear c108
                         try clear c108b0
                         try clear c108b1
                         try clear c109
                         try clear c109b0
                         try clear c110
                         try clear c111
                         try clear c112
                         try clear c114
                         try clear c115
                         try clear c117
                         try clear c117b0
                         try clear c117b1
                         try clear c118
                         try clear c118b0
                         try clear c118b1
                         try clear c119
                         try clear c119b0
                         try clear c120
                         try clear c121
                         try clear c122
                         try clear c124
                         try clear c125
                         try clear c127
                         try clear c129
                         try clear c130
                         try clear c131
                         try clear c133
                         try clear c134
                         try clear c136
                         try clear c138
                         try clear c139
                         try clear c140
                         try clear c142
                         try clear c143
                         try clear c145
                         try clear c146
                         try clear c147
                         try clear c149
                         try clear c150
                         try clear hcz100_0
                         try clear hcz100_1
                         try clear hcz100_2
                         try clear hcz100_3
                         try clear hcz106_0
                         try clear hcz106_1
                         try clear hcz106_2
                         try clear hcz106_3
                         try clear hcz113_0
                         try clear hcz113_1
                         try clear hcz113_2
                         try clear hcz113_3
                         try clear hcz116_0
                         try clear hcz116_1
                         try clear hcz116_2
                         try clear hcz116_3
                         try clear hcz123_0
                         try clear hcz123_1
                         try clear hcz123_2
                         try clear hcz123_3
                         try clear hcz126_0
                         try clear hcz126_1
                         try clear hcz126_2
                         try clear hcz126_3
                         try clear hcz128_0
                         try clear hcz128_1
                         try clear hcz128_2
                         try clear hcz128_3
                         try clear hcz132_0
                         try clear hcz132_1
                         try clear hcz132_2
                         try clear hcz132_3
                         try clear hcz135_0
                         try clear hcz135_1
                         try clear hcz135_2
                         try clear hcz135_3
                         try clear hcz137_0
                         try clear hcz137_1
                         try clear hcz137_2
                         try clear hcz137_3
                         try clear hcz141_0
                         try clear hcz141_1
                         try clear hcz141_2
                         try clear hcz141_3
                         try clear hcz144_0
                         try clear hcz144_1
                         try clear hcz144_2
                         try clear hcz144_3
                         try clear hcz148_0
                         try clear hcz148_1
                         try clear hcz148_2
                         try clear hcz148_3
                         try clear hcz151_0
                         try clear hcz151_1
                         try clear hcz151_2
                         try clear hcz151_3
                         try clear hfz100_0
                         try clear hfz100_1
                         try clear hfz100_2
                         try clear hfz100_3
                         try clear hfz106_0
                         try clear hfz106_1
                         try clear hfz106_2
                         try clear hfz106_3
                         try clear hfz113_0
                         try clear hfz113_1
                         try clear hfz113_2
                         try clear hfz113_3
                         try clear hfz116_0
                         try clear hfz116_1
                         try clear hfz116_2
                         try clear hfz116_3
                         try clear hfz123_0
                         try clear hfz123_1
                         try clear hfz123_2
                         try clear hfz123_3
                         try clear hfz126_0
                         try clear hfz126_1
                         try clear hfz126_2
                         try clear hfz126_3
                         try clear hfz128_0
                         try clear hfz128_1
                         try clear hfz128_2
                         try clear hfz128_3
                         try clear hfz132_0
                         try clear hfz132_1
                         try clear hfz132_2
                         try clear hfz132_3
                         try clear hfz135_0
                         try clear hfz135_1
                         try clear hfz135_2
                         try clear hfz135_3
                         try clear hfz137_0
                         try clear hfz137_1
                         try clear hfz137_2
                         try clear hfz137_3
                         try clear hfz141_0
                         try clear hfz141_1
                         try clear hfz141_2
                         try clear hfz141_3
                         try clear hfz144_0
                         try clear hfz144_1
                         try clear hfz144_2
                         try clear hfz144_3
                         try clear hfz148_0
                         try clear hfz148_1
                         try clear hfz148_2
                         try clear hfz148_3
                         try clear hfz151_0
                         try clear hfz151_1
                         try clear hfz151_2
                         try clear hfz151_3
                         try clear hx246_0
                         try clear hx246_1
                         try clear hx256_0
                         try clear hx256_1
                         try clear hx264_0
                         try clear hx264_1
                         try clear hx77_0
                         try clear hx77_1
                         try clear hx77_2
                         try clear hx77_3
                         try clear hx77_4
                         try clear hx79_0
                         try clear hx79_1
                         try clear hx79_2
                         try clear hx79_3
                         try clear hx79_4
                         try clear hx86_0
                         try clear hx86_1
                         try clear hx86_2
                         try clear hx86_3
                         try clear hx86_4
                         try clear hx88_0
                         try clear hx88_1
                         try clear hx88_2
                         try clear hx88_3
                         try clear hx88_4
                         try clear p2
                         try clear p24
                         try clear p246
                         try clear p256
                         try clear p264
                         try clear p6
                         try clear p64
                         try clear p7
                         try clear p77
                         try clear p8
                         try clear p86
                         try clear q2
                         try clear q24
                         try clear q246
                         try clear q256
                         try clear q264
                         try clear q7
                         try clear q77
                         try clear q8
                         try clear q86
                         obtain ⟨kq, x181_93, rfl, HA, HJ93, HO_5, HO_10, BK225, BK233, BK263, BK270, HB⟩ := hcut
                         cases kq with
                         | zero => exact absurd HA.out (by simp [cellarlaw8_kind.j6])
                         | succ kj93 =>
                          have H := HA.out
                          clear HA
                          simp only [cellarlaw8_kind.j6] at H
                          by_cases c152 : x181_93 = true
                          ·subst c152
                           have H1 : (some false) = some r := by rw [if_pos rfl] at H; exact H
                           clear H
                           have H := H1
                           clear H1
                           obtain rfl := Option.some.inj H
                           go_wp2
                           go_ret
                           exact ⟨by first | rfl | (simp [errW_none, errW_some] <;> rfl) | (simp [*, errW_none, errW_some] <;> rfl), zw4 HB.out GE225.out GE233.out GE263.out GE270.out⟩
                          ·replace c152 := Bool.eq_false_iff.mpr c152
                           subst c152
                           have H1 : (cellarlaw8_kind.l2 kj93 a1 t227 x6_1 x7_2 x10_5 (wrap64 (x12_5 + 1)) x234000_20 x234001_20 x234002_20 x234003_20) = some r := by rw [if_neg (show ¬ (false = true) by decide)] at H; exact H
                           clear H
                           have H := H1
                           clear H1
                           have H' := Aside0.mk H
                           clear H
                           go_wp2
                           go_roundg kj93
                           case measure => have := HK1.out; have := HK2.out; have := HJ20.out; have := HJ48.out; have := HK5.out; have := HJ68.out; have := HJ93.out; omega
                           case rel => exact ⟨(x10_5), (wrap64 (x12_5 + 1)), (by first | rfl | (simp; done) | (simp [*]; done)), H', ⟨by have := HK1.out; have := HK2.out; have := HJ20.out; have := HJ48.out; have := HK5.out; have := HJ68.out; have := HJ93.out; omega⟩, ⟨by (with_reducible repeat (first | apply Kd.R_alloc | apply Kd.R_drewN | apply Kd.R_drew)); exact HO_5.out⟩, ⟨by (with_reducible repeat (first | apply Kd.R_alloc | apply Kd.R_drewN | apply Kd.R_drew)); exact HO_10.out⟩, ⟨zb BK225.out⟩, ⟨zb BK233.out⟩, ⟨zw4 HB.out GE225.out GE233.out GE263.out GE270.out⟩⟩
                       ·rw [if_neg c91] at H
                        exact absurd H (by simp)
                      ·rw [if_neg c90] at H
                       exact absurd H (by simp)
                   ·rw [if_neg c67] at H
                    have c67b0 : decide (x12_5 < 3) = false := decide_eq_false c67
                    clear c67
                    have H' := Aside0.mk H
                    clear H
                    go_wp2
                    go_roundg k5
                    case measure => have := HK1.out; have := HK2.out; have := HJ20.out; have := HJ48.out; have := HK5.out; omega
                    case rel => exact ⟨(wrap64 (x7_2 + 1)), (by first | rfl | (simp; done) | (simp [*]; done)), H', ⟨by have := HK1.out; have := HK2.out; have := HJ20.out; have := HJ48.out; have := HK5.out; omega⟩, ⟨by (with_reducible repeat (first | apply Kd.R_alloc | apply Kd.R_drewN | apply Kd.R_drew)); exact HO_5.out⟩, ⟨zb BK225.out⟩, ⟨zw2 HB.out GE225.out GE233.out⟩⟩
             ·rw [if_neg c47] at H
              exact absurd H (by simp)
            ·rw [if_neg c46] at H
             exact absurd H (by simp)
         ·rw [if_neg c20] at H
          have c20b0 : decide (x7_2 < 20) = false := decide_eq_false c20
          clear c20
          have H' := Aside0.mk H
          clear H
          go_wp2
          go_roundg k2
          case measure => have := HK1.out; have := HK2.out; omega
          case rel => exact ⟨(wrap64 (x6_1 + 1)), (by first | rfl | (simp; done) | (simp [*]; done)), H', ⟨by have := HK1.out; have := HK2.out; omega⟩, ⟨by (with_reducible repeat (first | apply Kd.R_alloc | apply Kd.R_drewN | apply Kd.R_drew)); exact HO_5.out⟩, ⟨zb BK225.out⟩, ⟨zw1 HB.out GE225.out⟩⟩
      ·replace c17 := Bool.eq_false_iff.mpr c17
       subst c17
       have H1 : (cellarlaw8_kind.l0 k1 a1 t227 (wrap64 (x6_1 + 1))) = some r := by rw [if_neg (show ¬ (false = true) by decide)] at H; exact H
       clear H
       have H := H1
       clear H1
       have H' := Aside0.mk H
       clear H
       obtain ⟨Ao153, co153, eo153⟩ := Kd.R_slice HO_5.out
       subst eo153
       have p231 : 0 ≤ (x6_1 : Int) := zdec
       have q231 : x6_1 < (t227.length : Int) := zdec
       obtain ⟨ad231, e231, hx231_0, hx231_1⟩ := at_T38 (Kd.R_reads' HO_5.out).2.2 x6_1 p231 q231
       cases e231
       replace p231 := eq_true p231
       replace q231 := eq_true q231
       go_wp2_with (first | ((with_reducible refine gate_callee (f := 18) rfl ?_); refine goesL_ (some 34) rfl rfl Try.func18 (by kernel_rfl) rfl #[.agg #[.bool ((rd_T38 t227 x6_1).f0), .int .i64 ((rd_T38 t227 x6_1).f1)]] rfl (by (try simp only [List.map_toArray, List.map_cons, List.map_nil]); first | done | rfl | (simp only [List.length_drop, List.length_take]; rfl)) ?_; (with_reducible refine (cellarref1_Abi.calls ((rd_T38 t227 x6_1).f0) ((rd_T38 t227 x6_1).f1) false _ A16.out).mono ?_); rintro e w154 ⟨rfl, hb⟩; refine ⟨_, rfl, ?_⟩; have n0_ := Aside0.mk (Kd.R_below (by (with_reducible repeat (first | apply Kd.R_alloc | apply Kd.R_drewN | apply Kd.R_drew)); exact HO_5.out) hb); have n1_ := Aside0.mk (blk_below (g := gb225) (o := .cells #[.slice A0_0 l0_0.length c0_0, .slice A0_1 l0_1.length c0_1, .slice A0_2 l0_2.length c0_2] 26 (0, 0)) (zb BK225.out) hb); have n2_ := Aside0.mk (below_step (zw1 HB.out GE225.out) hb); clear HO_5; clear BK225; clear HB; have HO_5 := n0_; have BK225 := n1_; have HB := n2_; clear n0_ n1_ n2_; (try clear hb); (try clear hb2); (try clear hk); (try clear hi)))
       go_roundg k1
       case measure => have := HK1.out; omega
       case rel => exact ⟨(wrap64 (x6_1 + 1)), (by first | rfl | (simp; done) | (simp [*]; done)), H', ⟨by have := HK1.out; omega⟩, ⟨by (with_reducible repeat (first | apply Kd.R_alloc | apply Kd.R_drewN | apply Kd.R_drew)); exact HO_5.out⟩, ⟨zb BK225.out⟩, ⟨zw1 HB.out GE225.out⟩⟩
     ·rw [if_neg c15] at H
      exact absurd H (by simp)
    ·rw [if_neg c14] at H
     have c14b0 : decide (x6_1 < (t227.length : Int)) = false := decide_eq_false c14
     clear c14
     replace H := Option.bind_eq_some_iff.mp H
     obtain ⟨t230, A1550, H⟩ := H
     replace H : (some t230) = some r := H
     have A155 := Aside0.mk A1550
     clear A1550
     obtain rfl := Option.some.inj H
     obtain ⟨Ao156, co156, eo156⟩ := Kd.R_slice HO_5.out
     subst eo156
     go_wp2_with (first | ((with_reducible refine gate_callee (f := 25) rfl ?_); refine goesL_ (some 182) rfl rfl Try.func25 (by kernel_rfl) rfl #[] rfl (by (try simp only [List.map_toArray, List.map_cons, List.map_nil]); first | done | rfl | (simp only [List.length_drop, List.length_take]; rfl)) ?_; (with_reducible refine (cellarlaw8_wakes.calls k1  t230 _ A155.out).mono ?_); rintro e w157 ⟨rfl, hb⟩; refine ⟨_, rfl, ?_⟩; have n0_ := Aside0.mk (Kd.R_below (by (with_reducible repeat (first | apply Kd.R_alloc | apply Kd.R_drewN | apply Kd.R_drew)); exact HO_5.out) hb); have n1_ := Aside0.mk (blk_below (g := gb225) (o := .cells #[.slice A0_0 l0_0.length c0_0, .slice A0_1 l0_1.length c0_1, .slice A0_2 l0_2.length c0_2] 26 (0, 0)) (zb BK225.out) hb); have n2_ := Aside0.mk (below_step (zw1 HB.out GE225.out) hb); clear HO_5; clear BK225; clear HB; have HO_5 := n0_; have BK225 := n1_; have HB := n2_; clear n0_ n1_ n2_; (try clear hb); (try clear hb2); (try clear hk); (try clear hi)))
     go_ret
     exact ⟨by first | rfl | (simp [errW_none, errW_some] <;> rfl) | (simp [*, errW_none, errW_some] <;> rfl), zw1 HB.out GE225.out⟩

end Go.Proofs.Ythhdmanpjeminaa.D
