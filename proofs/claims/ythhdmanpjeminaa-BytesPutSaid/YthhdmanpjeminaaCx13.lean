-- Written by this session's own edition of the print.
import Derived.Test.YthhdmanpjeminaaCx0
import Derived.Test.YthhdmanpjeminaaCx3
import Derived.Test.YthhdmanpjeminaaCx5
import Derived.Test.YthhdmanpjeminaaCx6
import Derived.Test.YthhdmanpjeminaaCx8
import Derived.Test.YthhdmanpjeminaaCx9
import Derived.Test.YthhdmanpjeminaaCx11
import Derived.Test.YthhdmanpjeminaaCx12
namespace Go.Proofs.Ythhdmanpjeminaa.C
open Go.RowKit Go.Proofs.Ythhdmanpjeminaa.Fn Go.Proofs.YthhdmanpjeminaaW.PrintWords Go.Proofs.YthhdmanpjeminaaW.PrintLast Go.Proofs.YthhdmanpjeminaaW.PrintMore
attribute [local go_sem] max2_int min2_int max_two min_two max_three min_three max_four min_four   -- for this text's walks alone
set_option linter.unusedVariables false
set_option linter.unusedSimpArgs false

/-! ### cellarlaw8_BytesPut: function 12 -/
mutual
def cellarlaw8_BytesPut.l0 : Nat → List (S38) → List (S33) → Int → List (S38) → List (S33) → List (S51) → Option (Bool)
 | 0, _, _, _, _, _, _ => none
 | k + 1, x3, x4, x5, x304000, x304001, x304002 => if x5 < (x4.length : Int) then (cellarlaw8_BytesPut.j1 k x3 x4 x5 (decide (x5 < 16)) x304000 x304001 x304002) else (cellarlaw8_BytesPut.j1 k x3 x4 x5 false x304000 x304001 x304002)
def cellarlaw8_BytesPut.j1 : Nat → List (S38) → List (S33) → Int → Bool → List (S38) → List (S33) → List (S51) → Option (Bool)
 | 0, _, _, _, _, _, _, _ => none
 | k + 1, x3, x4, x5, x35, x304000, x304001, x304002 => if x35 = true then (cellarlaw8_BytesPut.l1 k x3 x4 x5 (-1) x304000 x304001 x304002) else (cellarlaw8_BytesPut.l3 k 0 x304000 x304001 x304002)
def cellarlaw8_BytesPut.l1 : Nat → List (S38) → List (S33) → Int → Int → List (S38) → List (S33) → List (S51) → Option (Bool)
 | 0, _, _, _, _, _, _, _ => none
 | k + 1, x3, x4, x5, x6, x304000, x304001, x304002 => if x6 ≤ 11 then (if 0 ≤ x5 then (if x5 < (x4.length : Int) then ((bytes_Check.f x6 ((rd_T33 x4 x5).f0) ((rd_T33 x4 x5).f1) ((rd_T33 x4 x5).f2) ((rd_T33 x4 x5).f3)).bind fun t315 => ((cellarlaw8_num.f t315).bind fun t316 => ((cellarref7_Scalar.f k x6 ((rd_T33 x4 x5).f0) ((rd_T33 x4 x5).f1) ((rd_T33 x4 x5).f2) ((rd_T33 x4 x5).f3)).bind fun t318 => (if ((t316 == 0) != t318) = true then (some false) else (cellarlaw8_BytesPut.l2 k x3 x4 x5 x6 0 x304000 x304001 x304002))))) else (none)) else (none)) else (cellarlaw8_BytesPut.l0 k x3 x4 (wrap64 (x5 + 1)) x304000 x304001 x304002)
def cellarlaw8_BytesPut.l2 : Nat → List (S38) → List (S33) → Int → Int → Int → List (S38) → List (S33) → List (S51) → Option (Bool)
 | 0, _, _, _, _, _, _, _, _ => none
 | k + 1, x3, x4, x5, x6, x7, x304000, x304001, x304002 => if x7 < (x3.length : Int) then (if 0 ≤ x7 then (if 0 ≤ x5 then (if x5 < (x4.length : Int) then ((bytes_Put.f k ((rd_T38 x3 x7).f0) ((rd_T38 x3 x7).f1) x6 ((rd_T33 x4 x5).f0) ((rd_T33 x4 x5).f1) ((rd_T33 x4 x5).f2) ((rd_T33 x4 x5).f3)).bind fun bt321 => ((cellarref1_Abi.f ((rd_T38 x3 x7).f0) ((rd_T38 x3 x7).f1)).bind fun t326 => (if t326 = true then ((cellarref7_Scalar.f k x6 ((rd_T33 x4 x5).f0) ((rd_T33 x4 x5).f1) ((rd_T33 x4 x5).f2) ((rd_T33 x4 x5).f3)).bind fun t328 => (cellarlaw8_BytesPut.j4 k x3 x4 x5 x6 x7 bt321.1 bt321.2 1 ([] : List (S51)) t328 x304000 x304001 x304002)) else (cellarlaw8_BytesPut.j4 k x3 x4 x5 x6 x7 bt321.1 bt321.2 1 ([] : List (S51)) false x304000 x304001 x304002)))) else (none)) else (none)) else (none)) else (cellarlaw8_BytesPut.l1 k x3 x4 x5 (wrap64 (x6 + 1)) x304000 x304001 x304002)
def cellarlaw8_BytesPut.j4 : Nat → List (S38) → List (S33) → Int → Int → Int → List (S51) → Int → Int → List (S51) → Bool → List (S38) → List (S33) → List (S51) → Option (Bool)
 | 0, _, _, _, _, _, _, _, _, _, _, _, _, _ => none
 | k + 1, x3, x4, x5, x6, x7, x8, x9, x10, x11, x88, x304000, x304001, x304002 => if x88 = true then (if 0 ≤ x7 then (if x7 < (x3.length : Int) then (if 0 ≤ x5 then (if x5 < (x4.length : Int) then ((cellarref7_Put.f k ((rd_T38 x3 x7).f0) ((rd_T38 x3 x7).f1) x6 ((rd_T33 x4 x5).f0) ((rd_T33 x4 x5).f1) ((rd_T33 x4 x5).f2) ((rd_T33 x4 x5).f3)).bind fun t331 => (cellarlaw8_BytesPut.j5 k x3 x4 x5 x6 x7 x8 x9 0 t331 x304000 x304001 x304002)) else (none)) else (none)) else (none)) else (none)) else (cellarlaw8_BytesPut.j5 k x3 x4 x5 x6 x7 x8 x9 x10 x11 x304000 x304001 x304002)
def cellarlaw8_BytesPut.j5 : Nat → List (S38) → List (S33) → Int → Int → Int → List (S51) → Int → Int → List (S51) → List (S38) → List (S33) → List (S51) → Option (Bool)
 | 0, _, _, _, _, _, _, _, _, _, _, _, _ => none
 | k + 1, x3, x4, x5, x6, x7, x8, x9, x10, x11, x304000, x304001, x304002 => (cellarlaw8_num.f x9).bind fun t334 => (if t334 = x10 then ((cellarref0_EqBytes.f k x8 x11).bind fun t335 => (if t335 = true then ((cellarlaw0_Bytes.f k x8).bind fun t336 => (cellarlaw8_BytesPut.l2 k x3 x4 x5 x6 (wrap64 (x7 + 1)) x304000 x304001 x304002)) else (some false))) else (some false))
def cellarlaw8_BytesPut.l3 : Nat → Int → List (S38) → List (S33) → List (S51) → Option (Bool)
 | 0, _, _, _, _ => none
 | k + 1, x12, x304000, x304001, x304002 => if x12 < (x304002.length : Int) then (cellarlaw8_BytesPut.j7 k x12 (decide (x12 < 20)) x304000 x304001 x304002) else (cellarlaw8_BytesPut.j7 k x12 false x304000 x304001 x304002)
def cellarlaw8_BytesPut.j7 : Nat → Int → Bool → List (S38) → List (S33) → List (S51) → Option (Bool)
 | 0, _, _, _, _, _ => none
 | k + 1, x12, x119, x304000, x304001, x304002 => if x119 = true then (if 0 ≤ x12 then (if x12 < (x304002.length : Int) then ((bytes_Byte.f ((rd_T51 x304002 x12).f0) ((rd_T51 x304002 x12).f1) ((rd_T51 x304002 x12).f2) ((rd_T51 x304002 x12).f3) ((rd_T51 x304002 x12).f4)).bind fun t339 => ((cellarlaw8_num.f t339).bind fun t340 => ((cellarref7_Byte.f ((rd_T51 x304002 x12).f0) ((rd_T51 x304002 x12).f1) ((rd_T51 x304002 x12).f2) ((rd_T51 x304002 x12).f3) ((rd_T51 x304002 x12).f4)).bind fun t342 => (if ((t340 == 0) != t342) = true then (some false) else (cellarlaw8_BytesPut.l3 k (wrap64 (x12 + 1)) x304000 x304001 x304002))))) else (none)) else (none)) else ((cellarlaw8_wakes.f k).bind fun t337 => (some t337))
end
def cellarlaw8_BytesPut.f (k : Nat) (l0_0 : List (S38)) (l0_1 : List (S33)) (l0_2 : List (S51)) : Option (Bool) := (cellarlaw8_Heavy.f l0_0 l0_1 l0_2).bind fun t304 => (if t304 = true then (some true) else ((cellarlaw8_Machines.f l0_0).bind fun t305 => ((some (([(⟨false, 0, 0, 0⟩ : S33), (⟨false, 200, 0, 0⟩ : S33), (⟨false, 4294967295, 0, 0⟩ : S33), (⟨true, 0, 0, 0⟩ : S33), (⟨true, 0, 3, 5⟩ : S33), (⟨true, 0, 0, 1⟩ : S33)] : List (S33)) : List (S33))).bind fun y308 => (if y308.length + l0_1.length < 4398046511104 then (cellarlaw8_BytesPut.l0 k t305 (y308 ++ l0_1) 0 l0_0 l0_1 l0_2) else (none)))))
theorem cellarlaw8_BytesPut.mono_l : ∀ k, (∀ y0 y1 y2 y3 y4 y5, LeO (cellarlaw8_BytesPut.l0 k y0 y1 y2 y3 y4 y5) (cellarlaw8_BytesPut.l0 (k + 1) y0 y1 y2 y3 y4 y5)) ∧ (∀ y0 y1 y2 y3 y4 y5 y6, LeO (cellarlaw8_BytesPut.j1 k y0 y1 y2 y3 y4 y5 y6) (cellarlaw8_BytesPut.j1 (k + 1) y0 y1 y2 y3 y4 y5 y6)) ∧ (∀ y0 y1 y2 y3 y4 y5 y6, LeO (cellarlaw8_BytesPut.l1 k y0 y1 y2 y3 y4 y5 y6) (cellarlaw8_BytesPut.l1 (k + 1) y0 y1 y2 y3 y4 y5 y6)) ∧ (∀ y0 y1 y2 y3 y4 y5 y6 y7, LeO (cellarlaw8_BytesPut.l2 k y0 y1 y2 y3 y4 y5 y6 y7) (cellarlaw8_BytesPut.l2 (k + 1) y0 y1 y2 y3 y4 y5 y6 y7)) ∧ (∀ y0 y1 y2 y3 y4 y5 y6 y7 y8 y9 y10 y11 y12, LeO (cellarlaw8_BytesPut.j4 k y0 y1 y2 y3 y4 y5 y6 y7 y8 y9 y10 y11 y12) (cellarlaw8_BytesPut.j4 (k + 1) y0 y1 y2 y3 y4 y5 y6 y7 y8 y9 y10 y11 y12)) ∧ (∀ y0 y1 y2 y3 y4 y5 y6 y7 y8 y9 y10 y11, LeO (cellarlaw8_BytesPut.j5 k y0 y1 y2 y3 y4 y5 y6 y7 y8 y9 y10 y11) (cellarlaw8_BytesPut.j5 (k + 1) y0 y1 y2 y3 y4 y5 y6 y7 y8 y9 y10 y11)) ∧ (∀ y0 y1 y2 y3, LeO (cellarlaw8_BytesPut.l3 k y0 y1 y2 y3) (cellarlaw8_BytesPut.l3 (k + 1) y0 y1 y2 y3)) ∧ (∀ y0 y1 y2 y3 y4, LeO (cellarlaw8_BytesPut.j7 k y0 y1 y2 y3 y4) (cellarlaw8_BytesPut.j7 (k + 1) y0 y1 y2 y3 y4))
 | 0 => ⟨fun _ _ _ _ _ _ r h => by simp [cellarlaw8_BytesPut.l0] at h, fun _ _ _ _ _ _ _ r h => by simp [cellarlaw8_BytesPut.j1] at h, fun _ _ _ _ _ _ _ r h => by simp [cellarlaw8_BytesPut.l1] at h, fun _ _ _ _ _ _ _ _ r h => by simp [cellarlaw8_BytesPut.l2] at h, fun _ _ _ _ _ _ _ _ _ _ _ _ _ r h => by simp [cellarlaw8_BytesPut.j4] at h, fun _ _ _ _ _ _ _ _ _ _ _ _ r h => by simp [cellarlaw8_BytesPut.j5] at h, fun _ _ _ _ r h => by simp [cellarlaw8_BytesPut.l3] at h, fun _ _ _ _ _ r h => by simp [cellarlaw8_BytesPut.j7] at h⟩
 | k + 1 => by
  obtain ⟨ih0, ih1, ih2, ih3, ih4, ih5, ih6, ih7⟩ := cellarlaw8_BytesPut.mono_l k
  refine ⟨?_, ?_, ?_, ?_, ?_, ?_, ?_, ?_⟩
  ·intro y0 y1 y2 y3 y4 y5
   unfold cellarlaw8_BytesPut.l0
   repeat' first
   | (with_reducible exact ih0 _ _ _ _ _ _)
   | (with_reducible exact ih1 _ _ _ _ _ _ _)
   | (with_reducible exact ih2 _ _ _ _ _ _ _)
   | (with_reducible exact ih3 _ _ _ _ _ _ _ _)
   | (with_reducible exact ih4 _ _ _ _ _ _ _ _ _ _ _ _ _)
   | (with_reducible exact ih5 _ _ _ _ _ _ _ _ _ _ _ _)
   | (with_reducible exact ih6 _ _ _ _)
   | (with_reducible exact ih7 _ _ _ _ _)
   | (with_reducible exact bytes_Put.mono _ _ _ _ _ _ _ _)
   | (with_reducible exact cellarlaw0_Bytes.mono _ _)
   | (with_reducible exact cellarlaw8_wakes.mono _)
   | (with_reducible exact cellarref0_EqBytes.mono _ _ _)
   | (with_reducible exact cellarref7_Put.mono _ _ _ _ _ _ _ _)
   | (with_reducible exact cellarref7_Scalar.mono _ _ _ _ _ _)
   | (with_reducible exact LeO.refl _)
   | (with_reducible exact LeO.none _)
   | (with_reducible refine LeO.ite ?_ ?_)
   | (with_reducible refine LeO.bind ?_ (fun _ => ?_))
   | exact ih0 _ _ _ _ _ _
   | exact ih1 _ _ _ _ _ _ _
   | exact ih2 _ _ _ _ _ _ _
   | exact ih3 _ _ _ _ _ _ _ _
   | exact ih4 _ _ _ _ _ _ _ _ _ _ _ _ _
   | exact ih5 _ _ _ _ _ _ _ _ _ _ _ _
   | exact ih6 _ _ _ _
   | exact ih7 _ _ _ _ _
   | exact bytes_Put.mono _ _ _ _ _ _ _ _
   | exact cellarlaw0_Bytes.mono _ _
   | exact cellarlaw8_wakes.mono _
   | exact cellarref0_EqBytes.mono _ _ _
   | exact cellarref7_Put.mono _ _ _ _ _ _ _ _
   | exact cellarref7_Scalar.mono _ _ _ _ _ _
   | exact LeO.none _
   | refine LeO.ite ?_ ?_
   | refine LeO.bind ?_ (fun _ => ?_)
  ·intro y0 y1 y2 y3 y4 y5 y6
   unfold cellarlaw8_BytesPut.j1
   repeat' first
   | (with_reducible exact ih0 _ _ _ _ _ _)
   | (with_reducible exact ih1 _ _ _ _ _ _ _)
   | (with_reducible exact ih2 _ _ _ _ _ _ _)
   | (with_reducible exact ih3 _ _ _ _ _ _ _ _)
   | (with_reducible exact ih4 _ _ _ _ _ _ _ _ _ _ _ _ _)
   | (with_reducible exact ih5 _ _ _ _ _ _ _ _ _ _ _ _)
   | (with_reducible exact ih6 _ _ _ _)
   | (with_reducible exact ih7 _ _ _ _ _)
   | (with_reducible exact bytes_Put.mono _ _ _ _ _ _ _ _)
   | (with_reducible exact cellarlaw0_Bytes.mono _ _)
   | (with_reducible exact cellarlaw8_wakes.mono _)
   | (with_reducible exact cellarref0_EqBytes.mono _ _ _)
   | (with_reducible exact cellarref7_Put.mono _ _ _ _ _ _ _ _)
   | (with_reducible exact cellarref7_Scalar.mono _ _ _ _ _ _)
   | (with_reducible exact LeO.refl _)
   | (with_reducible exact LeO.none _)
   | (with_reducible refine LeO.ite ?_ ?_)
   | (with_reducible refine LeO.bind ?_ (fun _ => ?_))
   | exact ih0 _ _ _ _ _ _
   | exact ih1 _ _ _ _ _ _ _
   | exact ih2 _ _ _ _ _ _ _
   | exact ih3 _ _ _ _ _ _ _ _
   | exact ih4 _ _ _ _ _ _ _ _ _ _ _ _ _
   | exact ih5 _ _ _ _ _ _ _ _ _ _ _ _
   | exact ih6 _ _ _ _
   | exact ih7 _ _ _ _ _
   | exact bytes_Put.mono _ _ _ _ _ _ _ _
   | exact cellarlaw0_Bytes.mono _ _
   | exact cellarlaw8_wakes.mono _
   | exact cellarref0_EqBytes.mono _ _ _
   | exact cellarref7_Put.mono _ _ _ _ _ _ _ _
   | exact cellarref7_Scalar.mono _ _ _ _ _ _
   | exact LeO.none _
   | refine LeO.ite ?_ ?_
   | refine LeO.bind ?_ (fun _ => ?_)
  ·intro y0 y1 y2 y3 y4 y5 y6
   unfold cellarlaw8_BytesPut.l1
   repeat' first
   | (with_reducible exact ih0 _ _ _ _ _ _)
   | (with_reducible exact ih1 _ _ _ _ _ _ _)
   | (with_reducible exact ih2 _ _ _ _ _ _ _)
   | (with_reducible exact ih3 _ _ _ _ _ _ _ _)
   | (with_reducible exact ih4 _ _ _ _ _ _ _ _ _ _ _ _ _)
   | (with_reducible exact ih5 _ _ _ _ _ _ _ _ _ _ _ _)
   | (with_reducible exact ih6 _ _ _ _)
   | (with_reducible exact ih7 _ _ _ _ _)
   | (with_reducible exact bytes_Put.mono _ _ _ _ _ _ _ _)
   | (with_reducible exact cellarlaw0_Bytes.mono _ _)
   | (with_reducible exact cellarlaw8_wakes.mono _)
   | (with_reducible exact cellarref0_EqBytes.mono _ _ _)
   | (with_reducible exact cellarref7_Put.mono _ _ _ _ _ _ _ _)
   | (with_reducible exact cellarref7_Scalar.mono _ _ _ _ _ _)
   | (with_reducible exact LeO.refl _)
   | (with_reducible exact LeO.none _)
   | (with_reducible refine LeO.ite ?_ ?_)
   | (with_reducible refine LeO.bind ?_ (fun _ => ?_))
   | exact ih0 _ _ _ _ _ _
   | exact ih1 _ _ _ _ _ _ _
   | exact ih2 _ _ _ _ _ _ _
   | exact ih3 _ _ _ _ _ _ _ _
   | exact ih4 _ _ _ _ _ _ _ _ _ _ _ _ _
   | exact ih5 _ _ _ _ _ _ _ _ _ _ _ _
   | exact ih6 _ _ _ _
   | exact ih7 _ _ _ _ _
   | exact bytes_Put.mono _ _ _ _ _ _ _ _
   | exact cellarlaw0_Bytes.mono _ _
   | exact cellarlaw8_wakes.mono _
   | exact cellarref0_EqBytes.mono _ _ _
   | exact cellarref7_Put.mono _ _ _ _ _ _ _ _
   | exact cellarref7_Scalar.mono _ _ _ _ _ _
   | exact LeO.none _
   | refine LeO.ite ?_ ?_
   | refine LeO.bind ?_ (fun _ => ?_)
  ·intro y0 y1 y2 y3 y4 y5 y6 y7
   unfold cellarlaw8_BytesPut.l2
   repeat' first
   | (with_reducible exact ih0 _ _ _ _ _ _)
   | (with_reducible exact ih1 _ _ _ _ _ _ _)
   | (with_reducible exact ih2 _ _ _ _ _ _ _)
   | (with_reducible exact ih3 _ _ _ _ _ _ _ _)
   | (with_reducible exact ih4 _ _ _ _ _ _ _ _ _ _ _ _ _)
   | (with_reducible exact ih5 _ _ _ _ _ _ _ _ _ _ _ _)
   | (with_reducible exact ih6 _ _ _ _)
   | (with_reducible exact ih7 _ _ _ _ _)
   | (with_reducible exact bytes_Put.mono _ _ _ _ _ _ _ _)
   | (with_reducible exact cellarlaw0_Bytes.mono _ _)
   | (with_reducible exact cellarlaw8_wakes.mono _)
   | (with_reducible exact cellarref0_EqBytes.mono _ _ _)
   | (with_reducible exact cellarref7_Put.mono _ _ _ _ _ _ _ _)
   | (with_reducible exact cellarref7_Scalar.mono _ _ _ _ _ _)
   | (with_reducible exact LeO.refl _)
   | (with_reducible exact LeO.none _)
   | (with_reducible refine LeO.ite ?_ ?_)
   | (with_reducible refine LeO.bind ?_ (fun _ => ?_))
   | exact ih0 _ _ _ _ _ _
   | exact ih1 _ _ _ _ _ _ _
   | exact ih2 _ _ _ _ _ _ _
   | exact ih3 _ _ _ _ _ _ _ _
   | exact ih4 _ _ _ _ _ _ _ _ _ _ _ _ _
   | exact ih5 _ _ _ _ _ _ _ _ _ _ _ _
   | exact ih6 _ _ _ _
   | exact ih7 _ _ _ _ _
   | exact bytes_Put.mono _ _ _ _ _ _ _ _
   | exact cellarlaw0_Bytes.mono _ _
   | exact cellarlaw8_wakes.mono _
   | exact cellarref0_EqBytes.mono _ _ _
   | exact cellarref7_Put.mono _ _ _ _ _ _ _ _
   | exact cellarref7_Scalar.mono _ _ _ _ _ _
   | exact LeO.none _
   | refine LeO.ite ?_ ?_
   | refine LeO.bind ?_ (fun _ => ?_)
  ·intro y0 y1 y2 y3 y4 y5 y6 y7 y8 y9 y10 y11 y12
   unfold cellarlaw8_BytesPut.j4
   repeat' first
   | (with_reducible exact ih0 _ _ _ _ _ _)
   | (with_reducible exact ih1 _ _ _ _ _ _ _)
   | (with_reducible exact ih2 _ _ _ _ _ _ _)
   | (with_reducible exact ih3 _ _ _ _ _ _ _ _)
   | (with_reducible exact ih4 _ _ _ _ _ _ _ _ _ _ _ _ _)
   | (with_reducible exact ih5 _ _ _ _ _ _ _ _ _ _ _ _)
   | (with_reducible exact ih6 _ _ _ _)
   | (with_reducible exact ih7 _ _ _ _ _)
   | (with_reducible exact bytes_Put.mono _ _ _ _ _ _ _ _)
   | (with_reducible exact cellarlaw0_Bytes.mono _ _)
   | (with_reducible exact cellarlaw8_wakes.mono _)
   | (with_reducible exact cellarref0_EqBytes.mono _ _ _)
   | (with_reducible exact cellarref7_Put.mono _ _ _ _ _ _ _ _)
   | (with_reducible exact cellarref7_Scalar.mono _ _ _ _ _ _)
   | (with_reducible exact LeO.refl _)
   | (with_reducible exact LeO.none _)
   | (with_reducible refine LeO.ite ?_ ?_)
   | (with_reducible refine LeO.bind ?_ (fun _ => ?_))
   | exact ih0 _ _ _ _ _ _
   | exact ih1 _ _ _ _ _ _ _
   | exact ih2 _ _ _ _ _ _ _
   | exact ih3 _ _ _ _ _ _ _ _
   | exact ih4 _ _ _ _ _ _ _ _ _ _ _ _ _
   | exact ih5 _ _ _ _ _ _ _ _ _ _ _ _
   | exact ih6 _ _ _ _
   | exact ih7 _ _ _ _ _
   | exact bytes_Put.mono _ _ _ _ _ _ _ _
   | exact cellarlaw0_Bytes.mono _ _
   | exact cellarlaw8_wakes.mono _
   | exact cellarref0_EqBytes.mono _ _ _
   | exact cellarref7_Put.mono _ _ _ _ _ _ _ _
   | exact cellarref7_Scalar.mono _ _ _ _ _ _
   | exact LeO.none _
   | refine LeO.ite ?_ ?_
   | refine LeO.bind ?_ (fun _ => ?_)
  ·intro y0 y1 y2 y3 y4 y5 y6 y7 y8 y9 y10 y11
   unfold cellarlaw8_BytesPut.j5
   repeat' first
   | (with_reducible exact ih0 _ _ _ _ _ _)
   | (with_reducible exact ih1 _ _ _ _ _ _ _)
   | (with_reducible exact ih2 _ _ _ _ _ _ _)
   | (with_reducible exact ih3 _ _ _ _ _ _ _ _)
   | (with_reducible exact ih4 _ _ _ _ _ _ _ _ _ _ _ _ _)
   | (with_reducible exact ih5 _ _ _ _ _ _ _ _ _ _ _ _)
   | (with_reducible exact ih6 _ _ _ _)
   | (with_reducible exact ih7 _ _ _ _ _)
   | (with_reducible exact bytes_Put.mono _ _ _ _ _ _ _ _)
   | (with_reducible exact cellarlaw0_Bytes.mono _ _)
   | (with_reducible exact cellarlaw8_wakes.mono _)
   | (with_reducible exact cellarref0_EqBytes.mono _ _ _)
   | (with_reducible exact cellarref7_Put.mono _ _ _ _ _ _ _ _)
   | (with_reducible exact cellarref7_Scalar.mono _ _ _ _ _ _)
   | (with_reducible exact LeO.refl _)
   | (with_reducible exact LeO.none _)
   | (with_reducible refine LeO.ite ?_ ?_)
   | (with_reducible refine LeO.bind ?_ (fun _ => ?_))
   | exact ih0 _ _ _ _ _ _
   | exact ih1 _ _ _ _ _ _ _
   | exact ih2 _ _ _ _ _ _ _
   | exact ih3 _ _ _ _ _ _ _ _
   | exact ih4 _ _ _ _ _ _ _ _ _ _ _ _ _
   | exact ih5 _ _ _ _ _ _ _ _ _ _ _ _
   | exact ih6 _ _ _ _
   | exact ih7 _ _ _ _ _
   | exact bytes_Put.mono _ _ _ _ _ _ _ _
   | exact cellarlaw0_Bytes.mono _ _
   | exact cellarlaw8_wakes.mono _
   | exact cellarref0_EqBytes.mono _ _ _
   | exact cellarref7_Put.mono _ _ _ _ _ _ _ _
   | exact cellarref7_Scalar.mono _ _ _ _ _ _
   | exact LeO.none _
   | refine LeO.ite ?_ ?_
   | refine LeO.bind ?_ (fun _ => ?_)
  ·intro y0 y1 y2 y3
   unfold cellarlaw8_BytesPut.l3
   repeat' first
   | (with_reducible exact ih0 _ _ _ _ _ _)
   | (with_reducible exact ih1 _ _ _ _ _ _ _)
   | (with_reducible exact ih2 _ _ _ _ _ _ _)
   | (with_reducible exact ih3 _ _ _ _ _ _ _ _)
   | (with_reducible exact ih4 _ _ _ _ _ _ _ _ _ _ _ _ _)
   | (with_reducible exact ih5 _ _ _ _ _ _ _ _ _ _ _ _)
   | (with_reducible exact ih6 _ _ _ _)
   | (with_reducible exact ih7 _ _ _ _ _)
   | (with_reducible exact bytes_Put.mono _ _ _ _ _ _ _ _)
   | (with_reducible exact cellarlaw0_Bytes.mono _ _)
   | (with_reducible exact cellarlaw8_wakes.mono _)
   | (with_reducible exact cellarref0_EqBytes.mono _ _ _)
   | (with_reducible exact cellarref7_Put.mono _ _ _ _ _ _ _ _)
   | (with_reducible exact cellarref7_Scalar.mono _ _ _ _ _ _)
   | (with_reducible exact LeO.refl _)
   | (with_reducible exact LeO.none _)
   | (with_reducible refine LeO.ite ?_ ?_)
   | (with_reducible refine LeO.bind ?_ (fun _ => ?_))
   | exact ih0 _ _ _ _ _ _
   | exact ih1 _ _ _ _ _ _ _
   | exact ih2 _ _ _ _ _ _ _
   | exact ih3 _ _ _ _ _ _ _ _
   | exact ih4 _ _ _ _ _ _ _ _ _ _ _ _ _
   | exact ih5 _ _ _ _ _ _ _ _ _ _ _ _
   | exact ih6 _ _ _ _
   | exact ih7 _ _ _ _ _
   | exact bytes_Put.mono _ _ _ _ _ _ _ _
   | exact cellarlaw0_Bytes.mono _ _
   | exact cellarlaw8_wakes.mono _
   | exact cellarref0_EqBytes.mono _ _ _
   | exact cellarref7_Put.mono _ _ _ _ _ _ _ _
   | exact cellarref7_Scalar.mono _ _ _ _ _ _
   | exact LeO.none _
   | refine LeO.ite ?_ ?_
   | refine LeO.bind ?_ (fun _ => ?_)
  ·intro y0 y1 y2 y3 y4
   unfold cellarlaw8_BytesPut.j7
   repeat' first
   | (with_reducible exact ih0 _ _ _ _ _ _)
   | (with_reducible exact ih1 _ _ _ _ _ _ _)
   | (with_reducible exact ih2 _ _ _ _ _ _ _)
   | (with_reducible exact ih3 _ _ _ _ _ _ _ _)
   | (with_reducible exact ih4 _ _ _ _ _ _ _ _ _ _ _ _ _)
   | (with_reducible exact ih5 _ _ _ _ _ _ _ _ _ _ _ _)
   | (with_reducible exact ih6 _ _ _ _)
   | (with_reducible exact ih7 _ _ _ _ _)
   | (with_reducible exact bytes_Put.mono _ _ _ _ _ _ _ _)
   | (with_reducible exact cellarlaw0_Bytes.mono _ _)
   | (with_reducible exact cellarlaw8_wakes.mono _)
   | (with_reducible exact cellarref0_EqBytes.mono _ _ _)
   | (with_reducible exact cellarref7_Put.mono _ _ _ _ _ _ _ _)
   | (with_reducible exact cellarref7_Scalar.mono _ _ _ _ _ _)
   | (with_reducible exact LeO.refl _)
   | (with_reducible exact LeO.none _)
   | (with_reducible refine LeO.ite ?_ ?_)
   | (with_reducible refine LeO.bind ?_ (fun _ => ?_))
   | exact ih0 _ _ _ _ _ _
   | exact ih1 _ _ _ _ _ _ _
   | exact ih2 _ _ _ _ _ _ _
   | exact ih3 _ _ _ _ _ _ _ _
   | exact ih4 _ _ _ _ _ _ _ _ _ _ _ _ _
   | exact ih5 _ _ _ _ _ _ _ _ _ _ _ _
   | exact ih6 _ _ _ _
   | exact ih7 _ _ _ _ _
   | exact bytes_Put.mono _ _ _ _ _ _ _ _
   | exact cellarlaw0_Bytes.mono _ _
   | exact cellarlaw8_wakes.mono _
   | exact cellarref0_EqBytes.mono _ _ _
   | exact cellarref7_Put.mono _ _ _ _ _ _ _ _
   | exact cellarref7_Scalar.mono _ _ _ _ _ _
   | exact LeO.none _
   | refine LeO.ite ?_ ?_
   | refine LeO.bind ?_ (fun _ => ?_)
theorem cellarlaw8_BytesPut.mono : ∀ a0 a1 a2 k, LeO (cellarlaw8_BytesPut.f k a0 a1 a2) (cellarlaw8_BytesPut.f (k + 1) a0 a1 a2) := by
 intro a0 a1 a2 k
 obtain ⟨ih0, ih1, ih2, ih3, ih4, ih5, ih6, ih7⟩ := cellarlaw8_BytesPut.mono_l k
 unfold cellarlaw8_BytesPut.f
 repeat' first
   | (with_reducible exact ih0 _ _ _ _ _ _)
   | (with_reducible exact ih1 _ _ _ _ _ _ _)
   | (with_reducible exact ih2 _ _ _ _ _ _ _)
   | (with_reducible exact ih3 _ _ _ _ _ _ _ _)
   | (with_reducible exact ih4 _ _ _ _ _ _ _ _ _ _ _ _ _)
   | (with_reducible exact ih5 _ _ _ _ _ _ _ _ _ _ _ _)
   | (with_reducible exact ih6 _ _ _ _)
   | (with_reducible exact ih7 _ _ _ _ _)
   | (with_reducible exact bytes_Put.mono _ _ _ _ _ _ _ _)
   | (with_reducible exact cellarlaw0_Bytes.mono _ _)
   | (with_reducible exact cellarlaw8_wakes.mono _)
   | (with_reducible exact cellarref0_EqBytes.mono _ _ _)
   | (with_reducible exact cellarref7_Put.mono _ _ _ _ _ _ _ _)
   | (with_reducible exact cellarref7_Scalar.mono _ _ _ _ _ _)
   | (with_reducible exact LeO.refl _)
   | (with_reducible exact LeO.none _)
   | (with_reducible refine LeO.ite ?_ ?_)
   | (with_reducible refine LeO.bind ?_ (fun _ => ?_))
   | exact ih0 _ _ _ _ _ _
   | exact ih1 _ _ _ _ _ _ _
   | exact ih2 _ _ _ _ _ _ _
   | exact ih3 _ _ _ _ _ _ _ _
   | exact ih4 _ _ _ _ _ _ _ _ _ _ _ _ _
   | exact ih5 _ _ _ _ _ _ _ _ _ _ _ _
   | exact ih6 _ _ _ _
   | exact ih7 _ _ _ _ _
   | exact bytes_Put.mono _ _ _ _ _ _ _ _
   | exact cellarlaw0_Bytes.mono _ _
   | exact cellarlaw8_wakes.mono _
   | exact cellarref0_EqBytes.mono _ _ _
   | exact cellarref7_Put.mono _ _ _ _ _ _ _ _
   | exact cellarref7_Scalar.mono _ _ _ _ _ _
   | exact LeO.none _
   | refine LeO.ite ?_ ?_
   | refine LeO.bind ?_ (fun _ => ?_)
def cellarlaw8_BytesPut.T11 : Bool × List (List Nat × List Nat) := (true, [([], []), ([], []), ([], []), ([1, 2], [1, 2]), ([3], [3]), ([0, 4], [0, 4]), ([5, 5], [5]), ([6], [6]), ([], []), ([], []), ([], []), ([9, 10], [9, 10]), ([11], [11]), ([8, 12, 6], [8, 12]), ([7, 13], [7, 13])])
def cellarlaw8_BytesPut.B11 : List Nat := [0, 0, 0, 6, 14, 31, 63, 127, 0, 0, 0, 1536, 3584, 8063, 16383]
theorem cellarlaw8_BytesPut.tab11 : rtab .any (opsOf Try.f12 11) = cellarlaw8_BytesPut.T11 := by kernel_rfl
theorem cellarlaw8_BytesPut.bits11 : waitsOk cellarlaw8_BytesPut.T11.2 cellarlaw8_BytesPut.B11 = true := by kernel_rfl
def cellarlaw8_BytesPut.T16 : Bool × List (List Nat × List Nat) := (true, [([], []), ([], []), ([0, 1], [0, 1]), ([2], [2]), ([], []), ([], []), ([], []), ([5, 6], [5, 6]), ([7], [7]), ([3, 4, 8], [3, 4, 8]), ([9], [9]), ([10], [10]), ([10], [10]), ([11, 9, 0, 1, 2, 3, 4, 5, 6, 7, 8, 9, 10, 11], [11]), ([12, 13, 0, 1, 2, 3, 4, 5, 6, 7, 8, 9, 10, 11, 12, 13], [12])])
def cellarlaw8_BytesPut.B16 : List Nat := [0, 0, 3, 7, 0, 0, 0, 96, 224, 511, 1023, 2047, 2047, 4095, 16383]
theorem cellarlaw8_BytesPut.tab16 : rtab .any (opsOf Try.f12 16) = cellarlaw8_BytesPut.T16 := by kernel_rfl
theorem cellarlaw8_BytesPut.bits16 : waitsOk cellarlaw8_BytesPut.T16.2 cellarlaw8_BytesPut.B16 = true := by kernel_rfl
def cellarlaw8_BytesPut.T20 : Bool × List (List Nat × List Nat) := (true, [([], []), ([], []), ([0, 1], [0, 1]), ([2], [2]), ([], []), ([], []), ([], []), ([5, 6], [5, 6]), ([7], [7]), ([3, 4, 8], [3, 4, 8]), ([9], []), ([9, 10, 0, 1, 2, 3, 4, 5, 6, 7, 8, 9, 10], [9])])
def cellarlaw8_BytesPut.B20 : List Nat := [0, 0, 3, 7, 0, 0, 0, 96, 224, 511, 1023, 2047]
theorem cellarlaw8_BytesPut.tab20 : rtab .any (opsOf Try.f12 20) = cellarlaw8_BytesPut.T20 := by kernel_rfl
theorem cellarlaw8_BytesPut.bits20 : waitsOk cellarlaw8_BytesPut.T20.2 cellarlaw8_BytesPut.B20 = true := by kernel_rfl
def cellarlaw8_BytesPut.T27 : Bool × List (List Nat × List Nat) := (true, [([], []), ([0], [0]), ([], []), ([1, 2], [1, 2]), ([3], [3]), ([4], [4]), ([5, 5], [5]), ([6], [6]), ([], []), ([8], [8]), ([], []), ([9, 10], [9, 10]), ([11], [11]), ([12, 6], [12]), ([7, 13], [7, 13])])
def cellarlaw8_BytesPut.B27 : List Nat := [0, 1, 0, 7, 15, 31, 63, 127, 0, 256, 0, 1792, 3840, 8063, 16383]
theorem cellarlaw8_BytesPut.tab27 : rtab .any (opsOf Try.f12 27) = cellarlaw8_BytesPut.T27 := by kernel_rfl
theorem cellarlaw8_BytesPut.bits27 : waitsOk cellarlaw8_BytesPut.T27.2 cellarlaw8_BytesPut.B27 = true := by kernel_rfl
set_option maxHeartbeats 60000000 in
set_option maxRecDepth 100000 in
theorem cellarlaw8_BytesPut.calls (k : Nat) (A0_0 : Option Addr) (c0_0 : Nat) (l0_0 : List (S38)) (A0_1 : Option Addr) (c0_1 : Nat) (l0_1 : List (S33)) (A0_2 : Option Addr) (c0_2 : Nat) (l0_2 : List (S51)) (r : Bool) (w : World) (hr0_0 : Kd.C k38 w A0_0 l0_0.length l0_0) (hc0_0 : l0_0.length ≤ c0_0) (hr0_1 : Kd.C k33 w A0_1 l0_1.length l0_1) (hc0_1 : l0_1.length ≤ c0_1) (hr0_2 : Kd.C k51 w A0_2 l0_2.length l0_2) (hc0_2 : l0_2.length ≤ c0_2) (h : cellarlaw8_BytesPut.f k l0_0 l0_1 l0_2 = some r) :
  Calls Try.prog 12 #[.agg #[.slice A0_0 l0_0.length c0_0, .slice A0_1 l0_1.length c0_1, .slice A0_2 l0_2.length c0_2]] w fun e w' => e = .returned (.bool r) ∧ Below w.heap.size w w' := by
 have hu26 := Try.underlying26
 have hu33 := Try.underlying33
 have hu38 := Try.underlying38
 have hu51 := Try.underlying51
 have HR0_0 := Aside0.mk hr0_0
 have HC0_0 := Aside0.mk hc0_0
 clear hr0_0 hc0_0
 have HR0_1 := Aside0.mk hr0_1
 have HC0_1 := Aside0.mk hc0_1
 clear hr0_1 hc0_1
 have HR0_2 := Aside0.mk hr0_2
 have HC0_2 := Aside0.mk hc0_2
 clear hr0_2 hc0_2
 have HB := Aside0.mk (Below.refl w.heap.size w)
 have H : ((cellarlaw8_Heavy.f l0_0 l0_1 l0_2).bind fun t304 => (if t304 = true then (some true) else ((cellarlaw8_Machines.f l0_0).bind fun t305 => ((some (([(⟨false, 0, 0, 0⟩ : S33), (⟨false, 200, 0, 0⟩ : S33), (⟨false, 4294967295, 0, 0⟩ : S33), (⟨true, 0, 0, 0⟩ : S33), (⟨true, 0, 3, 5⟩ : S33), (⟨true, 0, 0, 1⟩ : S33)] : List (S33)) : List (S33))).bind fun y308 => (if y308.length + l0_1.length < 4398046511104 then (cellarlaw8_BytesPut.l0 k t305 (y308 ++ l0_1) 0 l0_0 l0_1 l0_2) else (none)))))) = some r := h
 clear h
 replace H := Option.bind_eq_some_iff.mp H
 obtain ⟨t304, A20, H⟩ := H
 replace H : (if t304 = true then (some true) else ((cellarlaw8_Machines.f l0_0).bind fun t305 => ((some (([(⟨false, 0, 0, 0⟩ : S33), (⟨false, 200, 0, 0⟩ : S33), (⟨false, 4294967295, 0, 0⟩ : S33), (⟨true, 0, 0, 0⟩ : S33), (⟨true, 0, 3, 5⟩ : S33), (⟨true, 0, 0, 1⟩ : S33)] : List (S33)) : List (S33))).bind fun y308 => (if y308.length + l0_1.length < 4398046511104 then (cellarlaw8_BytesPut.l0 k t305 (y308 ++ l0_1) 0 l0_0 l0_1 l0_2) else (none))))) = some r := H
 have A2 := Aside0.mk A20
 clear A20
 by_cases c3 : t304 = true
 ·subst c3
  have H1 : (some true) = some r := by rw [if_pos rfl] at H; exact H
  clear H
  have H := H1
  clear H1
  obtain rfl := Option.some.inj H
  go_enter Try.func12, Try.ntmps12
  go_wp2_with (first | ((with_reducible refine gate_dst (N := 1) rfl ?_); refine box_event ?hg (N := 1) ?hd (cs := #[.slice A0_0 l0_0.length c0_0, .slice A0_1 l0_1.length c0_1, .slice A0_2 l0_2.length c0_2]) (t := 26) ?hr ?_; (case hd => rfl); (case hg => rfl); (case hr => first | (go_simp; done) | (go_simp; rfl)); intro gb303 hg w4 hbox hb; have n0_ := Aside0.mk (below_step (zw0 HB.out) hb); have n1_ := Aside0.mk (hbox); have n2_ := Aside0.mk ((by rw [hg]; exact (below_size (zw0 HB.out)) : w.heap.size ≤ gb303)); have n3_ := Aside0.mk ((by rw [hg]; exact (below_size (zw0 HB.out)) : w.heap.size ≤ gb303)); clear HB; have HB := n0_; have BK303 := n1_; have GW303 := n2_; have GE303 := n3_; clear n0_ n1_ n2_ n3_; clear hb hbox hg; have hcz5_0 : w4.cell? ⟨gb303, 0, none⟩ = some (.slice A0_0 l0_0.length c0_0) := (blk_cell BK303.out 0).trans rfl; have hcz5_1 : w4.cell? ⟨gb303, 1, none⟩ = some (.slice A0_1 l0_1.length c0_1) := (blk_cell BK303.out 1).trans rfl; have hcz5_2 : w4.cell? ⟨gb303, 2, none⟩ = some (.slice A0_2 l0_2.length c0_2) := (blk_cell BK303.out 2).trans rfl; have hfz5_0 := blk_frozen BK303.out 0; have hfz5_1 := blk_frozen BK303.out 1; have hfz5_2 := blk_frozen BK303.out 2) | ((with_reducible refine gate_callee (f := 13) rfl ?_); refine goesL_ (some 14) rfl rfl Try.func13 (by kernel_rfl) rfl #[.agg #[.slice A0_0 l0_0.length c0_0, .slice A0_1 l0_1.length c0_1, .slice A0_2 l0_2.length c0_2]] rfl (by (try simp only [List.map_toArray, List.map_cons, List.map_nil]); first | done | rfl | (simp only [List.length_drop, List.length_take]; rfl)) ?_; (with_reducible refine (cellarlaw8_Heavy.calls _ _ l0_0 _ _ l0_1 _ _ l0_2 true _ ?side1 ?side2 ?side3 ?side4 ?side5 ?side6 A2.out).mono ?_); (case side1 => repeat (first | exact (Kd.C_below HR0_0.out HB.out) | (with_reducible refine Kd.C_alloc ?_ _) | (with_reducible refine Kd.C_drewN ?_ _) | (with_reducible refine Kd.C_drew ?_))); (case side2 => exact HC0_0.out); (case side3 => repeat (first | exact (Kd.C_below HR0_1.out HB.out) | (with_reducible refine Kd.C_alloc ?_ _) | (with_reducible refine Kd.C_drewN ?_ _) | (with_reducible refine Kd.C_drew ?_))); (case side4 => exact HC0_1.out); (case side5 => repeat (first | exact (Kd.C_below HR0_2.out HB.out) | (with_reducible refine Kd.C_alloc ?_ _) | (with_reducible refine Kd.C_drewN ?_ _) | (with_reducible refine Kd.C_drew ?_))); (case side6 => exact HC0_2.out); rintro e w6 ⟨rfl, hb⟩; refine ⟨_, rfl, ?_⟩; have n0_ := Aside0.mk (blk_below (g := gb303) (o := .cells #[.slice A0_0 l0_0.length c0_0, .slice A0_1 l0_1.length c0_1, .slice A0_2 l0_2.length c0_2] 26 (0, 0)) (zb BK303.out) hb); have n1_ := Aside0.mk (below_step (zw1 HB.out GE303.out) hb); clear BK303; clear HB; have BK303 := n0_; have HB := n1_; clear n0_ n1_; (try clear hb); (try clear hb2); (try clear hk); (try clear hi)))
  go_ret
  exact ⟨by first | rfl | (simp [errW_none, errW_some] <;> rfl) | (simp [*, errW_none, errW_some] <;> rfl), zw1 HB.out GE303.out⟩
 ·replace c3 := Bool.eq_false_iff.mpr c3
  subst c3
  have H1 : ((cellarlaw8_Machines.f l0_0).bind fun t305 => ((some (([(⟨false, 0, 0, 0⟩ : S33), (⟨false, 200, 0, 0⟩ : S33), (⟨false, 4294967295, 0, 0⟩ : S33), (⟨true, 0, 0, 0⟩ : S33), (⟨true, 0, 3, 5⟩ : S33), (⟨true, 0, 0, 1⟩ : S33)] : List (S33)) : List (S33))).bind fun y308 => (if y308.length + l0_1.length < 4398046511104 then (cellarlaw8_BytesPut.l0 k t305 (y308 ++ l0_1) 0 l0_0 l0_1 l0_2) else (none)))) = some r := by rw [if_neg (show ¬ (false = true) by decide)] at H; exact H
  clear H
  have H := H1
  clear H1
  replace H := Option.bind_eq_some_iff.mp H
  obtain ⟨t305, A70, H⟩ := H
  replace H : ((some (([(⟨false, 0, 0, 0⟩ : S33), (⟨false, 200, 0, 0⟩ : S33), (⟨false, 4294967295, 0, 0⟩ : S33), (⟨true, 0, 0, 0⟩ : S33), (⟨true, 0, 3, 5⟩ : S33), (⟨true, 0, 0, 1⟩ : S33)] : List (S33)) : List (S33))).bind fun y308 => (if y308.length + l0_1.length < 4398046511104 then (cellarlaw8_BytesPut.l0 k t305 (y308 ++ l0_1) 0 l0_0 l0_1 l0_2) else (none))) = some r := H
  have A7 := Aside0.mk A70
  clear A70
  obtain ⟨y308, hy308⟩ : ∃ y_ : List (S33), y_ = (([(⟨false, 0, 0, 0⟩ : S33), (⟨false, 200, 0, 0⟩ : S33), (⟨false, 4294967295, 0, 0⟩ : S33), (⟨true, 0, 0, 0⟩ : S33), (⟨true, 0, 3, 5⟩ : S33), (⟨true, 0, 0, 1⟩ : S33)] : List (S33))) := ⟨_, rfl⟩
  replace H : (if y308.length + l0_1.length < 4398046511104 then (cellarlaw8_BytesPut.l0 k t305 (y308 ++ l0_1) 0 l0_0 l0_1 l0_2) else (none)) = some r := by first | (rw [hy308]; with_reducible exact H) | (have H2_ := (Option.bind_some _ _).symm.trans H; rw [hy308]; with_reducible exact H2_) | (have H2_ := (Option.bind_some _ _).symm.trans H; with_reducible exact H2_) | with_reducible exact H | (rw [hy308]; exact H) | exact H
  have Ny308 := Aside0.mk hy308
  clear hy308
  by_cases c8 : y308.length + l0_1.length < 4398046511104
  ·rw [if_pos c8] at H
   have LMc8 := Aside0.mk c8
   clear c8
   obtain ⟨y311, hy311⟩ : ∃ y_ : List (S33), y_ = (y308 ++ l0_1) := ⟨_, rfl⟩
   replace H : (cellarlaw8_BytesPut.l0 k t305 y311 0 l0_0 l0_1 l0_2) = some r := by first | (rw [hy311]; with_reducible exact H) | (have H2_ := (Option.bind_some _ _).symm.trans H; rw [hy311]; with_reducible exact H2_) | (have H2_ := (Option.bind_some _ _).symm.trans H; with_reducible exact H2_) | with_reducible exact H | (rw [hy311]; exact H) | exact H
   have Ny311 := Aside0.mk hy311
   clear hy311
   have H' := Aside0.mk H
   clear H
   go_enter Try.func12, Try.ntmps12
   go_wp2_with (first | ((with_reducible refine gate_dst (N := 1) rfl ?_); refine box_event ?hg (N := 1) ?hd (cs := #[.slice A0_0 l0_0.length c0_0, .slice A0_1 l0_1.length c0_1, .slice A0_2 l0_2.length c0_2]) (t := 26) ?hr ?_; (case hd => rfl); (case hg => rfl); (case hr => first | (go_simp; done) | (go_simp; rfl)); intro gb303 hg w9 hbox hb; have n0_ := Aside0.mk (below_step (zw0 HB.out) hb); have n1_ := Aside0.mk (hbox); have n2_ := Aside0.mk ((by rw [hg]; exact (below_size (zw0 HB.out)) : w.heap.size ≤ gb303)); have n3_ := Aside0.mk ((by rw [hg]; exact (below_size (zw0 HB.out)) : w.heap.size ≤ gb303)); clear HB; have HB := n0_; have BK303 := n1_; have GW303 := n2_; have GE303 := n3_; clear n0_ n1_ n2_ n3_; clear hb hbox hg; have hcz10_0 : w9.cell? ⟨gb303, 0, none⟩ = some (.slice A0_0 l0_0.length c0_0) := (blk_cell BK303.out 0).trans rfl; have hcz10_1 : w9.cell? ⟨gb303, 1, none⟩ = some (.slice A0_1 l0_1.length c0_1) := (blk_cell BK303.out 1).trans rfl; have hcz10_2 : w9.cell? ⟨gb303, 2, none⟩ = some (.slice A0_2 l0_2.length c0_2) := (blk_cell BK303.out 2).trans rfl; have hfz10_0 := blk_frozen BK303.out 0; have hfz10_1 := blk_frozen BK303.out 1; have hfz10_2 := blk_frozen BK303.out 2) | ((with_reducible refine gate_callee (f := 13) rfl ?_); refine goesL_ (some 14) rfl rfl Try.func13 (by kernel_rfl) rfl #[.agg #[.slice A0_0 l0_0.length c0_0, .slice A0_1 l0_1.length c0_1, .slice A0_2 l0_2.length c0_2]] rfl (by (try simp only [List.map_toArray, List.map_cons, List.map_nil]); first | done | rfl | (simp only [List.length_drop, List.length_take]; rfl)) ?_; (with_reducible refine (cellarlaw8_Heavy.calls _ _ l0_0 _ _ l0_1 _ _ l0_2 false _ ?side1 ?side2 ?side3 ?side4 ?side5 ?side6 A2.out).mono ?_); (case side1 => repeat (first | exact (Kd.C_below HR0_0.out HB.out) | (with_reducible refine Kd.C_alloc ?_ _) | (with_reducible refine Kd.C_drewN ?_ _) | (with_reducible refine Kd.C_drew ?_))); (case side2 => exact HC0_0.out); (case side3 => repeat (first | exact (Kd.C_below HR0_1.out HB.out) | (with_reducible refine Kd.C_alloc ?_ _) | (with_reducible refine Kd.C_drewN ?_ _) | (with_reducible refine Kd.C_drew ?_))); (case side4 => exact HC0_1.out); (case side5 => repeat (first | exact (Kd.C_below HR0_2.out HB.out) | (with_reducible refine Kd.C_alloc ?_ _) | (with_reducible refine Kd.C_drewN ?_ _) | (with_reducible refine Kd.C_drew ?_))); (case side6 => exact HC0_2.out); rintro e w11 ⟨rfl, hb⟩; refine ⟨_, rfl, ?_⟩; have n0_ := Aside0.mk (blk_below (g := gb303) (o := .cells #[.slice A0_0 l0_0.length c0_0, .slice A0_1 l0_1.length c0_1, .slice A0_2 l0_2.length c0_2] 26 (0, 0)) (zb BK303.out) hb); have n1_ := Aside0.mk (below_step (zw1 HB.out GE303.out) hb); clear BK303; clear HB; have BK303 := n0_; have HB := n1_; clear n0_ n1_; (try clear hb); (try clear hb2); (try clear hk); (try clear hi); have hcz12_0 : w11.cell? ⟨gb303, 0, none⟩ = some (.slice A0_0 l0_0.length c0_0) := (blk_cell BK303.out 0).trans rfl; have hcz12_1 : w11.cell? ⟨gb303, 1, none⟩ = some (.slice A0_1 l0_1.length c0_1) := (blk_cell BK303.out 1).trans rfl; have hcz12_2 : w11.cell? ⟨gb303, 2, none⟩ = some (.slice A0_2 l0_2.length c0_2) := (blk_cell BK303.out 2).trans rfl; have hfz12_0 := blk_frozen BK303.out 0; have hfz12_1 := blk_frozen BK303.out 1; have hfz12_2 := blk_frozen BK303.out 2) | ((with_reducible refine gate_callee (f := 14) rfl ?_); refine goesL_ (some 17) rfl rfl Try.func14 (by kernel_rfl) rfl #[.slice A0_0 l0_0.length c0_0] rfl (by (try simp only [List.map_toArray, List.map_cons, List.map_nil]); first | done | rfl | (simp only [List.length_drop, List.length_take]; rfl)) ?_; (with_reducible refine (cellarlaw8_Machines.calls _ _ l0_0 t305 _ ?side1 ?side2 A7.out).mono ?_); (case side1 => repeat (first | exact (Kd.C_below HR0_0.out HB.out) | (with_reducible refine Kd.C_alloc ?_ _) | (with_reducible refine Kd.C_drewN ?_ _) | (with_reducible refine Kd.C_drew ?_))); (case side2 => exact HC0_0.out); rintro e w13 ⟨v306, rfl, ho0, hb⟩; refine ⟨_, rfl, ?_⟩; have n0_ := Aside0.mk (Kd.R_lower ho0 (below_size (zw1 HB.out GE303.out))); have n1_ := Aside0.mk (blk_below (g := gb303) (o := .cells #[.slice A0_0 l0_0.length c0_0, .slice A0_1 l0_1.length c0_1, .slice A0_2 l0_2.length c0_2] 26 (0, 0)) (zb BK303.out) hb); have n2_ := Aside0.mk (below_step (zw1 HB.out GE303.out) hb); clear BK303; clear HB; have HO307 := n0_; have BK303 := n1_; have HB := n2_; clear n0_ n1_ n2_; (try clear hb); (try clear hb2); (try clear hk); (try clear hi); (try clear ho0)) | ((with_reducible refine gate_dst (N := 24) rfl ?_); refine Kd.R_lit k33 _ 33 ?hg (N := 24) ?hd (xs := ([(⟨false, 0, 0, 0⟩ : S33), (⟨false, 200, 0, 0⟩ : S33), (⟨false, 4294967295, 0, 0⟩ : S33), (⟨true, 0, 0, 0⟩ : S33), (⟨true, 0, 3, 5⟩ : S33), (⟨true, 0, 0, 1⟩ : S33)] : List (S33))) (inner := [.bool false, .int .i64 0, .int .i64 0, .int .i64 0, .bool false, .int .i64 200, .int .i64 0, .int .i64 0, .bool false, .int .i64 4294967295, .int .i64 0, .int .i64 0, .bool true, .int .i64 0, .int .i64 0, .int .i64 0, .bool true, .int .i64 0, .int .i64 3, .int .i64 5, .bool true, .int .i64 0, .int .i64 0, .int .i64 1]) (ok := fun _ => True) (okp := fun _ => True) ?hr ?hp (fun _ hk => hk) trivial (Below.refl _ _) (Nat.le_refl _) (by simp) ?_; (case hd => rfl); (case hg => rfl); (case hr => first | (go_simp; done) | (go_simp; rfl)); (case hp => exact (Reps.c4 (show Kd.M k33 _ _ _ (⟨false, 0, 0, 0⟩ : S33) [.bool false, .int .i64 0, .int .i64 0, .int .i64 0] from (k33_mkM _ _ _ (⟨false, 0, 0, 0⟩ : S33) )) (Reps.c4 (show Kd.M k33 _ _ _ (⟨false, 200, 0, 0⟩ : S33) [.bool false, .int .i64 200, .int .i64 0, .int .i64 0] from (k33_mkM _ _ _ (⟨false, 200, 0, 0⟩ : S33) )) (Reps.c4 (show Kd.M k33 _ _ _ (⟨false, 4294967295, 0, 0⟩ : S33) [.bool false, .int .i64 4294967295, .int .i64 0, .int .i64 0] from (k33_mkM _ _ _ (⟨false, 4294967295, 0, 0⟩ : S33) )) (Reps.c4 (show Kd.M k33 _ _ _ (⟨true, 0, 0, 0⟩ : S33) [.bool true, .int .i64 0, .int .i64 0, .int .i64 0] from (k33_mkM _ _ _ (⟨true, 0, 0, 0⟩ : S33) )) (Reps.c4 (show Kd.M k33 _ _ _ (⟨true, 0, 3, 5⟩ : S33) [.bool true, .int .i64 0, .int .i64 3, .int .i64 5] from (k33_mkM _ _ _ (⟨true, 0, 3, 5⟩ : S33) )) (Reps.c4 (show Kd.M k33 _ _ _ (⟨true, 0, 0, 1⟩ : S33) [.bool true, .int .i64 0, .int .i64 0, .int .i64 1] from (k33_mkM _ _ _ (⟨true, 0, 0, 1⟩ : S33) )) (Reps.none _ _)))))))); intro v309 w14 ho15 hb hg_ hnew_; clear hg_ hnew_; (first | rw [← Ny308.out] at ho15 | (simp only [Int.reduceToNat] at ho15; rw [← Ny308.out] at ho15)); have n0_ := Aside0.mk (Kd.R_below (by (with_reducible repeat (first | apply Kd.R_alloc | apply Kd.R_drewN | apply Kd.R_drew)); exact HO307.out) hb); have n1_ := Aside0.mk (Kd.R_lower ho15 (below_size (zw1 HB.out GE303.out))); have n2_ := Aside0.mk (blk_below (g := gb303) (o := .cells #[.slice A0_0 l0_0.length c0_0, .slice A0_1 l0_1.length c0_1, .slice A0_2 l0_2.length c0_2] 26 (0, 0)) (zb BK303.out) hb); have n3_ := Aside0.mk (below_step (zw1 HB.out GE303.out) hb); clear HO307; clear BK303; clear HB; have HO307 := n0_; have HO310 := n1_; have BK303 := n2_; have HB := n3_; clear n0_ n1_ n2_ n3_; clear hb ho15; have hcz16_0 : w14.cell? ⟨gb303, 0, none⟩ = some (.slice A0_0 l0_0.length c0_0) := (blk_cell BK303.out 0).trans rfl; have hcz16_1 : w14.cell? ⟨gb303, 1, none⟩ = some (.slice A0_1 l0_1.length c0_1) := (blk_cell BK303.out 1).trans rfl; have hcz16_2 : w14.cell? ⟨gb303, 2, none⟩ = some (.slice A0_2 l0_2.length c0_2) := (blk_cell BK303.out 2).trans rfl; have hfz16_0 := blk_frozen BK303.out 0; have hfz16_1 := blk_frozen BK303.out 1; have hfz16_2 := blk_frozen BK303.out 2) | ((with_reducible refine gate_builtin (b := .append) (xs := #[.tmp 24, .tmp 26]) rfl ?_); at_builtin; refine Kd.R_append_rows k33 (w0 := w) w.heap.size rfl (.tmp 24) (.tmp 26) 23 33 (.agg #[(.bool false), (.int .i64 0), (.int .i64 0), (.int .i64 0)]) 32 rfl Try.underlying23 info33 rfl (by decide) (by omega) v309 y308 l0_1 _ _ _ (fun _ => True) (fun _ => False) rfl rfl ?aO ?aR (fun _ _ h => h) (fun _ h => h.elim) ?aF ?aB ?aS ?aL ?_; (case aR => repeat (first | exact (Kd.C_below HR0_1.out HB.out) | (with_reducible refine Kd.C_alloc ?_ _) | (with_reducible refine Kd.C_drewN ?_ _) | (with_reducible refine Kd.C_drew ?_))); (case aB => exact (zw1 HB.out GE303.out)); (case aF => exact (fun _ _ => trivial)); (case aO => exact (by (with_reducible repeat (first | apply Kd.R_alloc | apply Kd.R_drewN | apply Kd.R_drew)); exact HO310.out)); (case aS => exact (below_size (zw1 HB.out GE303.out))); (case aL => have := LMc8.out; omega); intro v312 w17 ho hb hg hat; rw [← Ny311.out] at ho; have n0_ := Aside0.mk (blk_grown (g := gb303) (o := .cells #[.slice A0_0 l0_0.length c0_0, .slice A0_1 l0_1.length c0_1, .slice A0_2 l0_2.length c0_2] 26 (0, 0)) (zb BK303.out) hg (Kd.R_ne HO310.out BK303.out (by decide))); have n1_ := Aside0.mk (Kd.R_over' (by (with_reducible repeat (first | apply Kd.R_alloc | apply Kd.R_drewN | apply Kd.R_drew)); exact HO307.out) (Kd.R_typed (by (with_reducible repeat (first | apply Kd.R_alloc | apply Kd.R_drewN | apply Kd.R_drew)); exact HO310.out)) (by decide) hg); have n2_ := Aside0.mk (hb); have n3_ := Aside0.mk (ho); clear BK303; clear HO307; clear HB; clear HO310; have BK303 := n0_; have HO307 := n1_; have HB := n2_; have HO313 := n3_; clear n0_ n1_ n2_ n3_; clear ho hb hg hat))
   go_loopg [5] k (fun kq v5 w' => ∃ (x5_1 : Int), v5 = .int .i64 x5_1 ∧ Aside0 (cellarlaw8_BytesPut.l0 kq t305 y311 x5_1 l0_0 l0_1 l0_2 = some r) ∧ Aside0 (kq ≤ k) ∧ Aside0 (Kd.R k38 38 w' w.heap.size (fun _ => True) v306 t305) ∧ Aside0 (Kd.R k33 33 w' w.heap.size (fun _ => True) v312 y311) ∧ Aside0 (w'.heap[gb303]? = some (.cells #[(.slice A0_0 l0_0.length c0_0), (.slice A0_1 l0_1.length c0_1), (.slice A0_2 l0_2.length c0_2)] 26 (0, 0))) ∧ Aside0 (Below w.heap.size w w'))
   case atStart => exact ⟨(0), (by first | rfl | (simp; done) | (simp [*]; done)), H', ⟨Nat.le_refl _⟩, ⟨by (with_reducible repeat (first | apply Kd.R_alloc | apply Kd.R_drewN | apply Kd.R_drew)); exact HO307.out⟩, ⟨by (with_reducible repeat (first | apply Kd.R_alloc | apply Kd.R_drewN | apply Kd.R_drew)); exact HO313.out⟩, ⟨zb BK303.out⟩, ⟨zw1 HB.out GE303.out⟩⟩
   case round =>
    clear H'
    try clear c1
    try clear p2
    try clear c3
    try clear c4
    try clear c8
    try clear c12
    try clear c13
    try clear c14
    try clear hcz10_0
    try clear hcz10_1
    try clear hcz10_2
    try clear hcz12_0
    try clear hcz12_1
    try clear hcz12_2
    try clear hcz16_0
    try clear hcz16_1
    try clear hcz16_2
    try clear hcz5_0
    try clear hcz5_1
    try clear hcz5_2
    try clear hfz10_0
    try clear hfz10_1
    try clear hfz10_2
    try clear hfz12_0
    try clear hfz12_1
    try clear hfz12_2
    try clear hfz16_0
    try clear hfz16_1
    try clear hfz16_2
    try clear hfz5_0
    try clear hfz5_1
    try clear hfz5_2
    obtain ⟨x5_1, rfl, HA, HK1, HO_3, HO_4, BK303, HB⟩ := hrel
    cases gk with
    | zero => exact absurd HA.out (by simp [cellarlaw8_BytesPut.l0])
    | succ k1 =>
     have H := HA.out
     clear HA
     simp only [cellarlaw8_BytesPut.l0] at H
     have HC18 := Aside0.mk H
     clear H
     go_upto_region 6 with (fail)
     go_cut [35] (fun v35 wc => ∃ (kq : Nat) (x35_17 : Bool), v35 = .bool x35_17 ∧ Aside0 (cellarlaw8_BytesPut.j1 kq t305 y311 x5_1 x35_17 l0_0 l0_1 l0_2 = some r) ∧ Aside0 (kq ≤ k1) ∧ Aside0 (Kd.R k38 38 wc w.heap.size (fun _ => True) v306 t305) ∧ Aside0 (Kd.R k33 33 wc w.heap.size (fun _ => True) v312 y311) ∧ Aside0 (wc.heap[gb303]? = some (.cells #[(.slice A0_0 l0_0.length c0_0), (.slice A0_1 l0_1.length c0_1), (.slice A0_2 l0_2.length c0_2)] 26 (0, 0))) ∧ Aside0 (Below w.heap.size w wc))
     case first =>
      have H := HC18.out
      clear HC18
      by_cases c19 : x5_1 < (y311.length : Int)
      ·rw [if_pos c19] at H
       have c19b0 : decide (x5_1 < (y311.length : Int)) = true := decide_eq_true c19
       clear c19
       (first | rw [c19b0] | (simp only [i64_w, i32_w]; rw [c19b0]) | skip)
       have H' := Aside0.mk H
       clear H
       obtain ⟨Ao20, co20, eo20⟩ := Kd.R_slice HO_4.out
       subst eo20
       go_wp2
       go_meet
       case rel => exact ⟨_, (decide (x5_1 < 16)), (by first | rfl | (simp; done) | (simp [*]; done)), H', ⟨by have := HK1.out; first | omega | exact Nat.le_refl _⟩, ⟨by (with_reducible repeat (first | apply Kd.R_alloc | apply Kd.R_drewN | apply Kd.R_drew)); exact HO_3.out⟩, ⟨by (with_reducible repeat (first | apply Kd.R_alloc | apply Kd.R_drewN | apply Kd.R_drew)); exact HO_4.out⟩, ⟨zb BK303.out⟩, ⟨zw1 HB.out GE303.out⟩⟩
      ·rw [if_neg c19] at H
       have c19b0 : decide (x5_1 < (y311.length : Int)) = false := decide_eq_false c19
       clear c19
       (first | rw [c19b0] | (simp only [i64_w, i32_w]; rw [c19b0]) | skip)
       have H' := Aside0.mk H
       clear H
       obtain ⟨Ao21, co21, eo21⟩ := Kd.R_slice HO_4.out
       subst eo21
       go_wp2
       go_meet
       case rel => exact ⟨_, (false), (by first | rfl | (simp; done) | (simp [*]; done)), H', ⟨by have := HK1.out; first | omega | exact Nat.le_refl _⟩, ⟨by (with_reducible repeat (first | apply Kd.R_alloc | apply Kd.R_drewN | apply Kd.R_drew)); exact HO_3.out⟩, ⟨by (with_reducible repeat (first | apply Kd.R_alloc | apply Kd.R_drewN | apply Kd.R_drew)); exact HO_4.out⟩, ⟨zb BK303.out⟩, ⟨zw1 HB.out GE303.out⟩⟩
     case rest => as_aux_lemma =>
      clear HC18
      try clear c1
      try clear p2
      try clear c3
      try clear c4
      try clear c8
      try clear c12
      try clear c13
      try clear c14
      try clear c19
      try clear c19b0
      try clear hcz10_0
      try clear hcz10_1
      try clear hcz10_2
      try clear hcz12_0
      try clear hcz12_1
      try clear hcz12_2
      try clear hcz16_0
      try clear hcz16_1
      try clear hcz16_2
      try clear hcz5_0
      try clear hcz5_1
      try clear hcz5_2
      try clear hfz10_0
      try clear hfz10_1
      try clear hfz10_2
      try clear hfz12_0
      try clear hfz12_1
      try clear hfz12_2
      try clear hfz16_0
      try clear hfz16_1
      try clear hfz16_2
      try clear hfz5_0
      try clear hfz5_1
      try clear hfz5_2
      try clear p2
      obtain ⟨kq, x35_17, rfl, HA, HJ17, HO_3, HO_4, BK303, HB⟩ := hcut
      cases kq with
      | zero => exact absurd HA.out (by simp [cellarlaw8_BytesPut.j1])
      | succ kj17 =>
       have H := HA.out
       clear HA
       simp only [cellarlaw8_BytesPut.j1] at H
       by_cases c22 : x35_17 = true
       ·subst c22
        have H1 : (cellarlaw8_BytesPut.l1 kj17 t305 y311 x5_1 (-1) l0_0 l0_1 l0_2) = some r := by rw [if_pos rfl] at H; exact H
        clear H
        have H := H1
        clear H1
        have H' := Aside0.mk H
        clear H
        go_wp2
        go_loopg [6] kj17 (fun kq v6 w' => ∃ (x6_3 : Int), v6 = .int .i64 x6_3 ∧ Aside0 (cellarlaw8_BytesPut.l1 kq t305 y311 x5_1 x6_3 l0_0 l0_1 l0_2 = some r) ∧ Aside0 (kq ≤ kj17) ∧ Aside0 (Kd.R k38 38 w' w.heap.size (fun _ => True) v306 t305) ∧ Aside0 (Kd.R k33 33 w' w.heap.size (fun _ => True) v312 y311) ∧ Aside0 (w'.heap[gb303]? = some (.cells #[(.slice A0_0 l0_0.length c0_0), (.slice A0_1 l0_1.length c0_1), (.slice A0_2 l0_2.length c0_2)] 26 (0, 0))) ∧ Aside0 (Below w.heap.size w w'))
        case atStart => exact ⟨((-1)), (by first | rfl | (simp; done) | (simp [*]; done)), H', ⟨Nat.le_refl _⟩, ⟨by (with_reducible repeat (first | apply Kd.R_alloc | apply Kd.R_drewN | apply Kd.R_drew)); exact HO_3.out⟩, ⟨by (with_reducible repeat (first | apply Kd.R_alloc | apply Kd.R_drewN | apply Kd.R_drew)); exact HO_4.out⟩, ⟨zb BK303.out⟩, ⟨zw1 HB.out GE303.out⟩⟩
        case round =>
         clear H'
         try clear c1
         try clear c2
         try clear p2
         try clear c3
         try clear c4
         try clear c8
         try clear c12
         try clear c13
         try clear c14
         try clear c19
         try clear c19b0
         try clear c22
         try clear hcz10_0
         try clear hcz10_1
         try clear hcz10_2
         try clear hcz12_0
         try clear hcz12_1
         try clear hcz12_2
         try clear hcz16_0
         try clear hcz16_1
         try clear hcz16_2
         try clear hcz5_0
         try clear hcz5_1
         try clear hcz5_2
         try clear hfz10_0
         try clear hfz10_1
         try clear hfz10_2
         try clear hfz12_0
         try clear hfz12_1
         try clear hfz12_2
         try clear hfz16_0
         try clear hfz16_1
         try clear hfz16_2
         try clear hfz5_0
         try clear hfz5_1
         try clear hfz5_2
         try clear p2
         obtain ⟨x6_3, rfl, HA, HK3, HO_3, HO_4, BK303, HB⟩ := hrel
         cases gk with
         | zero => exact absurd HA.out (by simp [cellarlaw8_BytesPut.l1])
         | succ k3 =>
          have H := HA.out
          clear HA
          simp only [cellarlaw8_BytesPut.l1] at H
          by_cases c23 : x6_3 ≤ 11
          ·rw [if_pos c23] at H
           have c23b0 : decide (x6_3 ≤ 11) = true := decide_eq_true c23
           clear c23
           by_cases c24 : 0 ≤ x5_1
           ·rw [if_pos c24] at H
            have c24b0 : decide (0 ≤ x5_1) = true := decide_eq_true c24
            clear c24
            by_cases c25 : x5_1 < (y311.length : Int)
            ·rw [if_pos c25] at H
             have c25b0 : decide (x5_1 < (y311.length : Int)) = true := decide_eq_true c25
             clear c25
             replace H := Option.bind_eq_some_iff.mp H
             obtain ⟨t315, A260, H⟩ := H
             replace H : ((cellarlaw8_num.f t315).bind fun t316 => ((cellarref7_Scalar.f k3 x6_3 ((rd_T33 y311 x5_1).f0) ((rd_T33 y311 x5_1).f1) ((rd_T33 y311 x5_1).f2) ((rd_T33 y311 x5_1).f3)).bind fun t318 => (if ((t316 == 0) != t318) = true then (some false) else (cellarlaw8_BytesPut.l2 k3 t305 y311 x5_1 x6_3 0 l0_0 l0_1 l0_2)))) = some r := H
             have A26 := Aside0.mk A260
             clear A260
             replace H := Option.bind_eq_some_iff.mp H
             obtain ⟨t316, A270, H⟩ := H
             replace H : ((cellarref7_Scalar.f k3 x6_3 ((rd_T33 y311 x5_1).f0) ((rd_T33 y311 x5_1).f1) ((rd_T33 y311 x5_1).f2) ((rd_T33 y311 x5_1).f3)).bind fun t318 => (if ((t316 == 0) != t318) = true then (some false) else (cellarlaw8_BytesPut.l2 k3 t305 y311 x5_1 x6_3 0 l0_0 l0_1 l0_2))) = some r := H
             have A27 := Aside0.mk A270
             clear A270
             replace H := Option.bind_eq_some_iff.mp H
             obtain ⟨t318, A280, H⟩ := H
             replace H : (if ((t316 == 0) != t318) = true then (some false) else (cellarlaw8_BytesPut.l2 k3 t305 y311 x5_1 x6_3 0 l0_0 l0_1 l0_2)) = some r := H
             have A28 := Aside0.mk A280
             clear A280
             by_cases c29 : ((t316 == 0) != t318) = true
             ·rw [if_pos c29] at H
              have c29b0 : ((t316 == 0) != t318) = true := c29
              (try (have c29b1 : decide ((t316 == 0) = t318) = false := by simpa using c29))
              (try (have c29b2 : ((t316 == 0) == t318) = false := by simpa using c29))
              (try (have c29b3 : ¬ ((t316 == 0) = t318) := by simpa using c29))
              clear c29
              obtain rfl := Option.some.inj H
              try go_wp2
              have n0_ := Aside0.mk (Kd.R_drew HO_3.out)
              have n1_ := Aside0.mk (Kd.R_drew HO_4.out)
              have n2_ := Aside0.mk (blk_drew BK303.out)
              have n3_ := Aside0.mk (below_drew1 HB.out)
              clear HO_3
              clear HO_4
              clear BK303
              clear HB
              have HO_3 := n0_
              have HO_4 := n1_
              have BK303 := n2_
              have HB := n3_
              clear n0_ n1_ n2_ n3_
              obtain ⟨Ao31, co31, eo31⟩ := Kd.R_slice HO_4.out
              (first | subst eo31 | (injection eo31 with f1_ f2_ f3_; have f4_ := f1_.symm; have f5_ := f3_.symm; clear f1_ f2_ f3_; subst f4_; subst f5_))
              have p314 : 0 ≤ (x5_1 : Int) := zdec
              have q314 : x5_1 < (y311.length : Int) := zdec
              obtain ⟨ad314, e314, hx314_0, hx314_1, hx314_2, hx314_3⟩ := at_T33 (Kd.R_reads' HO_4.out).2.2 x5_1 p314 q314
              cases e314
              replace p314 := eq_true p314
              replace q314 := eq_true q314
              have p317 : 0 ≤ (x5_1 : Int) := zdec
              have q317 : x5_1 < (y311.length : Int) := zdec
              obtain ⟨ad317, e317, hx317_0, hx317_1, hx317_2, hx317_3⟩ := at_T33 (Kd.R_reads' HO_4.out).2.2 x5_1 p317 q317
              obtain rfl : ad314 = ad317 := (by injection e317)
              replace p317 := eq_true p317
              replace q317 := eq_true q317
              refine start_ (n := 15) (S := fun w' => w'.cell? (ad314.add ((x5_1).toNat * 4)) = some (.bool ((rd_T33 y311 x5_1).f0)) ∧ w'.cell? ⟨(ad314.add ((x5_1).toNat * 4)).block, (ad314.add ((x5_1).toNat * 4)).off + 1, none⟩ = some (.int .i64 ((rd_T33 y311 x5_1).f1)) ∧ w'.cell? ⟨(ad314.add ((x5_1).toNat * 4)).block, (ad314.add ((x5_1).toNat * 4)).off + 2, none⟩ = some (.int .i64 ((rd_T33 y311 x5_1).f2)) ∧ w'.cell? ⟨(ad314.add ((x5_1).toNat * 4)).block, (ad314.add ((x5_1).toNat * 4)).off + 3, none⟩ = some (.int .i64 ((rd_T33 y311 x5_1).f3)) ∧ w'.cell? (ad314.add ((x5_1).toNat * 4)) = some (.bool ((rd_T33 y311 x5_1).f0)) ∧ w'.cell? ⟨(ad314.add ((x5_1).toNat * 4)).block, (ad314.add ((x5_1).toNat * 4)).off + 1, none⟩ = some (.int .i64 ((rd_T33 y311 x5_1).f1)) ∧ w'.cell? ⟨(ad314.add ((x5_1).toNat * 4)).block, (ad314.add ((x5_1).toNat * 4)).off + 2, none⟩ = some (.int .i64 ((rd_T33 y311 x5_1).f2)) ∧ w'.cell? ⟨(ad314.add ((x5_1).toNat * 4)).block, (ad314.add ((x5_1).toNat * 4)).off + 3, none⟩ = some (.int .i64 ((rd_T33 y311 x5_1).f3))) (ds := []) #[false,false,false,false,false,false,false,false,false,false,false,false,false,false,false] (by kernel_rfl) rfl rfl ⟨hx314_0, hx314_1, hx314_2, hx314_3, hx317_0, hx317_1, hx317_2, hx317_3⟩ (fun hHeld => ?_); refine with_tabW cellarlaw8_BytesPut.tab11 cellarlaw8_BytesPut.bits11 (fun HT_ HW_ => ?_)
              generalize wr.drew = w30 at HO_3 HO_4 BK303 HB hx314_0 hx314_1 hx314_2 hx314_3 hx317_0 hx317_1 hx317_2 hx317_3 hHeld ⊢
              refine pure_ (i := 0) (N := some 42) (v := ?_) (a' := ?_) #[true,false,false,false,false,false,false,false,false,false,false,false,false,false,false] rfl rfl (any_of HT_.out (by kernel_rfl)) (fun _ _ _ h => h) (Or.inl ⟨by rfl, ?_⟩) ?_ ?_
              rotate_left
              ·intro w'
               go_simp
               with_reducible rfl
              rotate_left
              ·simp only [Act.put, List.setIfInBounds_toArray, List.set_cons_zero, List.set_cons_succ, i64_w, i32_w]
               rfl
              refine pure_ (i := 1) (N := some 43) (v := ?_) (a' := ?_) #[true,true,false,false,false,false,false,false,false,false,false,false,false,false,false] rfl rfl (any_of HT_.out (by kernel_rfl)) (fun _ _ _ h => h) (Or.inl ⟨by rfl, ?_⟩) ?_ ?_
              rotate_left
              ·intro w'
               go_simp
               with_reducible rfl
              rotate_left
              ·simp only [Act.put, List.setIfInBounds_toArray, List.set_cons_zero, List.set_cons_succ, i64_w, i32_w]
               rfl
              refine pure_ (i := 2) (N := some 44) (v := ?_) (a' := ?_) #[true,true,true,false,false,false,false,false,false,false,false,false,false,false,false] rfl rfl (any_of HT_.out (by kernel_rfl)) (fun _ _ _ h => h) (Or.inl ⟨by rfl, ?_⟩) ?_ ?_
              rotate_left
              ·intro w'
               go_simp
               with_reducible rfl
              rotate_left
              ·simp only [Act.put, List.setIfInBounds_toArray, List.set_cons_zero, List.set_cons_succ, i64_w, i32_w]
               rfl
              refine pure_ (i := 3) (N := some 45) (v := ?_) (a' := ?_) #[true,true,true,true,false,false,false,false,false,false,false,false,false,false,false] rfl rfl (any_of HT_.out (by kernel_rfl)) (fun _ _ _ h => h) (Or.inl ⟨by rfl, ?_⟩) ?_ ?_
              rotate_left
              ·intro w'
               go_simp
               with_reducible rfl
              rotate_left
              ·simp only [Act.put, List.setIfInBounds_toArray, List.set_cons_zero, List.set_cons_succ, i64_w, i32_w]
               rfl
              refine pure_ (i := 8) (N := some 50) (v := ?_) (a' := ?_) #[true,true,true,true,false,false,false,false,true,false,false,false,false,false,false] rfl rfl (any_of HT_.out (by kernel_rfl)) (fun _ _ _ h => h) (Or.inl ⟨by rfl, ?_⟩) ?_ ?_
              rotate_left
              ·intro w'
               go_simp
               with_reducible rfl
              rotate_left
              ·simp only [Act.put, List.setIfInBounds_toArray, List.set_cons_zero, List.set_cons_succ, i64_w, i32_w]
               rfl
              refine pure_ (i := 9) (N := some 51) (v := ?_) (a' := ?_) #[true,true,true,true,false,false,false,false,true,true,false,false,false,false,false] rfl rfl (any_of HT_.out (by kernel_rfl)) (fun _ _ _ h => h) (Or.inl ⟨by rfl, ?_⟩) ?_ ?_
              rotate_left
              ·intro w'
               go_simp
               with_reducible rfl
              rotate_left
              ·simp only [Act.put, List.setIfInBounds_toArray, List.set_cons_zero, List.set_cons_succ, i64_w, i32_w]
               rfl
              refine pure_ (i := 10) (N := some 52) (v := ?_) (a' := ?_) #[true,true,true,true,false,false,false,false,true,true,true,false,false,false,false] rfl rfl (any_of HT_.out (by kernel_rfl)) (fun _ _ _ h => h) (Or.inl ⟨by rfl, ?_⟩) ?_ ?_
              rotate_left
              ·intro w'
               go_simp
               with_reducible rfl
              rotate_left
              ·simp only [Act.put, List.setIfInBounds_toArray, List.set_cons_zero, List.set_cons_succ, i64_w, i32_w]
               rfl
              refine pure_ (i := 11) (N := some 53) (v := ?_) (a' := ?_) #[true,true,true,true,false,false,false,false,true,true,true,true,false,false,false] rfl rfl (any_of HT_.out (by kernel_rfl)) (fun _ _ _ h => h) (Or.inl ⟨by rfl, ?_⟩) ?_ ?_
              rotate_left
              ·intro w'
               go_simp
               with_reducible rfl
              rotate_left
              ·simp only [Act.put, List.setIfInBounds_toArray, List.set_cons_zero, List.set_cons_succ, i64_w, i32_w]
               rfl
              refine take_ (i := 4) (N := some 46) (v := ?_) (a' := ?_) #[true,true,true,true,true,false,false,false,true,true,true,true,false,false,false] rfl rfl (take_ofW HT_.out HW_.out (by kernel_rfl)) (fun _ _ _ h => h) (Or.inl ⟨by rfl, ?_⟩) hHeld ?_ ?_
              rotate_left
              ·rintro w' ⟨s0, s1, s2, s3, s4, s5, s6, s7⟩
               go_simp
               with_reducible rfl
              rotate_left
              ·simp only [Act.put, List.setIfInBounds_toArray, List.set_cons_zero, List.set_cons_succ, i64_w, i32_w]
               rfl
              refine take_ (i := 12) (N := some 54) (v := ?_) (a' := ?_) #[true,true,true,true,true,false,false,false,true,true,true,true,true,false,false] rfl rfl (take_ofW HT_.out HW_.out (by kernel_rfl)) (fun _ _ _ h => h) (Or.inl ⟨by rfl, ?_⟩) hHeld ?_ ?_
              rotate_left
              ·rintro w' ⟨s0, s1, s2, s3, s4, s5, s6, s7⟩
               go_simp
               with_reducible rfl
              rotate_left
              ·simp only [Act.put, List.setIfInBounds_toArray, List.set_cons_zero, List.set_cons_succ, i64_w, i32_w]
               rfl
              refine one_ (i := 5) (N := some 47) #[true,true,true,true,true,true,false,false,true,true,true,true,true,false,false] rfl rfl (one_of HT_.out (by kernel_rfl)) (by decide) (fun K hK => ?_)
              refine goes_ Try.func28 (by kernel_rfl) rfl #[.int .i64 x6_3, .agg #[.bool ((rd_T33 y311 x5_1).f0), .int .i64 ((rd_T33 y311 x5_1).f1), .int .i64 ((rd_T33 y311 x5_1).f2), .int .i64 ((rd_T33 y311 x5_1).f3)]] (by rfl) rfl rfl (by (try simp only [List.map_toArray, List.map_cons, List.map_nil]); first | done | rfl | (simp only [List.length_drop, List.length_take]; rfl)) ?_
              with_reducible refine (bytes_Check.calls x6_3 ((rd_T33 y311 x5_1).f0) ((rd_T33 y311 x5_1).f1) ((rd_T33 y311 x5_1).f2) ((rd_T33 y311 x5_1).f3) t315 _ A26.out).mono ?_
              rintro e w32 ⟨rfl, hb⟩
              have HS0_ := (hb.cell (World.block_lt_of_cell? _ _ (hHeld.1))).trans (hHeld.1)
              have HS1_ := (hb.cell (World.block_lt_of_cell? _ _ (hHeld.2.1))).trans (hHeld.2.1)
              have HS2_ := (hb.cell (World.block_lt_of_cell? _ _ (hHeld.2.2.1))).trans (hHeld.2.2.1)
              have HS3_ := (hb.cell (World.block_lt_of_cell? _ _ (hHeld.2.2.2.1))).trans (hHeld.2.2.2.1)
              have HS4_ := (hb.cell (World.block_lt_of_cell? _ _ (hHeld.2.2.2.2.1))).trans (hHeld.2.2.2.2.1)
              have HS5_ := (hb.cell (World.block_lt_of_cell? _ _ (hHeld.2.2.2.2.2.1))).trans (hHeld.2.2.2.2.2.1)
              have HS6_ := (hb.cell (World.block_lt_of_cell? _ _ (hHeld.2.2.2.2.2.2.1))).trans (hHeld.2.2.2.2.2.2.1)
              have HS7_ := (hb.cell (World.block_lt_of_cell? _ _ (hHeld.2.2.2.2.2.2.2))).trans (hHeld.2.2.2.2.2.2.2)
              refine ⟨_, rfl, ?_⟩
              have n0_ := Aside0.mk (Kd.R_below (by (with_reducible repeat (first | apply Kd.R_alloc | apply Kd.R_drewN | apply Kd.R_drew)); exact HO_3.out) hb)
              have n1_ := Aside0.mk (Kd.R_below (by (with_reducible repeat (first | apply Kd.R_alloc | apply Kd.R_drewN | apply Kd.R_drew)); exact HO_4.out) hb)
              have n2_ := Aside0.mk (blk_below (g := gb303) (o := .cells #[.slice A0_0 l0_0.length c0_0, .slice A0_1 l0_1.length c0_1, .slice A0_2 l0_2.length c0_2] 26 (0, 0)) (zb BK303.out) hb)
              have n3_ := Aside0.mk (below_step (zw1 HB.out GE303.out) hb)
              clear HO_3
              clear HO_4
              clear BK303
              clear HB
              have HO_3 := n0_
              have HO_4 := n1_
              have BK303 := n2_
              have HB := n3_
              clear n0_ n1_ n2_ n3_
              (try clear hb)
              (try clear hb2)
              (try clear hk)
              (try clear hi)
              refine hK.out _ _ ⟨HS0_, HS1_, HS2_, HS3_, HS4_, HS5_, HS6_, HS7_⟩ (fun hHeld => ?_)
              clear hK K
              refine norm_ (a' := ?_) ?_ ?_
              rotate_left
              ·show Act.put _ (some 47) _ = _
               simp only [Act.put, List.setIfInBounds_toArray, List.set_cons_zero, List.set_cons_succ, i64_w, i32_w]
               rfl
              refine one_ (i := 6) (N := some 48) #[true,true,true,true,true,true,true,false,true,true,true,true,true,false,false] rfl rfl (one_of HT_.out (by kernel_rfl)) (by decide) (fun K hK => ?_)
              refine goes_ Try.func23 (by kernel_rfl) rfl #[.int .i64 t315] (by rfl) rfl rfl (by (try simp only [List.map_toArray, List.map_cons, List.map_nil]); first | done | rfl | (simp only [List.length_drop, List.length_take]; rfl)) ?_
              with_reducible refine (cellarlaw8_num.calls t315 t316 _ A27.out).mono ?_
              rintro e w' ⟨rfl, ⟨nd, rfl⟩⟩
              refine ⟨_, rfl, ?_⟩
              refine hK.out _ _ ⟨hHeld.1, hHeld.2.1, hHeld.2.2.1, hHeld.2.2.2.1, hHeld.2.2.2.2.1, hHeld.2.2.2.2.2.1, hHeld.2.2.2.2.2.2.1, hHeld.2.2.2.2.2.2.2⟩ (fun hHeld => ?_)
              clear hK K
              refine norm_ (a' := ?_) ?_ ?_
              rotate_left
              ·show Act.put _ (some 48) _ = _
               simp only [Act.put, List.setIfInBounds_toArray, List.set_cons_zero, List.set_cons_succ, i64_w, i32_w]
               rfl
              refine pure_ (i := 7) (N := some 49) (v := ?_) (a' := ?_) #[true,true,true,true,true,true,true,true,true,true,true,true,true,false,false] rfl rfl (any_of HT_.out (by kernel_rfl)) (fun _ _ _ h => h) (Or.inl ⟨by rfl, ?_⟩) ?_ ?_
              rotate_left
              ·intro w'
               go_simp
               with_reducible rfl
              rotate_left
              ·simp only [Act.put, List.setIfInBounds_toArray, List.set_cons_zero, List.set_cons_succ, i64_w, i32_w]
               rfl
              refine one_ (i := 13) (N := some 55) #[true,true,true,true,true,true,true,true,true,true,true,true,true,true,false] rfl rfl (one_of HT_.out (by kernel_rfl)) (by decide) (fun K hK => ?_)
              refine goes_ Try.func29 (by kernel_rfl) rfl #[.int .i64 x6_3, .agg #[.bool ((rd_T33 y311 x5_1).f0), .int .i64 ((rd_T33 y311 x5_1).f1), .int .i64 ((rd_T33 y311 x5_1).f2), .int .i64 ((rd_T33 y311 x5_1).f3)]] (by rfl) rfl rfl (by (try simp only [List.map_toArray, List.map_cons, List.map_nil]); first | done | rfl | (simp only [List.length_drop, List.length_take]; rfl)) ?_
              with_reducible refine (cellarref7_Scalar.calls k3 x6_3 ((rd_T33 y311 x5_1).f0) ((rd_T33 y311 x5_1).f1) ((rd_T33 y311 x5_1).f2) ((rd_T33 y311 x5_1).f3) t318 _ A28.out).mono ?_
              rintro e w33 ⟨rfl, hb⟩
              have HS0_ := (hb.cell (World.block_lt_of_cell? _ _ (hHeld.1))).trans (hHeld.1)
              have HS1_ := (hb.cell (World.block_lt_of_cell? _ _ (hHeld.2.1))).trans (hHeld.2.1)
              have HS2_ := (hb.cell (World.block_lt_of_cell? _ _ (hHeld.2.2.1))).trans (hHeld.2.2.1)
              have HS3_ := (hb.cell (World.block_lt_of_cell? _ _ (hHeld.2.2.2.1))).trans (hHeld.2.2.2.1)
              have HS4_ := (hb.cell (World.block_lt_of_cell? _ _ (hHeld.2.2.2.2.1))).trans (hHeld.2.2.2.2.1)
              have HS5_ := (hb.cell (World.block_lt_of_cell? _ _ (hHeld.2.2.2.2.2.1))).trans (hHeld.2.2.2.2.2.1)
              have HS6_ := (hb.cell (World.block_lt_of_cell? _ _ (hHeld.2.2.2.2.2.2.1))).trans (hHeld.2.2.2.2.2.2.1)
              have HS7_ := (hb.cell (World.block_lt_of_cell? _ _ (hHeld.2.2.2.2.2.2.2))).trans (hHeld.2.2.2.2.2.2.2)
              refine ⟨_, rfl, ?_⟩
              have n0_ := Aside0.mk (Kd.R_below (by (with_reducible repeat (first | apply Kd.R_alloc | apply Kd.R_drewN | apply Kd.R_drew)); exact HO_3.out) hb)
              have n1_ := Aside0.mk (Kd.R_below (by (with_reducible repeat (first | apply Kd.R_alloc | apply Kd.R_drewN | apply Kd.R_drew)); exact HO_4.out) hb)
              have n2_ := Aside0.mk (blk_below (g := gb303) (o := .cells #[.slice A0_0 l0_0.length c0_0, .slice A0_1 l0_1.length c0_1, .slice A0_2 l0_2.length c0_2] 26 (0, 0)) (zb BK303.out) hb)
              have n3_ := Aside0.mk (below_step (zw1 HB.out GE303.out) hb)
              clear HO_3
              clear HO_4
              clear BK303
              clear HB
              have HO_3 := n0_
              have HO_4 := n1_
              have BK303 := n2_
              have HB := n3_
              clear n0_ n1_ n2_ n3_
              (try clear hb)
              (try clear hb2)
              (try clear hk)
              (try clear hi)
              refine hK.out _ _ ⟨HS0_, HS1_, HS2_, HS3_, HS4_, HS5_, HS6_, HS7_⟩ (fun hHeld => ?_)
              clear hK K
              refine norm_ (a' := ?_) ?_ ?_
              rotate_left
              ·show Act.put _ (some 55) _ = _
               simp only [Act.put, List.setIfInBounds_toArray, List.set_cons_zero, List.set_cons_succ, i64_w, i32_w]
               rfl
              refine pure_ (i := 14) (N := some 56) (v := ?_) (a' := ?_) #[true,true,true,true,true,true,true,true,true,true,true,true,true,true,true] rfl rfl (any_of HT_.out (by kernel_rfl)) (fun _ _ _ h => h) (Or.inl ⟨by rfl, ?_⟩) ?_ ?_
              rotate_left
              ·intro w'
               go_simp
               with_reducible rfl
              rotate_left
              ·simp only [Act.put, List.setIfInBounds_toArray, List.set_cons_zero, List.set_cons_succ, i64_w, i32_w]
               rfl
              refine done_ (done_of HT_.out (by kernel_rfl)) ?_
              try go_wp2
              go_ret
              exact ⟨by first | rfl | (simp [errW_none, errW_some] <;> rfl) | (simp [*, errW_none, errW_some] <;> rfl), zw1 HB.out GE303.out⟩
             ·rw [if_neg c29] at H
              have c29b0 : ((t316 == 0) != t318) = false := by simpa using c29
              (try (have c29b1 : decide ((t316 == 0) = t318) = true := by simpa using c29))
              (try (have c29b2 : ((t316 == 0) == t318) = true := by simpa using c29))
              clear c29
              have H' := Aside0.mk H
              clear H
              try go_wp2
              have n0_ := Aside0.mk (Kd.R_drew HO_3.out)
              have n1_ := Aside0.mk (Kd.R_drew HO_4.out)
              have n2_ := Aside0.mk (blk_drew BK303.out)
              have n3_ := Aside0.mk (below_drew1 HB.out)
              clear HO_3
              clear HO_4
              clear BK303
              clear HB
              have HO_3 := n0_
              have HO_4 := n1_
              have BK303 := n2_
              have HB := n3_
              clear n0_ n1_ n2_ n3_
              obtain ⟨Ao35, co35, eo35⟩ := Kd.R_slice HO_4.out
              (first | subst eo35 | (injection eo35 with f1_ f2_ f3_; have f4_ := f1_.symm; have f5_ := f3_.symm; clear f1_ f2_ f3_; subst f4_; subst f5_))
              have p314 : 0 ≤ (x5_1 : Int) := zdec
              have q314 : x5_1 < (y311.length : Int) := zdec
              obtain ⟨ad314, e314, hx314_0, hx314_1, hx314_2, hx314_3⟩ := at_T33 (Kd.R_reads' HO_4.out).2.2 x5_1 p314 q314
              cases e314
              replace p314 := eq_true p314
              replace q314 := eq_true q314
              have p317 : 0 ≤ (x5_1 : Int) := zdec
              have q317 : x5_1 < (y311.length : Int) := zdec
              obtain ⟨ad317, e317, hx317_0, hx317_1, hx317_2, hx317_3⟩ := at_T33 (Kd.R_reads' HO_4.out).2.2 x5_1 p317 q317
              obtain rfl : ad314 = ad317 := (by injection e317)
              replace p317 := eq_true p317
              replace q317 := eq_true q317
              refine start_ (n := 15) (S := fun w' => w'.cell? (ad314.add ((x5_1).toNat * 4)) = some (.bool ((rd_T33 y311 x5_1).f0)) ∧ w'.cell? ⟨(ad314.add ((x5_1).toNat * 4)).block, (ad314.add ((x5_1).toNat * 4)).off + 1, none⟩ = some (.int .i64 ((rd_T33 y311 x5_1).f1)) ∧ w'.cell? ⟨(ad314.add ((x5_1).toNat * 4)).block, (ad314.add ((x5_1).toNat * 4)).off + 2, none⟩ = some (.int .i64 ((rd_T33 y311 x5_1).f2)) ∧ w'.cell? ⟨(ad314.add ((x5_1).toNat * 4)).block, (ad314.add ((x5_1).toNat * 4)).off + 3, none⟩ = some (.int .i64 ((rd_T33 y311 x5_1).f3)) ∧ w'.cell? (ad314.add ((x5_1).toNat * 4)) = some (.bool ((rd_T33 y311 x5_1).f0)) ∧ w'.cell? ⟨(ad314.add ((x5_1).toNat * 4)).block, (ad314.add ((x5_1).toNat * 4)).off + 1, none⟩ = some (.int .i64 ((rd_T33 y311 x5_1).f1)) ∧ w'.cell? ⟨(ad314.add ((x5_1).toNat * 4)).block, (ad314.add ((x5_1).toNat * 4)).off + 2, none⟩ = some (.int .i64 ((rd_T33 y311 x5_1).f2)) ∧ w'.cell? ⟨(ad314.add ((x5_1).toNat * 4)).block, (ad314.add ((x5_1).toNat * 4)).off + 3, none⟩ = some (.int .i64 ((rd_T33 y311 x5_1).f3))) (ds := []) #[false,false,false,false,false,false,false,false,false,false,false,false,false,false,false] (by kernel_rfl) rfl rfl ⟨hx314_0, hx314_1, hx314_2, hx314_3, hx317_0, hx317_1, hx317_2, hx317_3⟩ (fun hHeld => ?_); refine with_tabW cellarlaw8_BytesPut.tab11 cellarlaw8_BytesPut.bits11 (fun HT_ HW_ => ?_)
              generalize wr.drew = w34 at HO_3 HO_4 BK303 HB hx314_0 hx314_1 hx314_2 hx314_3 hx317_0 hx317_1 hx317_2 hx317_3 hHeld ⊢
              refine pure_ (i := 0) (N := some 42) (v := ?_) (a' := ?_) #[true,false,false,false,false,false,false,false,false,false,false,false,false,false,false] rfl rfl (any_of HT_.out (by kernel_rfl)) (fun _ _ _ h => h) (Or.inl ⟨by rfl, ?_⟩) ?_ ?_
              rotate_left
              ·intro w'
               go_simp
               with_reducible rfl
              rotate_left
              ·simp only [Act.put, List.setIfInBounds_toArray, List.set_cons_zero, List.set_cons_succ, i64_w, i32_w]
               rfl
              refine pure_ (i := 1) (N := some 43) (v := ?_) (a' := ?_) #[true,true,false,false,false,false,false,false,false,false,false,false,false,false,false] rfl rfl (any_of HT_.out (by kernel_rfl)) (fun _ _ _ h => h) (Or.inl ⟨by rfl, ?_⟩) ?_ ?_
              rotate_left
              ·intro w'
               go_simp
               with_reducible rfl
              rotate_left
              ·simp only [Act.put, List.setIfInBounds_toArray, List.set_cons_zero, List.set_cons_succ, i64_w, i32_w]
               rfl
              refine pure_ (i := 2) (N := some 44) (v := ?_) (a' := ?_) #[true,true,true,false,false,false,false,false,false,false,false,false,false,false,false] rfl rfl (any_of HT_.out (by kernel_rfl)) (fun _ _ _ h => h) (Or.inl ⟨by rfl, ?_⟩) ?_ ?_
              rotate_left
              ·intro w'
               go_simp
               with_reducible rfl
              rotate_left
              ·simp only [Act.put, List.setIfInBounds_toArray, List.set_cons_zero, List.set_cons_succ, i64_w, i32_w]
               rfl
              refine pure_ (i := 3) (N := some 45) (v := ?_) (a' := ?_) #[true,true,true,true,false,false,false,false,false,false,false,false,false,false,false] rfl rfl (any_of HT_.out (by kernel_rfl)) (fun _ _ _ h => h) (Or.inl ⟨by rfl, ?_⟩) ?_ ?_
              rotate_left
              ·intro w'
               go_simp
               with_reducible rfl
              rotate_left
              ·simp only [Act.put, List.setIfInBounds_toArray, List.set_cons_zero, List.set_cons_succ, i64_w, i32_w]
               rfl
              refine pure_ (i := 8) (N := some 50) (v := ?_) (a' := ?_) #[true,true,true,true,false,false,false,false,true,false,false,false,false,false,false] rfl rfl (any_of HT_.out (by kernel_rfl)) (fun _ _ _ h => h) (Or.inl ⟨by rfl, ?_⟩) ?_ ?_
              rotate_left
              ·intro w'
               go_simp
               with_reducible rfl
              rotate_left
              ·simp only [Act.put, List.setIfInBounds_toArray, List.set_cons_zero, List.set_cons_succ, i64_w, i32_w]
               rfl
              refine pure_ (i := 9) (N := some 51) (v := ?_) (a' := ?_) #[true,true,true,true,false,false,false,false,true,true,false,false,false,false,false] rfl rfl (any_of HT_.out (by kernel_rfl)) (fun _ _ _ h => h) (Or.inl ⟨by rfl, ?_⟩) ?_ ?_
              rotate_left
              ·intro w'
               go_simp
               with_reducible rfl
              rotate_left
              ·simp only [Act.put, List.setIfInBounds_toArray, List.set_cons_zero, List.set_cons_succ, i64_w, i32_w]
               rfl
              refine pure_ (i := 10) (N := some 52) (v := ?_) (a' := ?_) #[true,true,true,true,false,false,false,false,true,true,true,false,false,false,false] rfl rfl (any_of HT_.out (by kernel_rfl)) (fun _ _ _ h => h) (Or.inl ⟨by rfl, ?_⟩) ?_ ?_
              rotate_left
              ·intro w'
               go_simp
               with_reducible rfl
              rotate_left
              ·simp only [Act.put, List.setIfInBounds_toArray, List.set_cons_zero, List.set_cons_succ, i64_w, i32_w]
               rfl
              refine pure_ (i := 11) (N := some 53) (v := ?_) (a' := ?_) #[true,true,true,true,false,false,false,false,true,true,true,true,false,false,false] rfl rfl (any_of HT_.out (by kernel_rfl)) (fun _ _ _ h => h) (Or.inl ⟨by rfl, ?_⟩) ?_ ?_
              rotate_left
              ·intro w'
               go_simp
               with_reducible rfl
              rotate_left
              ·simp only [Act.put, List.setIfInBounds_toArray, List.set_cons_zero, List.set_cons_succ, i64_w, i32_w]
               rfl
              refine take_ (i := 4) (N := some 46) (v := ?_) (a' := ?_) #[true,true,true,true,true,false,false,false,true,true,true,true,false,false,false] rfl rfl (take_ofW HT_.out HW_.out (by kernel_rfl)) (fun _ _ _ h => h) (Or.inl ⟨by rfl, ?_⟩) hHeld ?_ ?_
              rotate_left
              ·rintro w' ⟨s0, s1, s2, s3, s4, s5, s6, s7⟩
               go_simp
               with_reducible rfl
              rotate_left
              ·simp only [Act.put, List.setIfInBounds_toArray, List.set_cons_zero, List.set_cons_succ, i64_w, i32_w]
               rfl
              refine take_ (i := 12) (N := some 54) (v := ?_) (a' := ?_) #[true,true,true,true,true,false,false,false,true,true,true,true,true,false,false] rfl rfl (take_ofW HT_.out HW_.out (by kernel_rfl)) (fun _ _ _ h => h) (Or.inl ⟨by rfl, ?_⟩) hHeld ?_ ?_
              rotate_left
              ·rintro w' ⟨s0, s1, s2, s3, s4, s5, s6, s7⟩
               go_simp
               with_reducible rfl
              rotate_left
              ·simp only [Act.put, List.setIfInBounds_toArray, List.set_cons_zero, List.set_cons_succ, i64_w, i32_w]
               rfl
              refine one_ (i := 5) (N := some 47) #[true,true,true,true,true,true,false,false,true,true,true,true,true,false,false] rfl rfl (one_of HT_.out (by kernel_rfl)) (by decide) (fun K hK => ?_)
              refine goes_ Try.func28 (by kernel_rfl) rfl #[.int .i64 x6_3, .agg #[.bool ((rd_T33 y311 x5_1).f0), .int .i64 ((rd_T33 y311 x5_1).f1), .int .i64 ((rd_T33 y311 x5_1).f2), .int .i64 ((rd_T33 y311 x5_1).f3)]] (by rfl) rfl rfl (by (try simp only [List.map_toArray, List.map_cons, List.map_nil]); first | done | rfl | (simp only [List.length_drop, List.length_take]; rfl)) ?_
              with_reducible refine (bytes_Check.calls x6_3 ((rd_T33 y311 x5_1).f0) ((rd_T33 y311 x5_1).f1) ((rd_T33 y311 x5_1).f2) ((rd_T33 y311 x5_1).f3) t315 _ A26.out).mono ?_
              rintro e w36 ⟨rfl, hb⟩
              have HS0_ := (hb.cell (World.block_lt_of_cell? _ _ (hHeld.1))).trans (hHeld.1)
              have HS1_ := (hb.cell (World.block_lt_of_cell? _ _ (hHeld.2.1))).trans (hHeld.2.1)
              have HS2_ := (hb.cell (World.block_lt_of_cell? _ _ (hHeld.2.2.1))).trans (hHeld.2.2.1)
              have HS3_ := (hb.cell (World.block_lt_of_cell? _ _ (hHeld.2.2.2.1))).trans (hHeld.2.2.2.1)
              have HS4_ := (hb.cell (World.block_lt_of_cell? _ _ (hHeld.2.2.2.2.1))).trans (hHeld.2.2.2.2.1)
              have HS5_ := (hb.cell (World.block_lt_of_cell? _ _ (hHeld.2.2.2.2.2.1))).trans (hHeld.2.2.2.2.2.1)
              have HS6_ := (hb.cell (World.block_lt_of_cell? _ _ (hHeld.2.2.2.2.2.2.1))).trans (hHeld.2.2.2.2.2.2.1)
              have HS7_ := (hb.cell (World.block_lt_of_cell? _ _ (hHeld.2.2.2.2.2.2.2))).trans (hHeld.2.2.2.2.2.2.2)
              refine ⟨_, rfl, ?_⟩
              have n0_ := Aside0.mk (Kd.R_below (by (with_reducible repeat (first | apply Kd.R_alloc | apply Kd.R_drewN | apply Kd.R_drew)); exact HO_3.out) hb)
              have n1_ := Aside0.mk (Kd.R_below (by (with_reducible repeat (first | apply Kd.R_alloc | apply Kd.R_drewN | apply Kd.R_drew)); exact HO_4.out) hb)
              have n2_ := Aside0.mk (blk_below (g := gb303) (o := .cells #[.slice A0_0 l0_0.length c0_0, .slice A0_1 l0_1.length c0_1, .slice A0_2 l0_2.length c0_2] 26 (0, 0)) (zb BK303.out) hb)
              have n3_ := Aside0.mk (below_step (zw1 HB.out GE303.out) hb)
              clear HO_3
              clear HO_4
              clear BK303
              clear HB
              have HO_3 := n0_
              have HO_4 := n1_
              have BK303 := n2_
              have HB := n3_
              clear n0_ n1_ n2_ n3_
              (try clear hb)
              (try clear hb2)
              (try clear hk)
              (try clear hi)
              refine hK.out _ _ ⟨HS0_, HS1_, HS2_, HS3_, HS4_, HS5_, HS6_, HS7_⟩ (fun hHeld => ?_)
              clear hK K
              refine norm_ (a' := ?_) ?_ ?_
              rotate_left
              ·show Act.put _ (some 47) _ = _
               simp only [Act.put, List.setIfInBounds_toArray, List.set_cons_zero, List.set_cons_succ, i64_w, i32_w]
               rfl
              refine one_ (i := 6) (N := some 48) #[true,true,true,true,true,true,true,false,true,true,true,true,true,false,false] rfl rfl (one_of HT_.out (by kernel_rfl)) (by decide) (fun K hK => ?_)
              refine goes_ Try.func23 (by kernel_rfl) rfl #[.int .i64 t315] (by rfl) rfl rfl (by (try simp only [List.map_toArray, List.map_cons, List.map_nil]); first | done | rfl | (simp only [List.length_drop, List.length_take]; rfl)) ?_
              with_reducible refine (cellarlaw8_num.calls t315 t316 _ A27.out).mono ?_
              rintro e w' ⟨rfl, ⟨nd, rfl⟩⟩
              refine ⟨_, rfl, ?_⟩
              refine hK.out _ _ ⟨hHeld.1, hHeld.2.1, hHeld.2.2.1, hHeld.2.2.2.1, hHeld.2.2.2.2.1, hHeld.2.2.2.2.2.1, hHeld.2.2.2.2.2.2.1, hHeld.2.2.2.2.2.2.2⟩ (fun hHeld => ?_)
              clear hK K
              refine norm_ (a' := ?_) ?_ ?_
              rotate_left
              ·show Act.put _ (some 48) _ = _
               simp only [Act.put, List.setIfInBounds_toArray, List.set_cons_zero, List.set_cons_succ, i64_w, i32_w]
               rfl
              refine pure_ (i := 7) (N := some 49) (v := ?_) (a' := ?_) #[true,true,true,true,true,true,true,true,true,true,true,true,true,false,false] rfl rfl (any_of HT_.out (by kernel_rfl)) (fun _ _ _ h => h) (Or.inl ⟨by rfl, ?_⟩) ?_ ?_
              rotate_left
              ·intro w'
               go_simp
               with_reducible rfl
              rotate_left
              ·simp only [Act.put, List.setIfInBounds_toArray, List.set_cons_zero, List.set_cons_succ, i64_w, i32_w]
               rfl
              refine one_ (i := 13) (N := some 55) #[true,true,true,true,true,true,true,true,true,true,true,true,true,true,false] rfl rfl (one_of HT_.out (by kernel_rfl)) (by decide) (fun K hK => ?_)
              refine goes_ Try.func29 (by kernel_rfl) rfl #[.int .i64 x6_3, .agg #[.bool ((rd_T33 y311 x5_1).f0), .int .i64 ((rd_T33 y311 x5_1).f1), .int .i64 ((rd_T33 y311 x5_1).f2), .int .i64 ((rd_T33 y311 x5_1).f3)]] (by rfl) rfl rfl (by (try simp only [List.map_toArray, List.map_cons, List.map_nil]); first | done | rfl | (simp only [List.length_drop, List.length_take]; rfl)) ?_
              with_reducible refine (cellarref7_Scalar.calls k3 x6_3 ((rd_T33 y311 x5_1).f0) ((rd_T33 y311 x5_1).f1) ((rd_T33 y311 x5_1).f2) ((rd_T33 y311 x5_1).f3) t318 _ A28.out).mono ?_
              rintro e w37 ⟨rfl, hb⟩
              have HS0_ := (hb.cell (World.block_lt_of_cell? _ _ (hHeld.1))).trans (hHeld.1)
              have HS1_ := (hb.cell (World.block_lt_of_cell? _ _ (hHeld.2.1))).trans (hHeld.2.1)
              have HS2_ := (hb.cell (World.block_lt_of_cell? _ _ (hHeld.2.2.1))).trans (hHeld.2.2.1)
              have HS3_ := (hb.cell (World.block_lt_of_cell? _ _ (hHeld.2.2.2.1))).trans (hHeld.2.2.2.1)
              have HS4_ := (hb.cell (World.block_lt_of_cell? _ _ (hHeld.2.2.2.2.1))).trans (hHeld.2.2.2.2.1)
              have HS5_ := (hb.cell (World.block_lt_of_cell? _ _ (hHeld.2.2.2.2.2.1))).trans (hHeld.2.2.2.2.2.1)
              have HS6_ := (hb.cell (World.block_lt_of_cell? _ _ (hHeld.2.2.2.2.2.2.1))).trans (hHeld.2.2.2.2.2.2.1)
              have HS7_ := (hb.cell (World.block_lt_of_cell? _ _ (hHeld.2.2.2.2.2.2.2))).trans (hHeld.2.2.2.2.2.2.2)
              refine ⟨_, rfl, ?_⟩
              have n0_ := Aside0.mk (Kd.R_below (by (with_reducible repeat (first | apply Kd.R_alloc | apply Kd.R_drewN | apply Kd.R_drew)); exact HO_3.out) hb)
              have n1_ := Aside0.mk (Kd.R_below (by (with_reducible repeat (first | apply Kd.R_alloc | apply Kd.R_drewN | apply Kd.R_drew)); exact HO_4.out) hb)
              have n2_ := Aside0.mk (blk_below (g := gb303) (o := .cells #[.slice A0_0 l0_0.length c0_0, .slice A0_1 l0_1.length c0_1, .slice A0_2 l0_2.length c0_2] 26 (0, 0)) (zb BK303.out) hb)
              have n3_ := Aside0.mk (below_step (zw1 HB.out GE303.out) hb)
              clear HO_3
              clear HO_4
              clear BK303
              clear HB
              have HO_3 := n0_
              have HO_4 := n1_
              have BK303 := n2_
              have HB := n3_
              clear n0_ n1_ n2_ n3_
              (try clear hb)
              (try clear hb2)
              (try clear hk)
              (try clear hi)
              refine hK.out _ _ ⟨HS0_, HS1_, HS2_, HS3_, HS4_, HS5_, HS6_, HS7_⟩ (fun hHeld => ?_)
              clear hK K
              refine norm_ (a' := ?_) ?_ ?_
              rotate_left
              ·show Act.put _ (some 55) _ = _
               simp only [Act.put, List.setIfInBounds_toArray, List.set_cons_zero, List.set_cons_succ, i64_w, i32_w]
               rfl
              refine pure_ (i := 14) (N := some 56) (v := ?_) (a' := ?_) #[true,true,true,true,true,true,true,true,true,true,true,true,true,true,true] rfl rfl (any_of HT_.out (by kernel_rfl)) (fun _ _ _ h => h) (Or.inl ⟨by rfl, ?_⟩) ?_ ?_
              rotate_left
              ·intro w'
               go_simp
               with_reducible rfl
              rotate_left
              ·simp only [Act.put, List.setIfInBounds_toArray, List.set_cons_zero, List.set_cons_succ, i64_w, i32_w]
               rfl
              refine done_ (done_of HT_.out (by kernel_rfl)) ?_
              try go_wp2
              go_loopg [7] k3 (fun kq v7 w' => ∃ (x7_4 : Int), v7 = .int .i64 x7_4 ∧ Aside0 (cellarlaw8_BytesPut.l2 kq t305 y311 x5_1 x6_3 x7_4 l0_0 l0_1 l0_2 = some r) ∧ Aside0 (kq ≤ k3) ∧ Aside0 (Kd.R k38 38 w' w.heap.size (fun _ => True) v306 t305) ∧ Aside0 (Kd.R k33 33 w' w.heap.size (fun _ => True) (.slice (some ad314) y311.length co35) y311) ∧ Aside0 (w'.heap[gb303]? = some (.cells #[(.slice A0_0 l0_0.length c0_0), (.slice A0_1 l0_1.length c0_1), (.slice A0_2 l0_2.length c0_2)] 26 (0, 0))) ∧ Aside0 (Below w.heap.size w w'))
              case atStart => exact ⟨(0), (by first | rfl | (simp; done) | (simp [*]; done)), H', ⟨Nat.le_refl _⟩, ⟨by (with_reducible repeat (first | apply Kd.R_alloc | apply Kd.R_drewN | apply Kd.R_drew)); exact HO_3.out⟩, ⟨by (with_reducible repeat (first | apply Kd.R_alloc | apply Kd.R_drewN | apply Kd.R_drew)); exact HO_4.out⟩, ⟨zb BK303.out⟩, ⟨zw1 HB.out GE303.out⟩⟩
              case round =>
               clear H'
               try clear c1
               try clear c2
               try clear p2
               try clear c3
               try clear p3
               try clear q3
               try clear hx3
               try clear c4
               try clear c8
               try clear c12
               try clear c13
               try clear c14
               try clear c19
               try clear c19b0
               try clear c22
               try clear c23
               try clear c23b0
               try clear c24
               try clear c24b0
               try clear c25
               try clear c25b0
               try clear c28
               try clear c29
               try clear c29b0
               try clear c29b1
               try clear c29b2
               try clear p31
               try clear q31
               try clear hx31
               try clear hcz10_0
               try clear hcz10_1
               try clear hcz10_2
               try clear hcz12_0
               try clear hcz12_1
               try clear hcz12_2
               try clear hcz16_0
               try clear hcz16_1
               try clear hcz16_2
               try clear hcz5_0
               try clear hcz5_1
               try clear hcz5_2
               try clear hfz10_0
               try clear hfz10_1
               try clear hfz10_2
               try clear hfz12_0
               try clear hfz12_1
               try clear hfz12_2
               try clear hfz16_0
               try clear hfz16_1
               try clear hfz16_2
               try clear hfz5_0
               try clear hfz5_1
               try clear hfz5_2
               try clear hx314_0
               try clear hx314_1
               try clear hx314_2
               try clear hx314_3
               try clear hx317_0
               try clear hx317_1
               try clear hx317_2
               try clear hx317_3
               try clear p2
               try clear p314
               try clear p317
               try clear q314
               try clear q317
               obtain ⟨x7_4, rfl, HA, HK4, HO_3, HO_4, BK303, HB⟩ := hrel
               cases gk with
               | zero => exact absurd HA.out (by simp [cellarlaw8_BytesPut.l2])
               | succ k4 =>
                have H := HA.out
                clear HA
                simp only [cellarlaw8_BytesPut.l2] at H
                by_cases c38 : x7_4 < (t305.length : Int)
                ·rw [if_pos c38] at H
                 have c38b0 : decide (x7_4 < (t305.length : Int)) = true := decide_eq_true c38
                 clear c38
                 by_cases c39 : 0 ≤ x7_4
                 ·rw [if_pos c39] at H
                  have c39b0 : decide (0 ≤ x7_4) = true := decide_eq_true c39
                  clear c39
                  by_cases c40 : 0 ≤ x5_1
                  ·rw [if_pos c40] at H
                   have c40b0 : decide (0 ≤ x5_1) = true := decide_eq_true c40
                   clear c40
                   by_cases c41 : x5_1 < (y311.length : Int)
                   ·rw [if_pos c41] at H
                    have c41b0 : decide (x5_1 < (y311.length : Int)) = true := decide_eq_true c41
                    clear c41
                    replace H := Option.bind_eq_some_iff.mp H
                    obtain ⟨⟨t321, t324⟩, A420, H⟩ := H
                    replace H : ((cellarref1_Abi.f ((rd_T38 t305 x7_4).f0) ((rd_T38 t305 x7_4).f1)).bind fun t326 => (if t326 = true then ((cellarref7_Scalar.f k4 x6_3 ((rd_T33 y311 x5_1).f0) ((rd_T33 y311 x5_1).f1) ((rd_T33 y311 x5_1).f2) ((rd_T33 y311 x5_1).f3)).bind fun t328 => (cellarlaw8_BytesPut.j4 k4 t305 y311 x5_1 x6_3 x7_4 t321 t324 1 ([] : List (S51)) t328 l0_0 l0_1 l0_2)) else (cellarlaw8_BytesPut.j4 k4 t305 y311 x5_1 x6_3 x7_4 t321 t324 1 ([] : List (S51)) false l0_0 l0_1 l0_2))) = some r := H
                    have A42 := Aside0.mk A420
                    clear A420
                    have HC43 := Aside0.mk H
                    clear H
                    obtain ⟨Ao44, co44, eo44⟩ := Kd.R_slice HO_3.out
                    subst eo44
                    try go_wp2
                    have n0_ := Aside0.mk (Kd.R_drew HO_3.out)
                    have n1_ := Aside0.mk (Kd.R_drew HO_4.out)
                    have n2_ := Aside0.mk (blk_drew BK303.out)
                    have n3_ := Aside0.mk (below_drew1 HB.out)
                    clear HO_3
                    clear HO_4
                    clear BK303
                    clear HB
                    have HO_3 := n0_
                    have HO_4 := n1_
                    have BK303 := n2_
                    have HB := n3_
                    clear n0_ n1_ n2_ n3_
                    have p319 : 0 ≤ (x7_4 : Int) := zdec
                    have q319 : x7_4 < (t305.length : Int) := zdec
                    obtain ⟨ad319, e319, hx319_0, hx319_1⟩ := at_T38 (Kd.R_reads' HO_3.out).2.2 x7_4 p319 q319
                    cases e319
                    replace p319 := eq_true p319
                    replace q319 := eq_true q319
                    have p320 : 0 ≤ (x5_1 : Int) := zdec
                    have q320 : x5_1 < (y311.length : Int) := zdec
                    obtain ⟨ad320, e320, hx320_0, hx320_1, hx320_2, hx320_3⟩ := at_T33 (Kd.R_reads' HO_4.out).2.2 x5_1 p320 q320
                    obtain rfl : ad314 = ad320 := (by injection e320)
                    replace p320 := eq_true p320
                    replace q320 := eq_true q320
                    refine start_ (n := 15) (S := fun w' => w'.cell? (ad319.add ((x7_4).toNat * 2)) = some (.bool ((rd_T38 t305 x7_4).f0)) ∧ w'.cell? ⟨(ad319.add ((x7_4).toNat * 2)).block, (ad319.add ((x7_4).toNat * 2)).off + 1, none⟩ = some (.int .i64 ((rd_T38 t305 x7_4).f1)) ∧ w'.cell? (ad314.add ((x5_1).toNat * 4)) = some (.bool ((rd_T33 y311 x5_1).f0)) ∧ w'.cell? ⟨(ad314.add ((x5_1).toNat * 4)).block, (ad314.add ((x5_1).toNat * 4)).off + 1, none⟩ = some (.int .i64 ((rd_T33 y311 x5_1).f1)) ∧ w'.cell? ⟨(ad314.add ((x5_1).toNat * 4)).block, (ad314.add ((x5_1).toNat * 4)).off + 2, none⟩ = some (.int .i64 ((rd_T33 y311 x5_1).f2)) ∧ w'.cell? ⟨(ad314.add ((x5_1).toNat * 4)).block, (ad314.add ((x5_1).toNat * 4)).off + 3, none⟩ = some (.int .i64 ((rd_T33 y311 x5_1).f3))) (ds := []) #[false,false,false,false,false,false,false,false,false,false,false,false,false,false,false] (by kernel_rfl) rfl rfl ⟨hx319_0, hx319_1, hx320_0, hx320_1, hx320_2, hx320_3⟩ (fun hHeld => ?_); refine with_tabW cellarlaw8_BytesPut.tab16 cellarlaw8_BytesPut.bits16 (fun HT_ HW_ => ?_)
                    generalize wr.drew = w45 at HO_3 HO_4 BK303 HB hx319_0 hx319_1 hx320_0 hx320_1 hx320_2 hx320_3 hHeld ⊢
                    refine pure_ (i := 0) (N := some 64) (v := ?_) (a' := ?_) #[true,false,false,false,false,false,false,false,false,false,false,false,false,false,false] rfl rfl (any_of HT_.out (by kernel_rfl)) (fun _ _ _ h => h) (Or.inl ⟨by rfl, ?_⟩) ?_ ?_
                    rotate_left
                    ·intro w'
                     go_simp
                     with_reducible rfl
                    rotate_left
                    ·simp only [Act.put, List.setIfInBounds_toArray, List.set_cons_zero, List.set_cons_succ, i64_w, i32_w]
                     rfl
                    refine pure_ (i := 1) (N := some 65) (v := ?_) (a' := ?_) #[true,true,false,false,false,false,false,false,false,false,false,false,false,false,false] rfl rfl (any_of HT_.out (by kernel_rfl)) (fun _ _ _ h => h) (Or.inl ⟨by rfl, ?_⟩) ?_ ?_
                    rotate_left
                    ·intro w'
                     go_simp
                     with_reducible rfl
                    rotate_left
                    ·simp only [Act.put, List.setIfInBounds_toArray, List.set_cons_zero, List.set_cons_succ, i64_w, i32_w]
                     rfl
                    refine pure_ (i := 2) (N := some 66) (v := ?_) (a' := ?_) #[true,true,true,false,false,false,false,false,false,false,false,false,false,false,false] rfl rfl (any_of HT_.out (by kernel_rfl)) (fun _ _ _ h => h) (Or.inl ⟨by rfl, ?_⟩) ?_ ?_
                    rotate_left
                    ·intro w'
                     go_simp
                     with_reducible rfl
                    rotate_left
                    ·simp only [Act.put, List.setIfInBounds_toArray, List.set_cons_zero, List.set_cons_succ, i64_w, i32_w]
                     rfl
                    refine pure_ (i := 4) (N := some 68) (v := ?_) (a' := ?_) #[true,true,true,false,true,false,false,false,false,false,false,false,false,false,false] rfl rfl (any_of HT_.out (by kernel_rfl)) (fun _ _ _ h => h) (Or.inl ⟨by rfl, ?_⟩) ?_ ?_
                    rotate_left
                    ·intro w'
                     go_simp
                     with_reducible rfl
                    rotate_left
                    ·simp only [Act.put, List.setIfInBounds_toArray, List.set_cons_zero, List.set_cons_succ, i64_w, i32_w]
                     rfl
                    refine pure_ (i := 5) (N := some 69) (v := ?_) (a' := ?_) #[true,true,true,false,true,true,false,false,false,false,false,false,false,false,false] rfl rfl (any_of HT_.out (by kernel_rfl)) (fun _ _ _ h => h) (Or.inl ⟨by rfl, ?_⟩) ?_ ?_
                    rotate_left
                    ·intro w'
                     go_simp
                     with_reducible rfl
                    rotate_left
                    ·simp only [Act.put, List.setIfInBounds_toArray, List.set_cons_zero, List.set_cons_succ, i64_w, i32_w]
                     rfl
                    refine pure_ (i := 6) (N := some 70) (v := ?_) (a' := ?_) #[true,true,true,false,true,true,true,false,false,false,false,false,false,false,false] rfl rfl (any_of HT_.out (by kernel_rfl)) (fun _ _ _ h => h) (Or.inl ⟨by rfl, ?_⟩) ?_ ?_
                    rotate_left
                    ·intro w'
                     go_simp
                     with_reducible rfl
                    rotate_left
                    ·simp only [Act.put, List.setIfInBounds_toArray, List.set_cons_zero, List.set_cons_succ, i64_w, i32_w]
                     rfl
                    refine pure_ (i := 7) (N := some 71) (v := ?_) (a' := ?_) #[true,true,true,false,true,true,true,true,false,false,false,false,false,false,false] rfl rfl (any_of HT_.out (by kernel_rfl)) (fun _ _ _ h => h) (Or.inl ⟨by rfl, ?_⟩) ?_ ?_
                    rotate_left
                    ·intro w'
                     go_simp
                     with_reducible rfl
                    rotate_left
                    ·simp only [Act.put, List.setIfInBounds_toArray, List.set_cons_zero, List.set_cons_succ, i64_w, i32_w]
                     rfl
                    refine take_ (i := 3) (N := some 67) (v := ?_) (a' := ?_) #[true,true,true,true,true,true,true,true,false,false,false,false,false,false,false] rfl rfl (take_ofW HT_.out HW_.out (by kernel_rfl)) (fun _ _ _ h => h) (Or.inl ⟨by rfl, ?_⟩) hHeld ?_ ?_
                    rotate_left
                    ·rintro w' ⟨s0, s1, s2, s3, s4, s5⟩
                     go_simp
                     with_reducible rfl
                    rotate_left
                    ·simp only [Act.put, List.setIfInBounds_toArray, List.set_cons_zero, List.set_cons_succ, i64_w, i32_w]
                     rfl
                    refine take_ (i := 8) (N := some 72) (v := ?_) (a' := ?_) #[true,true,true,true,true,true,true,true,true,false,false,false,false,false,false] rfl rfl (take_ofW HT_.out HW_.out (by kernel_rfl)) (fun _ _ _ h => h) (Or.inl ⟨by rfl, ?_⟩) hHeld ?_ ?_
                    rotate_left
                    ·rintro w' ⟨s0, s1, s2, s3, s4, s5⟩
                     go_simp
                     with_reducible rfl
                    rotate_left
                    ·simp only [Act.put, List.setIfInBounds_toArray, List.set_cons_zero, List.set_cons_succ, i64_w, i32_w]
                     rfl
                    refine one_ (i := 9) (N := some 73) #[true,true,true,true,true,true,true,true,true,true,false,false,false,false,false] rfl rfl (one_of HT_.out (by kernel_rfl)) (by decide) (fun K hK => ?_)
                    refine goes_ Try.func26 (by kernel_rfl) rfl #[.agg #[.bool ((rd_T38 t305 x7_4).f0), .int .i64 ((rd_T38 t305 x7_4).f1)], .int .i64 x6_3, .agg #[.bool ((rd_T33 y311 x5_1).f0), .int .i64 ((rd_T33 y311 x5_1).f1), .int .i64 ((rd_T33 y311 x5_1).f2), .int .i64 ((rd_T33 y311 x5_1).f3)]] (by rfl) rfl rfl (by (try simp only [List.map_toArray, List.map_cons, List.map_nil]); first | done | rfl | (simp only [List.length_drop, List.length_take]; rfl)) ?_
                    with_reducible refine (bytes_Put.calls k4 ((rd_T38 t305 x7_4).f0) ((rd_T38 t305 x7_4).f1) x6_3 ((rd_T33 y311 x5_1).f0) ((rd_T33 y311 x5_1).f1) ((rd_T33 y311 x5_1).f2) ((rd_T33 y311 x5_1).f3) t321 t324 _ A42.out).mono ?_
                    rintro e w46 ⟨v322, rfl, ho0, hb⟩
                    have HS0_ := (hb.cell (World.block_lt_of_cell? _ _ (hHeld.1))).trans (hHeld.1)
                    have HS1_ := (hb.cell (World.block_lt_of_cell? _ _ (hHeld.2.1))).trans (hHeld.2.1)
                    have HS2_ := (hb.cell (World.block_lt_of_cell? _ _ (hHeld.2.2.1))).trans (hHeld.2.2.1)
                    have HS3_ := (hb.cell (World.block_lt_of_cell? _ _ (hHeld.2.2.2.1))).trans (hHeld.2.2.2.1)
                    have HS4_ := (hb.cell (World.block_lt_of_cell? _ _ (hHeld.2.2.2.2.1))).trans (hHeld.2.2.2.2.1)
                    have HS5_ := (hb.cell (World.block_lt_of_cell? _ _ (hHeld.2.2.2.2.2))).trans (hHeld.2.2.2.2.2)
                    refine ⟨_, rfl, ?_⟩
                    have n0_ := Aside0.mk (Kd.R_below (by (with_reducible repeat (first | apply Kd.R_alloc | apply Kd.R_drewN | apply Kd.R_drew)); exact HO_3.out) hb)
                    have n1_ := Aside0.mk (Kd.R_below (by (with_reducible repeat (first | apply Kd.R_alloc | apply Kd.R_drewN | apply Kd.R_drew)); exact HO_4.out) hb)
                    have n2_ := Aside0.mk (Kd.R_lower ho0 (below_size (zw1 HB.out GE303.out)))
                    have n3_ := Aside0.mk (blk_below (g := gb303) (o := .cells #[.slice A0_0 l0_0.length c0_0, .slice A0_1 l0_1.length c0_1, .slice A0_2 l0_2.length c0_2] 26 (0, 0)) (zb BK303.out) hb)
                    have n4_ := Aside0.mk (below_step (zw1 HB.out GE303.out) hb)
                    clear HO_3
                    clear HO_4
                    clear BK303
                    clear HB
                    have HO_3 := n0_
                    have HO_4 := n1_
                    have HO323 := n2_
                    have BK303 := n3_
                    have HB := n4_
                    clear n0_ n1_ n2_ n3_ n4_
                    (try clear hb)
                    (try clear hb2)
                    (try clear hk)
                    (try clear hi)
                    (try clear ho0)
                    refine hK.out _ _ ⟨HS0_, HS1_, HS2_, HS3_, HS4_, HS5_⟩ (fun hHeld => ?_)
                    clear hK K
                    refine norm_ (a' := ?_) ?_ ?_
                    rotate_left
                    ·show Act.put _ (some 73) _ = _
                     simp only [Act.put, List.setIfInBounds_toArray, List.set_cons_zero, List.set_cons_succ, i64_w, i32_w]
                     rfl
                    refine pure_ (i := 10) (N := some 63) (v := ?_) (a' := ?_) #[true,true,true,true,true,true,true,true,true,true,true,false,false,false,false] rfl rfl (any_of HT_.out (by kernel_rfl)) (fun _ _ _ h => h) (Or.inl ⟨by rfl, ?_⟩) ?_ ?_
                    rotate_left
                    ·intro w'
                     go_simp
                     with_reducible rfl
                    rotate_left
                    ·simp only [Act.put, List.setIfInBounds_toArray, List.set_cons_zero, List.set_cons_succ, i64_w, i32_w]
                     rfl
                    refine pure_ (i := 11) (N := some 74) (v := ?_) (a' := ?_) #[true,true,true,true,true,true,true,true,true,true,true,true,false,false,false] rfl rfl (any_of HT_.out (by kernel_rfl)) (fun _ _ _ h => h) (Or.inl ⟨by rfl, ?_⟩) ?_ ?_
                    rotate_left
                    ·intro w'
                     go_simp
                     with_reducible rfl
                    rotate_left
                    ·simp only [Act.put, List.setIfInBounds_toArray, List.set_cons_zero, List.set_cons_succ, i64_w, i32_w]
                     rfl
                    refine pure_ (i := 12) (N := some 75) (v := ?_) (a' := ?_) #[true,true,true,true,true,true,true,true,true,true,true,true,true,false,false] rfl rfl (any_of HT_.out (by kernel_rfl)) (fun _ _ _ h => h) (Or.inl ⟨by rfl, ?_⟩) ?_ ?_
                    rotate_left
                    ·intro w'
                     go_simp
                     with_reducible rfl
                    rotate_left
                    ·simp only [Act.put, List.setIfInBounds_toArray, List.set_cons_zero, List.set_cons_succ, i64_w, i32_w]
                     rfl
                    refine pure_ (i := 13) (N := some 8) (v := ?_) (a' := ?_) #[true,true,true,true,true,true,true,true,true,true,true,true,true,true,false] rfl rfl (any_of HT_.out (by kernel_rfl)) (fun _ _ _ h => h) (Or.inl ⟨by rfl, ?_⟩) ?_ ?_
                    rotate_left
                    ·intro w'
                     go_simp
                     with_reducible rfl
                    rotate_left
                    ·simp only [Act.put, List.setIfInBounds_toArray, List.set_cons_zero, List.set_cons_succ, i64_w, i32_w]
                     rfl
                    refine pure_ (i := 14) (N := some 9) (v := ?_) (a' := ?_) #[true,true,true,true,true,true,true,true,true,true,true,true,true,true,true] rfl rfl (any_of HT_.out (by kernel_rfl)) (fun _ _ _ h => h) (Or.inl ⟨by rfl, ?_⟩) ?_ ?_
                    rotate_left
                    ·intro w'
                     go_simp
                     with_reducible rfl
                    rotate_left
                    ·simp only [Act.put, List.setIfInBounds_toArray, List.set_cons_zero, List.set_cons_succ, i64_w, i32_w]
                     rfl
                    refine done_ (done_of HT_.out (by kernel_rfl)) ?_
                    go_upto_region 19 with (fail)
                    go_cut [88] (fun v88 wc => ∃ (kq : Nat) (x88_42 : Bool), v88 = .bool x88_42 ∧ Aside0 (cellarlaw8_BytesPut.j4 kq t305 y311 x5_1 x6_3 x7_4 t321 t324 1 ([] : List (S51)) x88_42 l0_0 l0_1 l0_2 = some r) ∧ Aside0 (kq ≤ k4) ∧ Aside0 (Kd.R k38 38 wc w.heap.size (fun _ => True) (.slice (some ad319) t305.length co44) t305) ∧ Aside0 (Kd.R k33 33 wc w.heap.size (fun _ => True) (.slice (some ad314) y311.length co35) y311) ∧ Aside0 (Kd.R k51 51 wc w.heap.size (fun k_ => some k_ ≠ ((.slice none 0 0) : Value).ownBlock) v322 t321) ∧ Aside0 (Kd.R k51 51 wc w.heap.size (fun k_ => some k_ ≠ (v322 : Value).ownBlock) (.slice none 0 0) ([] : List (S51))) ∧ Aside0 (wc.heap[gb303]? = some (.cells #[(.slice A0_0 l0_0.length c0_0), (.slice A0_1 l0_1.length c0_1), (.slice A0_2 l0_2.length c0_2)] 26 (0, 0))) ∧ Aside0 (Below w.heap.size w wc))
                    case first =>
                     have H := HC43.out
                     clear HC43
                     replace H := Option.bind_eq_some_iff.mp H
                     obtain ⟨t326, A470, H⟩ := H
                     replace H : (if t326 = true then ((cellarref7_Scalar.f k4 x6_3 ((rd_T33 y311 x5_1).f0) ((rd_T33 y311 x5_1).f1) ((rd_T33 y311 x5_1).f2) ((rd_T33 y311 x5_1).f3)).bind fun t328 => (cellarlaw8_BytesPut.j4 k4 t305 y311 x5_1 x6_3 x7_4 t321 t324 1 ([] : List (S51)) t328 l0_0 l0_1 l0_2)) else (cellarlaw8_BytesPut.j4 k4 t305 y311 x5_1 x6_3 x7_4 t321 t324 1 ([] : List (S51)) false l0_0 l0_1 l0_2)) = some r := H
                     have A47 := Aside0.mk A470
                     clear A470
                     by_cases c48 : t326 = true
                     ·subst c48
                      have H1 : ((cellarref7_Scalar.f k4 x6_3 ((rd_T33 y311 x5_1).f0) ((rd_T33 y311 x5_1).f1) ((rd_T33 y311 x5_1).f2) ((rd_T33 y311 x5_1).f3)).bind fun t328 => (cellarlaw8_BytesPut.j4 k4 t305 y311 x5_1 x6_3 x7_4 t321 t324 1 ([] : List (S51)) t328 l0_0 l0_1 l0_2)) = some r := by rw [if_pos rfl] at H; exact H
                      clear H
                      have H := H1
                      clear H1
                      replace H := Option.bind_eq_some_iff.mp H
                      obtain ⟨t328, A490, H⟩ := H
                      replace H : (cellarlaw8_BytesPut.j4 k4 t305 y311 x5_1 x6_3 x7_4 t321 t324 1 ([] : List (S51)) t328 l0_0 l0_1 l0_2) = some r := H
                      have A49 := Aside0.mk A490
                      clear A490
                      have H' := Aside0.mk H
                      clear H
                      have p325 : 0 ≤ (x7_4 : Int) := zdec
                      have q325 : x7_4 < (t305.length : Int) := zdec
                      obtain ⟨ad325, e325, hx325_0, hx325_1⟩ := at_T38 (Kd.R_reads' HO_3.out).2.2 x7_4 p325 q325
                      obtain rfl : ad319 = ad325 := (by injection e325)
                      replace p325 := eq_true p325
                      replace q325 := eq_true q325
                      go_wp2_with (first | ((with_reducible refine gate_callee (f := 18) rfl ?_); refine goesL_ (some 80) rfl rfl Try.func18 (by kernel_rfl) rfl #[.agg #[.bool ((rd_T38 t305 x7_4).f0), .int .i64 ((rd_T38 t305 x7_4).f1)]] rfl (by (try simp only [List.map_toArray, List.map_cons, List.map_nil]); first | done | rfl | (simp only [List.length_drop, List.length_take]; rfl)) ?_; (with_reducible refine (cellarref1_Abi.calls ((rd_T38 t305 x7_4).f0) ((rd_T38 t305 x7_4).f1) true _ A47.out).mono ?_); rintro e w50 ⟨rfl, hb⟩; refine ⟨_, rfl, ?_⟩; have n0_ := Aside0.mk (Kd.R_below (by (with_reducible repeat (first | apply Kd.R_alloc | apply Kd.R_drewN | apply Kd.R_drew)); exact HO_3.out) hb); have n1_ := Aside0.mk (Kd.R_below (by (with_reducible repeat (first | apply Kd.R_alloc | apply Kd.R_drewN | apply Kd.R_drew)); exact HO_4.out) hb); have n2_ := Aside0.mk (Kd.R_below (by (with_reducible repeat (first | apply Kd.R_alloc | apply Kd.R_drewN | apply Kd.R_drew)); exact HO323.out) hb); have n3_ := Aside0.mk (blk_below (g := gb303) (o := .cells #[.slice A0_0 l0_0.length c0_0, .slice A0_1 l0_1.length c0_1, .slice A0_2 l0_2.length c0_2] 26 (0, 0)) (zb BK303.out) hb); have n4_ := Aside0.mk (below_step (zw1 HB.out GE303.out) hb); clear HO_3; clear HO_4; clear HO323; clear BK303; clear HB; have HO_3 := n0_; have HO_4 := n1_; have HO323 := n2_; have BK303 := n3_; have HB := n4_; clear n0_ n1_ n2_ n3_ n4_; (try clear hb); (try clear hb2); (try clear hk); (try clear hi); have p327 : 0 ≤ (x5_1 : Int) := zdec; have q327 : x5_1 < (y311.length : Int) := zdec; obtain ⟨ad327, e327, hx327_0, hx327_1, hx327_2, hx327_3⟩ := at_T33 (Kd.R_reads' HO_4.out).2.2 x5_1 p327 q327; obtain rfl : ad314 = ad327 := (by injection e327); replace p327 := eq_true p327; replace q327 := eq_true q327) | (go_at_call 29; (with_reducible refine (cellarref7_Scalar.calls k4 x6_3 ((rd_T33 y311 x5_1).f0) ((rd_T33 y311 x5_1).f1) ((rd_T33 y311 x5_1).f2) ((rd_T33 y311 x5_1).f3) t328 _ A49.out).mono ?_); rintro e w51 ⟨rfl, hb⟩; have n0_ := Aside0.mk (Kd.R_below (by (with_reducible repeat (first | apply Kd.R_alloc | apply Kd.R_drewN | apply Kd.R_drew)); exact HO_3.out) hb); have n1_ := Aside0.mk (Kd.R_below (by (with_reducible repeat (first | apply Kd.R_alloc | apply Kd.R_drewN | apply Kd.R_drew)); exact HO_4.out) hb); have n2_ := Aside0.mk (Kd.R_below (by (with_reducible repeat (first | apply Kd.R_alloc | apply Kd.R_drewN | apply Kd.R_drew)); exact HO323.out) hb); have n3_ := Aside0.mk (blk_below (g := gb303) (o := .cells #[.slice A0_0 l0_0.length c0_0, .slice A0_1 l0_1.length c0_1, .slice A0_2 l0_2.length c0_2] 26 (0, 0)) (zb BK303.out) hb); have n4_ := Aside0.mk (below_step (zw1 HB.out GE303.out) hb); clear HO_3; clear HO_4; clear HO323; clear BK303; clear HB; have HO_3 := n0_; have HO_4 := n1_; have HO323 := n2_; have BK303 := n3_; have HB := n4_; clear n0_ n1_ n2_ n3_ n4_; (try clear hb); (try clear hb2); (try clear hk); (try clear hi)))
                      go_meet
                      case rel => exact ⟨_, (t328), (by first | rfl | (simp; done) | (simp [*]; done)), H', ⟨by have := HK1.out; have := HJ17.out; have := HK3.out; have := HK4.out; first | omega | exact Nat.le_refl _⟩, ⟨by (with_reducible repeat (first | apply Kd.R_alloc | apply Kd.R_drewN | apply Kd.R_drew)); exact HO_3.out⟩, ⟨by (with_reducible repeat (first | apply Kd.R_alloc | apply Kd.R_drewN | apply Kd.R_drew)); exact HO_4.out⟩, ⟨by (with_reducible repeat (first | apply Kd.R_alloc | apply Kd.R_drewN | apply Kd.R_drew)); exact Kd.R_mono HO323.out (fun _ hk => (by simp [Value.ownBlock]))⟩, ⟨by first | exact Kd.R_nil _ _ _ _ _ | exact Kd.N_nil _ _ _ _ _ | exact Kd.V_nil _ _ _ _ _ | exact Kd.Q_nil _ _ _ _ _ | exact Kd.S_nil _ _ _ _ _⟩, ⟨zb BK303.out⟩, ⟨zw1 HB.out GE303.out⟩⟩
                     ·replace c48 := Bool.eq_false_iff.mpr c48
                      subst c48
                      have H1 : (cellarlaw8_BytesPut.j4 k4 t305 y311 x5_1 x6_3 x7_4 t321 t324 1 ([] : List (S51)) false l0_0 l0_1 l0_2) = some r := by rw [if_neg (show ¬ (false = true) by decide)] at H; exact H
                      clear H
                      have H := H1
                      clear H1
                      have H' := Aside0.mk H
                      clear H
                      have p325 : 0 ≤ (x7_4 : Int) := zdec
                      have q325 : x7_4 < (t305.length : Int) := zdec
                      obtain ⟨ad325, e325, hx325_0, hx325_1⟩ := at_T38 (Kd.R_reads' HO_3.out).2.2 x7_4 p325 q325
                      obtain rfl : ad319 = ad325 := (by injection e325)
                      replace p325 := eq_true p325
                      replace q325 := eq_true q325
                      go_wp2_with (first | ((with_reducible refine gate_callee (f := 18) rfl ?_); refine goesL_ (some 80) rfl rfl Try.func18 (by kernel_rfl) rfl #[.agg #[.bool ((rd_T38 t305 x7_4).f0), .int .i64 ((rd_T38 t305 x7_4).f1)]] rfl (by (try simp only [List.map_toArray, List.map_cons, List.map_nil]); first | done | rfl | (simp only [List.length_drop, List.length_take]; rfl)) ?_; (with_reducible refine (cellarref1_Abi.calls ((rd_T38 t305 x7_4).f0) ((rd_T38 t305 x7_4).f1) false _ A47.out).mono ?_); rintro e w52 ⟨rfl, hb⟩; refine ⟨_, rfl, ?_⟩; have n0_ := Aside0.mk (Kd.R_below (by (with_reducible repeat (first | apply Kd.R_alloc | apply Kd.R_drewN | apply Kd.R_drew)); exact HO_3.out) hb); have n1_ := Aside0.mk (Kd.R_below (by (with_reducible repeat (first | apply Kd.R_alloc | apply Kd.R_drewN | apply Kd.R_drew)); exact HO_4.out) hb); have n2_ := Aside0.mk (Kd.R_below (by (with_reducible repeat (first | apply Kd.R_alloc | apply Kd.R_drewN | apply Kd.R_drew)); exact HO323.out) hb); have n3_ := Aside0.mk (blk_below (g := gb303) (o := .cells #[.slice A0_0 l0_0.length c0_0, .slice A0_1 l0_1.length c0_1, .slice A0_2 l0_2.length c0_2] 26 (0, 0)) (zb BK303.out) hb); have n4_ := Aside0.mk (below_step (zw1 HB.out GE303.out) hb); clear HO_3; clear HO_4; clear HO323; clear BK303; clear HB; have HO_3 := n0_; have HO_4 := n1_; have HO323 := n2_; have BK303 := n3_; have HB := n4_; clear n0_ n1_ n2_ n3_ n4_; (try clear hb); (try clear hb2); (try clear hk); (try clear hi)))
                      go_meet
                      case rel => exact ⟨_, (false), (by first | rfl | (simp; done) | (simp [*]; done)), H', ⟨by have := HK1.out; have := HJ17.out; have := HK3.out; have := HK4.out; first | omega | exact Nat.le_refl _⟩, ⟨by (with_reducible repeat (first | apply Kd.R_alloc | apply Kd.R_drewN | apply Kd.R_drew)); exact HO_3.out⟩, ⟨by (with_reducible repeat (first | apply Kd.R_alloc | apply Kd.R_drewN | apply Kd.R_drew)); exact HO_4.out⟩, ⟨by (with_reducible repeat (first | apply Kd.R_alloc | apply Kd.R_drewN | apply Kd.R_drew)); exact Kd.R_mono HO323.out (fun _ hk => (by simp [Value.ownBlock]))⟩, ⟨by first | exact Kd.R_nil _ _ _ _ _ | exact Kd.N_nil _ _ _ _ _ | exact Kd.V_nil _ _ _ _ _ | exact Kd.Q_nil _ _ _ _ _ | exact Kd.S_nil _ _ _ _ _⟩, ⟨zb BK303.out⟩, ⟨zw1 HB.out GE303.out⟩⟩
                    case rest => as_aux_lemma =>
                     clear HC43
                     try clear c1
                     try clear c2
                     try clear p2
                     try clear c3
                     try clear p3
                     try clear q3
                     try clear hx3
                     try clear c4
                     try clear c8
                     try clear c12
                     try clear c13
                     try clear c14
                     try clear c18
                     try clear c19
                     try clear c19b0
                     try clear c22
                     try clear c23
                     try clear c23b0
                     try clear c24
                     try clear c24b0
                     try clear c25
                     try clear c25b0
                     try clear c26
                     try clear c28
                     try clear c29
                     try clear c29b0
                     try clear c29b1
                     try clear c29b2
                     try clear p31
                     try clear q31
                     try clear hx31
                     try clear p32
                     try clear q32
                     try clear hx32
                     try clear c38
                     try clear c38b0
                     try clear c39
                     try clear c39b0
                     try clear c40
                     try clear c40b0
                     try clear c41
                     try clear c41b0
                     try clear c48
                     try clear hcz10_0
                     try clear hcz10_1
                     try clear hcz10_2
                     try clear hcz12_0
                     try clear hcz12_1
                     try clear hcz12_2
                     try clear hcz16_0
                     try clear hcz16_1
                     try clear hcz16_2
                     try clear hcz5_0
                     try clear hcz5_1
                     try clear hcz5_2
                     try clear hfz10_0
                     try clear hfz10_1
                     try clear hfz10_2
                     try clear hfz12_0
                     try clear hfz12_1
                     try clear hfz12_2
                     try clear hfz16_0
                     try clear hfz16_1
                     try clear hfz16_2
                     try clear hfz5_0
                     try clear hfz5_1
                     try clear hfz5_2
                     try clear hx314_0
                     try clear hx314_1
                     try clear hx314_2
                     try clear hx314_3
                     try clear hx317_0
                     try clear hx317_1
                     try clear hx317_2
                     try clear hx317_3
                     try clear hx319_0
                     try clear hx319_1
                     try clear hx320_0
                     try clear hx320_1
                     try clear hx320_2
                     try clear hx320_3
                     try clear hx325_0
                     try clear hx325_1
                     try clear hx327_0
                     try clear hx327_1
                     try clear hx327_2
                     try clear hx327_3
                     try clear p2
                     try clear p3
                     try clear p31
                     try clear p314
                     try clear p317
                     try clear p319
                     try clear p320
                     try clear p325
                     try clear p327
                     try clear q3
                     try clear q31
                     try clear q314
                     try clear q317
                     try clear q319
                     try clear q320
                     try clear q325
                     try clear q327
                     obtain ⟨kq, x88_42, rfl, HA, HJ42, HO_3, HO_4, HO_8, HO_11, BK303, HB⟩ := hcut
                     cases kq with
                     | zero => exact absurd HA.out (by simp [cellarlaw8_BytesPut.j4])
                     | succ kj42 =>
                      have H := HA.out
                      clear HA
                      simp only [cellarlaw8_BytesPut.j4] at H
                      have HC53 := Aside0.mk H
                      clear H
                      go_upto_if 88 with (fail)
                      go_cut [10, 11] (fun v10 v11 wc => ∃ (kq : Nat) (x10_52 : Int) (x11_52 : List (S51)), v10 = .int .i64 x10_52 ∧ Aside0 (cellarlaw8_BytesPut.j5 kq t305 y311 x5_1 x6_3 x7_4 t321 t324 x10_52 x11_52 l0_0 l0_1 l0_2 = some r) ∧ Aside0 (kq ≤ kj42) ∧ Aside0 (Kd.R k38 38 wc w.heap.size (fun _ => True) (.slice (some ad319) t305.length co44) t305) ∧ Aside0 (Kd.R k33 33 wc w.heap.size (fun _ => True) (.slice (some ad314) y311.length co35) y311) ∧ Aside0 (Kd.R k51 51 wc w.heap.size (fun k_ => some k_ ≠ (v11 : Value).ownBlock) v322 t321) ∧ Aside0 (Kd.R k51 51 wc w.heap.size (fun k_ => some k_ ≠ (v322 : Value).ownBlock) v11 x11_52) ∧ Aside0 (wc.heap[gb303]? = some (.cells #[(.slice A0_0 l0_0.length c0_0), (.slice A0_1 l0_1.length c0_1), (.slice A0_2 l0_2.length c0_2)] 26 (0, 0))) ∧ Aside0 (Below w.heap.size w wc))
                      case first =>
                       have H := HC53.out
                       clear HC53
                       by_cases c54 : x88_42 = true
                       ·subst c54
                        have H1 : (if 0 ≤ x7_4 then (if x7_4 < (t305.length : Int) then (if 0 ≤ x5_1 then (if x5_1 < (y311.length : Int) then ((cellarref7_Put.f kj42 ((rd_T38 t305 x7_4).f0) ((rd_T38 t305 x7_4).f1) x6_3 ((rd_T33 y311 x5_1).f0) ((rd_T33 y311 x5_1).f1) ((rd_T33 y311 x5_1).f2) ((rd_T33 y311 x5_1).f3)).bind fun t331 => (cellarlaw8_BytesPut.j5 kj42 t305 y311 x5_1 x6_3 x7_4 t321 t324 0 t331 l0_0 l0_1 l0_2)) else (none)) else (none)) else (none)) else (none)) = some r := by rw [if_pos rfl] at H; exact H
                        clear H
                        have H := H1
                        clear H1
                        by_cases c55 : 0 ≤ x7_4
                        ·rw [if_pos c55] at H
                         have c55b0 : decide (0 ≤ x7_4) = true := decide_eq_true c55
                         clear c55
                         (first | rw [c55b0] | (simp only [i64_w, i32_w]; rw [c55b0]) | skip)
                         by_cases c56 : x7_4 < (t305.length : Int)
                         ·rw [if_pos c56] at H
                          have c56b0 : decide (x7_4 < (t305.length : Int)) = true := decide_eq_true c56
                          clear c56
                          by_cases c57 : 0 ≤ x5_1
                          ·rw [if_pos c57] at H
                           have c57b0 : decide (0 ≤ x5_1) = true := decide_eq_true c57
                           clear c57
                           by_cases c58 : x5_1 < (y311.length : Int)
                           ·rw [if_pos c58] at H
                            have c58b0 : decide (x5_1 < (y311.length : Int)) = true := decide_eq_true c58
                            clear c58
                            replace H := Option.bind_eq_some_iff.mp H
                            obtain ⟨t331, A590, H⟩ := H
                            replace H : (cellarlaw8_BytesPut.j5 kj42 t305 y311 x5_1 x6_3 x7_4 t321 t324 0 t331 l0_0 l0_1 l0_2) = some r := H
                            have A59 := Aside0.mk A590
                            clear A590
                            have H' := Aside0.mk H
                            clear H
                            try go_wp2
                            have n0_ := Aside0.mk (Kd.R_drew HO_3.out)
                            have n1_ := Aside0.mk (Kd.R_drew HO_4.out)
                            have n2_ := Aside0.mk (Kd.R_drew HO_8.out)
                            have n3_ := Aside0.mk (Kd.R_drew HO_11.out)
                            have n4_ := Aside0.mk (blk_drew BK303.out)
                            have n5_ := Aside0.mk (below_drew1 HB.out)
                            clear HO_3
                            clear HO_4
                            clear HO_8
                            clear HO_11
                            clear BK303
                            clear HB
                            have HO_3 := n0_
                            have HO_4 := n1_
                            have HO_8 := n2_
                            have HO_11 := n3_
                            have BK303 := n4_
                            have HB := n5_
                            clear n0_ n1_ n2_ n3_ n4_ n5_
                            have p329 : 0 ≤ (x7_4 : Int) := zdec
                            have q329 : x7_4 < (t305.length : Int) := zdec
                            obtain ⟨ad329, e329, hx329_0, hx329_1⟩ := at_T38 (Kd.R_reads' HO_3.out).2.2 x7_4 p329 q329
                            obtain rfl : ad319 = ad329 := (by injection e329)
                            replace p329 := eq_true p329
                            replace q329 := eq_true q329
                            have p330 : 0 ≤ (x5_1 : Int) := zdec
                            have q330 : x5_1 < (y311.length : Int) := zdec
                            obtain ⟨ad330, e330, hx330_0, hx330_1, hx330_2, hx330_3⟩ := at_T33 (Kd.R_reads' HO_4.out).2.2 x5_1 p330 q330
                            obtain rfl : ad314 = ad330 := (by injection e330)
                            replace p330 := eq_true p330
                            replace q330 := eq_true q330
                            refine start_ (n := 12) (S := fun w' => w'.cell? (ad319.add ((x7_4).toNat * 2)) = some (.bool ((rd_T38 t305 x7_4).f0)) ∧ w'.cell? ⟨(ad319.add ((x7_4).toNat * 2)).block, (ad319.add ((x7_4).toNat * 2)).off + 1, none⟩ = some (.int .i64 ((rd_T38 t305 x7_4).f1)) ∧ w'.cell? (ad314.add ((x5_1).toNat * 4)) = some (.bool ((rd_T33 y311 x5_1).f0)) ∧ w'.cell? ⟨(ad314.add ((x5_1).toNat * 4)).block, (ad314.add ((x5_1).toNat * 4)).off + 1, none⟩ = some (.int .i64 ((rd_T33 y311 x5_1).f1)) ∧ w'.cell? ⟨(ad314.add ((x5_1).toNat * 4)).block, (ad314.add ((x5_1).toNat * 4)).off + 2, none⟩ = some (.int .i64 ((rd_T33 y311 x5_1).f2)) ∧ w'.cell? ⟨(ad314.add ((x5_1).toNat * 4)).block, (ad314.add ((x5_1).toNat * 4)).off + 3, none⟩ = some (.int .i64 ((rd_T33 y311 x5_1).f3))) (ds := []) #[false,false,false,false,false,false,false,false,false,false,false,false] (by kernel_rfl) rfl rfl ⟨hx329_0, hx329_1, hx330_0, hx330_1, hx330_2, hx330_3⟩ (fun hHeld => ?_); refine with_tabW cellarlaw8_BytesPut.tab20 cellarlaw8_BytesPut.bits20 (fun HT_ HW_ => ?_)
                            generalize wc.drew = w60 at HO_3 HO_4 HO_8 HO_11 BK303 HB hx329_0 hx329_1 hx330_0 hx330_1 hx330_2 hx330_3 hHeld ⊢
                            refine pure_ (i := 0) (N := some 89) (v := ?_) (a' := ?_) #[true,false,false,false,false,false,false,false,false,false,false,false] rfl rfl (any_of HT_.out (by kernel_rfl)) (fun _ _ _ h => h) (Or.inl ⟨by rfl, ?_⟩) ?_ ?_
                            rotate_left
                            ·intro w'
                             go_simp
                             with_reducible rfl
                            rotate_left
                            ·simp only [Act.put, List.setIfInBounds_toArray, List.set_cons_zero, List.set_cons_succ, i64_w, i32_w]
                             rfl
                            refine pure_ (i := 1) (N := some 90) (v := ?_) (a' := ?_) #[true,true,false,false,false,false,false,false,false,false,false,false] rfl rfl (any_of HT_.out (by kernel_rfl)) (fun _ _ _ h => h) (Or.inl ⟨by rfl, ?_⟩) ?_ ?_
                            rotate_left
                            ·intro w'
                             go_simp
                             with_reducible rfl
                            rotate_left
                            ·simp only [Act.put, List.setIfInBounds_toArray, List.set_cons_zero, List.set_cons_succ, i64_w, i32_w]
                             rfl
                            refine pure_ (i := 2) (N := some 91) (v := ?_) (a' := ?_) #[true,true,true,false,false,false,false,false,false,false,false,false] rfl rfl (any_of HT_.out (by kernel_rfl)) (fun _ _ _ h => h) (Or.inl ⟨by rfl, ?_⟩) ?_ ?_
                            rotate_left
                            ·intro w'
                             go_simp
                             with_reducible rfl
                            rotate_left
                            ·simp only [Act.put, List.setIfInBounds_toArray, List.set_cons_zero, List.set_cons_succ, i64_w, i32_w]
                             rfl
                            refine pure_ (i := 4) (N := some 93) (v := ?_) (a' := ?_) #[true,true,true,false,true,false,false,false,false,false,false,false] rfl rfl (any_of HT_.out (by kernel_rfl)) (fun _ _ _ h => h) (Or.inl ⟨by rfl, ?_⟩) ?_ ?_
                            rotate_left
                            ·intro w'
                             go_simp
                             with_reducible rfl
                            rotate_left
                            ·simp only [Act.put, List.setIfInBounds_toArray, List.set_cons_zero, List.set_cons_succ, i64_w, i32_w]
                             rfl
                            refine pure_ (i := 5) (N := some 94) (v := ?_) (a' := ?_) #[true,true,true,false,true,true,false,false,false,false,false,false] rfl rfl (any_of HT_.out (by kernel_rfl)) (fun _ _ _ h => h) (Or.inl ⟨by rfl, ?_⟩) ?_ ?_
                            rotate_left
                            ·intro w'
                             go_simp
                             with_reducible rfl
                            rotate_left
                            ·simp only [Act.put, List.setIfInBounds_toArray, List.set_cons_zero, List.set_cons_succ, i64_w, i32_w]
                             rfl
                            refine pure_ (i := 6) (N := some 95) (v := ?_) (a' := ?_) #[true,true,true,false,true,true,true,false,false,false,false,false] rfl rfl (any_of HT_.out (by kernel_rfl)) (fun _ _ _ h => h) (Or.inl ⟨by rfl, ?_⟩) ?_ ?_
                            rotate_left
                            ·intro w'
                             go_simp
                             with_reducible rfl
                            rotate_left
                            ·simp only [Act.put, List.setIfInBounds_toArray, List.set_cons_zero, List.set_cons_succ, i64_w, i32_w]
                             rfl
                            refine pure_ (i := 7) (N := some 96) (v := ?_) (a' := ?_) #[true,true,true,false,true,true,true,true,false,false,false,false] rfl rfl (any_of HT_.out (by kernel_rfl)) (fun _ _ _ h => h) (Or.inl ⟨by rfl, ?_⟩) ?_ ?_
                            rotate_left
                            ·intro w'
                             go_simp
                             with_reducible rfl
                            rotate_left
                            ·simp only [Act.put, List.setIfInBounds_toArray, List.set_cons_zero, List.set_cons_succ, i64_w, i32_w]
                             rfl
                            refine take_ (i := 3) (N := some 92) (v := ?_) (a' := ?_) #[true,true,true,true,true,true,true,true,false,false,false,false] rfl rfl (take_ofW HT_.out HW_.out (by kernel_rfl)) (fun _ _ _ h => h) (Or.inl ⟨by rfl, ?_⟩) hHeld ?_ ?_
                            rotate_left
                            ·rintro w' ⟨s0, s1, s2, s3, s4, s5⟩
                             go_simp
                             with_reducible rfl
                            rotate_left
                            ·simp only [Act.put, List.setIfInBounds_toArray, List.set_cons_zero, List.set_cons_succ, i64_w, i32_w]
                             rfl
                            refine take_ (i := 8) (N := some 97) (v := ?_) (a' := ?_) #[true,true,true,true,true,true,true,true,true,false,false,false] rfl rfl (take_ofW HT_.out HW_.out (by kernel_rfl)) (fun _ _ _ h => h) (Or.inl ⟨by rfl, ?_⟩) hHeld ?_ ?_
                            rotate_left
                            ·rintro w' ⟨s0, s1, s2, s3, s4, s5⟩
                             go_simp
                             with_reducible rfl
                            rotate_left
                            ·simp only [Act.put, List.setIfInBounds_toArray, List.set_cons_zero, List.set_cons_succ, i64_w, i32_w]
                             rfl
                            refine one_ (i := 9) (N := some 98) #[true,true,true,true,true,true,true,true,true,true,false,false] rfl rfl (one_of HT_.out (by kernel_rfl)) (by decide) (fun K hK => ?_)
                            refine goes_ Try.func30 (by kernel_rfl) rfl #[.agg #[.bool ((rd_T38 t305 x7_4).f0), .int .i64 ((rd_T38 t305 x7_4).f1)], .int .i64 x6_3, .agg #[.bool ((rd_T33 y311 x5_1).f0), .int .i64 ((rd_T33 y311 x5_1).f1), .int .i64 ((rd_T33 y311 x5_1).f2), .int .i64 ((rd_T33 y311 x5_1).f3)]] (by rfl) rfl rfl (by (try simp only [List.map_toArray, List.map_cons, List.map_nil]); first | done | rfl | (simp only [List.length_drop, List.length_take]; rfl)) ?_
                            with_reducible refine (cellarref7_Put.calls kj42 ((rd_T38 t305 x7_4).f0) ((rd_T38 t305 x7_4).f1) x6_3 ((rd_T33 y311 x5_1).f0) ((rd_T33 y311 x5_1).f1) ((rd_T33 y311 x5_1).f2) ((rd_T33 y311 x5_1).f3) t331 _ A59.out).mono ?_
                            rintro e w61 ⟨v332, rfl, ho0, hb⟩
                            have HS0_ := (hb.cell (World.block_lt_of_cell? _ _ (hHeld.1))).trans (hHeld.1)
                            have HS1_ := (hb.cell (World.block_lt_of_cell? _ _ (hHeld.2.1))).trans (hHeld.2.1)
                            have HS2_ := (hb.cell (World.block_lt_of_cell? _ _ (hHeld.2.2.1))).trans (hHeld.2.2.1)
                            have HS3_ := (hb.cell (World.block_lt_of_cell? _ _ (hHeld.2.2.2.1))).trans (hHeld.2.2.2.1)
                            have HS4_ := (hb.cell (World.block_lt_of_cell? _ _ (hHeld.2.2.2.2.1))).trans (hHeld.2.2.2.2.1)
                            have HS5_ := (hb.cell (World.block_lt_of_cell? _ _ (hHeld.2.2.2.2.2))).trans (hHeld.2.2.2.2.2)
                            refine ⟨_, rfl, ?_⟩
                            have n0_ := Aside0.mk (Kd.R_below (by (with_reducible repeat (first | apply Kd.R_alloc | apply Kd.R_drewN | apply Kd.R_drew)); exact HO_3.out) hb)
                            have n1_ := Aside0.mk (Kd.R_below (by (with_reducible repeat (first | apply Kd.R_alloc | apply Kd.R_drewN | apply Kd.R_drew)); exact HO_4.out) hb)
                            have n2_ := Aside0.mk (Kd.R_elder' (by (with_reducible repeat (first | apply Kd.R_alloc | apply Kd.R_drewN | apply Kd.R_drew)); exact HO_8.out) (Kd.R_base ho0) hb)
                            have n3_ := Aside0.mk (Kd.R_elder' (by (with_reducible repeat (first | apply Kd.R_alloc | apply Kd.R_drewN | apply Kd.R_drew)); exact HO_11.out) (Kd.R_base ho0) hb)
                            have n4_ := Aside0.mk (Kd.R_lower (Kd.R_new' (Kd.R_new' ho0 (Kd.R_lt (by (with_reducible repeat (first | apply Kd.R_alloc | apply Kd.R_drewN | apply Kd.R_drew)); exact HO_8.out))) (Kd.R_lt (by (with_reducible repeat (first | apply Kd.R_alloc | apply Kd.R_drewN | apply Kd.R_drew)); exact HO_11.out))) (below_size (zw1 HB.out GE303.out)))
                            have n5_ := Aside0.mk (blk_below (g := gb303) (o := .cells #[.slice A0_0 l0_0.length c0_0, .slice A0_1 l0_1.length c0_1, .slice A0_2 l0_2.length c0_2] 26 (0, 0)) (zb BK303.out) hb)
                            have n6_ := Aside0.mk (below_step (zw1 HB.out GE303.out) hb)
                            clear HO_3
                            clear HO_4
                            clear HO_8
                            clear HO_11
                            clear BK303
                            clear HB
                            have HO_3 := n0_
                            have HO_4 := n1_
                            have HO_8 := n2_
                            have HO_11 := n3_
                            have HO333 := n4_
                            have BK303 := n5_
                            have HB := n6_
                            clear n0_ n1_ n2_ n3_ n4_ n5_ n6_
                            (try clear hb)
                            (try clear hb2)
                            (try clear hk)
                            (try clear hi)
                            (try clear ho0)
                            refine hK.out _ _ ⟨HS0_, HS1_, HS2_, HS3_, HS4_, HS5_⟩ (fun hHeld => ?_)
                            clear hK K
                            refine norm_ (a' := ?_) ?_ ?_
                            rotate_left
                            ·show Act.put _ (some 98) _ = _
                             simp only [Act.put, List.setIfInBounds_toArray, List.set_cons_zero, List.set_cons_succ, i64_w, i32_w]
                             rfl
                            refine pure_ (i := 10) (N := some 10) (v := ?_) (a' := ?_) #[true,true,true,true,true,true,true,true,true,true,true,false] rfl rfl (any_of HT_.out (by kernel_rfl)) (fun _ _ _ h => h) (Or.inl ⟨by rfl, ?_⟩) ?_ ?_
                            rotate_left
                            ·intro w'
                             go_simp
                             with_reducible rfl
                            rotate_left
                            ·simp only [Act.put, List.setIfInBounds_toArray, List.set_cons_zero, List.set_cons_succ, i64_w, i32_w]
                             rfl
                            refine pure_ (i := 11) (N := some 11) (v := ?_) (a' := ?_) #[true,true,true,true,true,true,true,true,true,true,true,true] rfl rfl (any_of HT_.out (by kernel_rfl)) (fun _ _ _ h => h) (Or.inl ⟨by rfl, ?_⟩) ?_ ?_
                            rotate_left
                            ·intro w'
                             go_simp
                             with_reducible rfl
                            rotate_left
                            ·simp only [Act.put, List.setIfInBounds_toArray, List.set_cons_zero, List.set_cons_succ, i64_w, i32_w]
                             rfl
                            refine done_ (done_of HT_.out (by kernel_rfl)) ?_
                            try go_wp2
                            go_meet
                            case rel => exact ⟨_, (0), (t331), (by first | rfl | (simp; done) | (simp [*]; done)), H', ⟨by have := HK1.out; have := HJ17.out; have := HK3.out; have := HK4.out; have := HJ42.out; first | omega | exact Nat.le_refl _⟩, ⟨by (with_reducible repeat (first | apply Kd.R_alloc | apply Kd.R_drewN | apply Kd.R_drew)); exact HO_3.out⟩, ⟨by (with_reducible repeat (first | apply Kd.R_alloc | apply Kd.R_drewN | apply Kd.R_drew)); exact HO_4.out⟩, ⟨by (with_reducible repeat (first | apply Kd.R_alloc | apply Kd.R_drewN | apply Kd.R_drew)); exact Kd.R_mono HO_8.out (fun _ hk => hk.2)⟩, ⟨by (with_reducible repeat (first | apply Kd.R_alloc | apply Kd.R_drewN | apply Kd.R_drew)); exact Kd.R_mono HO333.out (fun _ hk => hk.1.2)⟩, ⟨zb BK303.out⟩, ⟨zw1 HB.out GE303.out⟩⟩
                           ·rw [if_neg c58] at H
                            exact absurd H (by simp)
                          ·rw [if_neg c57] at H
                           exact absurd H (by simp)
                         ·rw [if_neg c56] at H
                          exact absurd H (by simp)
                        ·rw [if_neg c55] at H
                         exact absurd H (by simp)
                       ·replace c54 := Bool.eq_false_iff.mpr c54
                        subst c54
                        have H1 : (cellarlaw8_BytesPut.j5 kj42 t305 y311 x5_1 x6_3 x7_4 t321 t324 1 ([] : List (S51)) l0_0 l0_1 l0_2) = some r := by rw [if_neg (show ¬ (false = true) by decide)] at H; exact H
                        clear H
                        have H := H1
                        clear H1
                        have H' := Aside0.mk H
                        clear H
                        go_wp2
                        go_meet
                        case rel => exact ⟨_, (1), (([] : List (S51))), (by first | rfl | (simp; done) | (simp [*]; done)), H', ⟨by have := HK1.out; have := HJ17.out; have := HK3.out; have := HK4.out; have := HJ42.out; first | omega | exact Nat.le_refl _⟩, ⟨by (with_reducible repeat (first | apply Kd.R_alloc | apply Kd.R_drewN | apply Kd.R_drew)); exact HO_3.out⟩, ⟨by (with_reducible repeat (first | apply Kd.R_alloc | apply Kd.R_drewN | apply Kd.R_drew)); exact HO_4.out⟩, ⟨by (with_reducible repeat (first | apply Kd.R_alloc | apply Kd.R_drewN | apply Kd.R_drew)); exact HO_8.out⟩, ⟨by (with_reducible repeat (first | apply Kd.R_alloc | apply Kd.R_drewN | apply Kd.R_drew)); exact HO_11.out⟩, ⟨zb BK303.out⟩, ⟨zw1 HB.out GE303.out⟩⟩
                      case rest => as_aux_lemma =>
                       clear HC53
                       try clear c1
                       try clear c2
                       try clear p2
                       try clear c3
                       try clear p3
                       try clear q3
                       try clear hx3
                       try clear c4
                       try clear c5
                       try clear c8
                       try clear c12
                       try clear c13
                       try clear c14
                       try clear c18
                       try clear c19
                       try clear c19b0
                       try clear c22
                       try clear c23
                       try clear c23b0
                       try clear c24
                       try clear c24b0
                       try clear c25
                       try clear c25b0
                       try clear c26
                       try clear c28
                       try clear c29
                       try clear c29b0
                       try clear c29b1
                       try clear c29b2
                       try clear c30
                       try clear p31
                       try clear q31
                       try clear hx31
                       try clear p32
                       try clear q32
                       try clear hx32
                       try clear p33
                       try clear q33
                       try clear hx33
                       try clear c38
                       try clear c38b0
                       try clear c39
                       try clear c39b0
                       try clear c40
                       try clear c40b0
                       try clear c41
                       try clear c41b0
                       try clear c48
                       try clear c54
                       try clear c55
                       try clear c55b0
                       try clear c56
                       try clear c56b0
                       try clear c57
                       try clear c57b0
                       try clear c58
                       try clear c58b0
                       try clear hcz10_0
                       try clear hcz10_1
                       try clear hcz10_2
                       try clear hcz12_0
                       try clear hcz12_1
                       try clear hcz12_2
                       try clear hcz16_0
                       try clear hcz16_1
                       try clear hcz16_2
                       try clear hcz5_0
                       try clear hcz5_1
                       try clear hcz5_2
                       try clear hfz10_0
                       try clear hfz10_1
                       try clear hfz10_2
                       try clear hfz12_0
                       try clear hfz12_1
                       try clear hfz12_2
                       try clear hfz16_0
                       try clear hfz16_1
                       try clear hfz16_2
                       try clear hfz5_0
                       try clear hfz5_1
                       try clear hfz5_2
                       try clear hx314_0
                       try clear hx314_1
                       try clear hx314_2
                       try clear hx314_3
                       try clear hx317_0
                       try clear hx317_1
                       try clear hx317_2
                       try clear hx317_3
                       try clear hx319_0
                       try clear hx319_1
                       try clear hx320_0
                       try clear hx320_1
                       try clear hx320_2
                       try clear hx320_3
                       try clear hx325_0
                       try clear hx325_1
                       try clear hx327_0
                       try clear hx327_1
                       try clear hx327_2
                       try clear hx327_3
                       try clear hx329_0
                       try clear hx329_1
                       try clear hx330_0
                       try clear hx330_1
                       try clear hx330_2
                       try clear hx330_3
                       try clear p2
                       try clear p3
                       try clear p31
                       try clear p314
                       try clear p317
                       try clear p319
                       try clear p32
                       try clear p320
                       try clear p325
                       try clear p327
                       try clear p329
                       try clear p330
                       try clear q3
                       try clear q31
                       try clear q314
                       try clear q317
                       try clear q319
                       try clear q32
                       try clear q320
                       try clear q325
                       try clear q327
                       try clear q329
                       try clear q330
                       obtain ⟨kq, x10_52, x11_52, rfl, HA, HJ52, HO_3, HO_4, HO_8, HO_11, BK303, HB⟩ := hcut
                       cases kq with
                       | zero => exact absurd HA.out (by simp [cellarlaw8_BytesPut.j5])
                       | succ kj52 =>
                        have H := HA.out
                        clear HA
                        simp only [cellarlaw8_BytesPut.j5] at H
                        replace H := Option.bind_eq_some_iff.mp H
                        obtain ⟨t334, A620, H⟩ := H
                        replace H : (if t334 = x10_52 then ((cellarref0_EqBytes.f kj52 t321 x11_52).bind fun t335 => (if t335 = true then ((cellarlaw0_Bytes.f kj52 t321).bind fun t336 => (cellarlaw8_BytesPut.l2 kj52 t305 y311 x5_1 x6_3 (wrap64 (x7_4 + 1)) l0_0 l0_1 l0_2)) else (some false))) else (some false)) = some r := H
                        have A62 := Aside0.mk A620
                        clear A620
                        by_cases c63 : t334 = x10_52
                        ·rw [if_pos c63] at H
                         have c63b0 : (t334 == x10_52) = true := beq_iff_eq.mpr c63
                         have c63b1 : (t334 != x10_52) = false := bne_eq_false_iff_eq.mpr c63
                         clear c63
                         replace H := Option.bind_eq_some_iff.mp H
                         obtain ⟨t335, A640, H⟩ := H
                         replace H : (if t335 = true then ((cellarlaw0_Bytes.f kj52 t321).bind fun t336 => (cellarlaw8_BytesPut.l2 kj52 t305 y311 x5_1 x6_3 (wrap64 (x7_4 + 1)) l0_0 l0_1 l0_2)) else (some false)) = some r := H
                         have A64 := Aside0.mk A640
                         clear A640
                         by_cases c65 : t335 = true
                         ·subst c65
                          have H1 : ((cellarlaw0_Bytes.f kj52 t321).bind fun t336 => (cellarlaw8_BytesPut.l2 kj52 t305 y311 x5_1 x6_3 (wrap64 (x7_4 + 1)) l0_0 l0_1 l0_2)) = some r := by rw [if_pos rfl] at H; exact H
                          clear H
                          have H := H1
                          clear H1
                          replace H := Option.bind_eq_some_iff.mp H
                          obtain ⟨t336, A660, H⟩ := H
                          replace H : (cellarlaw8_BytesPut.l2 kj52 t305 y311 x5_1 x6_3 (wrap64 (x7_4 + 1)) l0_0 l0_1 l0_2) = some r := H
                          have A66 := Aside0.mk A660
                          clear A660
                          have H' := Aside0.mk H
                          clear H
                          go_wp2_with (first | ((with_reducible refine gate_callee (f := 23) rfl ?_); refine goesL_ (some 100) rfl rfl Try.func23 (by kernel_rfl) rfl #[.int .i64 t324] rfl (by (try simp only [List.map_toArray, List.map_cons, List.map_nil]); first | done | rfl | (simp only [List.length_drop, List.length_take]; rfl)) ?_; (with_reducible refine (cellarlaw8_num.calls t324 t334 _ A62.out).mono ?_); rintro e w' ⟨rfl, ⟨nd, rfl⟩⟩; refine ⟨_, rfl, ?_⟩; obtain ⟨Ao67, co67, eo67⟩ := Kd.R_slice HO_8.out; subst eo67; obtain ⟨Ao68, co68, eo68⟩ := Kd.R_slice HO_11.out; subst eo68) | (go_at_call 24; (with_reducible refine (cellarref0_EqBytes.calls kj52 _ _ t321 _ _ x11_52 true _ ?side1 ?side2 ?side3 ?side4 A64.out).mono ?_); (case side1 => repeat (first | exact (Kd.R_reads' HO_8.out).2.2 | (with_reducible refine Kd.C_alloc ?_ _) | (with_reducible refine Kd.C_drewN ?_ _) | (with_reducible refine Kd.C_drew ?_))); (case side2 => exact (Kd.R_reads' HO_8.out).2.1); (case side3 => repeat (first | exact (Kd.R_reads' HO_11.out).2.2 | (with_reducible refine Kd.C_alloc ?_ _) | (with_reducible refine Kd.C_drewN ?_ _) | (with_reducible refine Kd.C_drew ?_))); (case side4 => exact (Kd.R_reads' HO_11.out).2.1); rintro e w' ⟨rfl, ⟨nd, rfl⟩⟩) | ((with_reducible refine gate_callee (f := 31) rfl ?_); refine goesL_ (some 110) rfl rfl Try.func31 (by kernel_rfl) rfl #[.slice Ao67 t321.length co67] rfl (by (try simp only [List.map_toArray, List.map_cons, List.map_nil]); first | done | rfl | (simp only [List.length_drop, List.length_take]; rfl)) ?_; (with_reducible refine (cellarlaw0_Bytes.calls kj52 (fun k_ => some k_ = (.slice Ao67 t321.length co67 : Value).ownBlock) (.slice Ao67 t321.length co67) t321 t336 w _ ?side1 ?side2 A66.out).mono ?_); (case side1 => repeat (first | (with_reducible first | exact HB.out | apply below_alloc | apply pw_below_drewN | apply below_drew1 | refine below_set ?_ GE303.out) | exact HB.out)); (case side2 => exact Kd.R_tight rfl HO_8.out); rintro e w69 ⟨rfl, hy0, hb, hkp⟩; refine ⟨_, rfl, ?_⟩; have n0_ := Aside0.mk (Kd.R_mono (ok' := fun k_ => True) (Kd.R_keptB ((Kd.R_apart' HO_3.out (Kd.R_typed HO_8.out) (by decide))) hkp (fun k_ hk_ hs_ => (hk_.2) hs_)) (fun k_ hk_ => trivial)); have n1_ := Aside0.mk (Kd.R_mono (ok' := fun k_ => True) (Kd.R_keptB ((Kd.R_apart' HO_4.out (Kd.R_typed HO_8.out) (by decide))) hkp (fun k_ hk_ hs_ => (hk_.2) hs_)) (fun k_ hk_ => trivial)); have n2_ := Aside0.mk (Kd.R_reok rfl hy0 (fun k_ e_ => HO_8.out.1 k_ e_)); have n3_ := Aside0.mk (Kd.R_mono (ok' := fun k_ => some k_ ≠ (.slice Ao67 t321.length co67 : Value).ownBlock) (Kd.R_keptB (HO_11.out) hkp (fun k_ hk_ hs_ => (hk_) hs_)) (fun k_ hk_ => hk_.1)); have n4_ := Aside0.mk (blk_kept (zb BK303.out) hkp (fun hs_ => (fun e_ => (Kd.R_ne HO_8.out BK303.out (by decide)) e_) hs_)); have n5_ := Aside0.mk (hb); clear HO_3; clear HO_4; clear HO_8; clear HO_11; clear BK303; clear HB; have HO_3 := n0_; have HO_4 := n1_; have HO_8 := n2_; have HO_11 := n3_; have BK303 := n4_; have HB := n5_; clear n0_ n1_ n2_ n3_ n4_ n5_; (try clear hb); (try clear hkp); (try clear hy0)))
                          go_roundg kj52
                          case measure => have := HK1.out; have := HJ17.out; have := HK3.out; have := HK4.out; have := HJ42.out; have := HJ52.out; omega
                          case rel => exact ⟨(wrap64 (x7_4 + 1)), (by first | rfl | (simp; done) | (simp [*]; done)), H', ⟨by have := HK1.out; have := HJ17.out; have := HK3.out; have := HK4.out; have := HJ42.out; have := HJ52.out; omega⟩, ⟨by (with_reducible repeat (first | apply Kd.R_alloc | apply Kd.R_drewN | apply Kd.R_drew)); exact HO_3.out⟩, ⟨by (with_reducible repeat (first | apply Kd.R_alloc | apply Kd.R_drewN | apply Kd.R_drew)); exact HO_4.out⟩, ⟨zb BK303.out⟩, ⟨zw1 HB.out GE303.out⟩⟩
                         ·replace c65 := Bool.eq_false_iff.mpr c65
                          subst c65
                          have H1 : (some false) = some r := by rw [if_neg (show ¬ (false = true) by decide)] at H; exact H
                          clear H
                          have H := H1
                          clear H1
                          obtain rfl := Option.some.inj H
                          go_wp2_with (first | ((with_reducible refine gate_callee (f := 23) rfl ?_); refine goesL_ (some 100) rfl rfl Try.func23 (by kernel_rfl) rfl #[.int .i64 t324] rfl (by (try simp only [List.map_toArray, List.map_cons, List.map_nil]); first | done | rfl | (simp only [List.length_drop, List.length_take]; rfl)) ?_; (with_reducible refine (cellarlaw8_num.calls t324 t334 _ A62.out).mono ?_); rintro e w' ⟨rfl, ⟨nd, rfl⟩⟩; refine ⟨_, rfl, ?_⟩; obtain ⟨Ao70, co70, eo70⟩ := Kd.R_slice HO_8.out; subst eo70; obtain ⟨Ao71, co71, eo71⟩ := Kd.R_slice HO_11.out; subst eo71) | (go_at_call 24; (with_reducible refine (cellarref0_EqBytes.calls kj52 _ _ t321 _ _ x11_52 false _ ?side1 ?side2 ?side3 ?side4 A64.out).mono ?_); (case side1 => repeat (first | exact (Kd.R_reads' HO_8.out).2.2 | (with_reducible refine Kd.C_alloc ?_ _) | (with_reducible refine Kd.C_drewN ?_ _) | (with_reducible refine Kd.C_drew ?_))); (case side2 => exact (Kd.R_reads' HO_8.out).2.1); (case side3 => repeat (first | exact (Kd.R_reads' HO_11.out).2.2 | (with_reducible refine Kd.C_alloc ?_ _) | (with_reducible refine Kd.C_drewN ?_ _) | (with_reducible refine Kd.C_drew ?_))); (case side4 => exact (Kd.R_reads' HO_11.out).2.1); rintro e w' ⟨rfl, ⟨nd, rfl⟩⟩))
                          go_ret
                          exact ⟨by first | rfl | (simp [errW_none, errW_some] <;> rfl) | (simp [*, errW_none, errW_some] <;> rfl), zw1 HB.out GE303.out⟩
                        ·rw [if_neg c63] at H
                         have c63b0 : (t334 == x10_52) = false := beq_eq_false_iff_ne.mpr c63
                         have c63b1 : (t334 != x10_52) = true := bne_iff_ne.mpr c63
                         obtain rfl := Option.some.inj H
                         go_wp2_with (first | ((with_reducible refine gate_callee (f := 23) rfl ?_); refine goesL_ (some 100) rfl rfl Try.func23 (by kernel_rfl) rfl #[.int .i64 t324] rfl (by (try simp only [List.map_toArray, List.map_cons, List.map_nil]); first | done | rfl | (simp only [List.length_drop, List.length_take]; rfl)) ?_; (with_reducible refine (cellarlaw8_num.calls t324 t334 _ A62.out).mono ?_); rintro e w' ⟨rfl, ⟨nd, rfl⟩⟩; refine ⟨_, rfl, ?_⟩))
                         go_ret
                         exact ⟨by first | rfl | (simp [errW_none, errW_some] <;> rfl) | (simp [*, errW_none, errW_some] <;> rfl), zw1 HB.out GE303.out⟩
                   ·rw [if_neg c41] at H
                    exact absurd H (by simp)
                  ·rw [if_neg c40] at H
                   exact absurd H (by simp)
                 ·rw [if_neg c39] at H
                  exact absurd H (by simp)
                ·rw [if_neg c38] at H
                 have c38b0 : decide (x7_4 < (t305.length : Int)) = false := decide_eq_false c38
                 clear c38
                 have H' := Aside0.mk H
                 clear H
                 obtain ⟨Ao72, co72, eo72⟩ := Kd.R_slice HO_3.out
                 subst eo72
                 go_wp2
                 go_roundg k4
                 case measure => have := HK1.out; have := HJ17.out; have := HK3.out; have := HK4.out; omega
                 case rel => exact ⟨(wrap64 (x6_3 + 1)), (by first | rfl | (simp; done) | (simp [*]; done)), H', ⟨by have := HK1.out; have := HJ17.out; have := HK3.out; have := HK4.out; omega⟩, ⟨by (with_reducible repeat (first | apply Kd.R_alloc | apply Kd.R_drewN | apply Kd.R_drew)); exact HO_3.out⟩, ⟨by (with_reducible repeat (first | apply Kd.R_alloc | apply Kd.R_drewN | apply Kd.R_drew)); exact HO_4.out⟩, ⟨zb BK303.out⟩, ⟨zw1 HB.out GE303.out⟩⟩
            ·rw [if_neg c25] at H
             exact absurd H (by simp)
           ·rw [if_neg c24] at H
            exact absurd H (by simp)
          ·rw [if_neg c23] at H
           have c23b0 : decide (x6_3 ≤ 11) = false := decide_eq_false c23
           clear c23
           have H' := Aside0.mk H
           clear H
           go_wp2
           go_roundg k3
           case measure => have := HK1.out; have := HJ17.out; have := HK3.out; omega
           case rel => exact ⟨(wrap64 (x5_1 + 1)), (by first | rfl | (simp; done) | (simp [*]; done)), H', ⟨by have := HK1.out; have := HJ17.out; have := HK3.out; omega⟩, ⟨by (with_reducible repeat (first | apply Kd.R_alloc | apply Kd.R_drewN | apply Kd.R_drew)); exact HO_3.out⟩, ⟨by (with_reducible repeat (first | apply Kd.R_alloc | apply Kd.R_drewN | apply Kd.R_drew)); exact HO_4.out⟩, ⟨zb BK303.out⟩, ⟨zw1 HB.out GE303.out⟩⟩
       ·replace c22 := Bool.eq_false_iff.mpr c22
        subst c22
        have H1 : (cellarlaw8_BytesPut.l3 kj17 0 l0_0 l0_1 l0_2) = some r := by rw [if_neg (show ¬ (false = true) by decide)] at H; exact H
        clear H
        have H := H1
        clear H1
        have H' := Aside0.mk H
        clear H
        go_wp2
        go_loopg [12] kj17 (fun kq v12 w' => ∃ (x12_3 : Int), v12 = .int .i64 x12_3 ∧ Aside0 (cellarlaw8_BytesPut.l3 kq x12_3 l0_0 l0_1 l0_2 = some r) ∧ Aside0 (kq ≤ kj17) ∧ Aside0 (w'.heap[gb303]? = some (.cells #[(.slice A0_0 l0_0.length c0_0), (.slice A0_1 l0_1.length c0_1), (.slice A0_2 l0_2.length c0_2)] 26 (0, 0))) ∧ Aside0 (Below w.heap.size w w'))
        case atStart => exact ⟨(0), (by first | rfl | (simp; done) | (simp [*]; done)), H', ⟨Nat.le_refl _⟩, ⟨zb BK303.out⟩, ⟨zw1 HB.out GE303.out⟩⟩
        case round =>
         clear H'
         try clear c1
         try clear c2
         try clear p2
         try clear c3
         try clear p3
         try clear q3
         try clear hx3
         try clear c4
         try clear c5
         try clear c6
         try clear p6
         try clear c8
         try clear c12
         try clear c13
         try clear c14
         try clear c18
         try clear c19
         try clear c19b0
         try clear c22
         try clear c23
         try clear c23b0
         try clear c24
         try clear c24b0
         try clear c25
         try clear c25b0
         try clear c26
         try clear c28
         try clear c29
         try clear c29b0
         try clear c29b1
         try clear c29b2
         try clear c30
         try clear c31
         try clear p31
         try clear q31
         try clear hx31
         try clear p32
         try clear q32
         try clear hx32
         try clear p33
         try clear q33
         try clear hx33
         try clear c38
         try clear c38b0
         try clear c39
         try clear c39b0
         try clear c40
         try clear c40b0
         try clear c41
         try clear c41b0
         try clear c48
         try clear c54
         try clear c55
         try clear c55b0
         try clear c56
         try clear c56b0
         try clear c57
         try clear c57b0
         try clear c58
         try clear c58b0
         try clear c63
         try clear c63b0
         try clear c63b1
         try clear p64
         try clear c65
         try clear hcz10_0
         try clear hcz10_1
         try clear hcz10_2
         try clear hcz12_0
         try clear hcz12_1
         try clear hcz12_2
         try clear hcz16_0
         try clear hcz16_1
         try clear hcz16_2
         try clear hcz5_0
         try clear hcz5_1
         try clear hcz5_2
         try clear hfz10_0
         try clear hfz10_1
         try clear hfz10_2
         try clear hfz12_0
         try clear hfz12_1
         try clear hfz12_2
         try clear hfz16_0
         try clear hfz16_1
         try clear hfz16_2
         try clear hfz5_0
         try clear hfz5_1
         try clear hfz5_2
         try clear hx314_0
         try clear hx314_1
         try clear hx314_2
         try clear hx314_3
         try clear hx317_0
         try clear hx317_1
         try clear hx317_2
         try clear hx317_3
         try clear hx319_0
         try clear hx319_1
         try clear hx320_0
         try clear hx320_1
         try clear hx320_2
         try clear hx320_3
         try clear hx325_0
         try clear hx325_1
         try clear hx327_0
         try clear hx327_1
         try clear hx327_2
         try clear hx327_3
         try clear hx329_0
         try clear hx329_1
         try clear hx330_0
         try clear hx330_1
         try clear hx330_2
         try clear hx330_3
         try clear p2
         try clear p3
         try clear p31
         try clear p314
         try clear p317
         try clear p319
         try clear p32
         try clear p320
         try clear p325
         try clear p327
         try clear p329
         try clear p33
         try clear p330
         try clear q3
         try clear q31
         try clear q314
         try clear q317
         try clear q319
         try clear q32
         try clear q320
         try clear q325
         try clear q327
         try clear q329
         try clear q33
         try clear q330
         obtain ⟨x12_3, rfl, HA, HK3, BK303, HB⟩ := hrel
         cases gk with
         | zero => exact absurd HA.out (by simp [cellarlaw8_BytesPut.l3])
         | succ k3 =>
          have H := HA.out
          clear HA
          simp only [cellarlaw8_BytesPut.l3] at H
          have HC73 := Aside0.mk H
          clear H
          go_upto_region 25 with (fail)
          go_cut [119] (fun v119 wc => ∃ (kq : Nat) (x119_72 : Bool), v119 = .bool x119_72 ∧ Aside0 (cellarlaw8_BytesPut.j7 kq x12_3 x119_72 l0_0 l0_1 l0_2 = some r) ∧ Aside0 (kq ≤ k3) ∧ Aside0 (wc.heap[gb303]? = some (.cells #[(.slice A0_0 l0_0.length c0_0), (.slice A0_1 l0_1.length c0_1), (.slice A0_2 l0_2.length c0_2)] 26 (0, 0))) ∧ Aside0 (Below w.heap.size w wc))
          case first =>
           have H := HC73.out
           clear HC73
           by_cases c74 : x12_3 < (l0_2.length : Int)
           ·rw [if_pos c74] at H
            have c74b0 : decide (x12_3 < (l0_2.length : Int)) = true := decide_eq_true c74
            clear c74
            (first | rw [c74b0] | (simp only [i64_w, i32_w]; rw [c74b0]) | skip)
            have H' := Aside0.mk H
            clear H
            have hcz75_0 : wr.cell? ⟨gb303, 0, none⟩ = some (.slice A0_0 l0_0.length c0_0) := (blk_cell BK303.out 0).trans rfl
            have hcz75_1 : wr.cell? ⟨gb303, 1, none⟩ = some (.slice A0_1 l0_1.length c0_1) := (blk_cell BK303.out 1).trans rfl
            have hcz75_2 : wr.cell? ⟨gb303, 2, none⟩ = some (.slice A0_2 l0_2.length c0_2) := (blk_cell BK303.out 2).trans rfl
            have hfz75_0 := blk_frozen BK303.out 0
            have hfz75_1 := blk_frozen BK303.out 1
            have hfz75_2 := blk_frozen BK303.out 2
            go_wp2
            go_meet
            case rel => exact ⟨_, (decide (x12_3 < 20)), (by first | rfl | (simp; done) | (simp [*]; done)), H', ⟨by have := HK1.out; have := HJ17.out; have := HK3.out; first | omega | exact Nat.le_refl _⟩, ⟨zb BK303.out⟩, ⟨zw1 HB.out GE303.out⟩⟩
           ·rw [if_neg c74] at H
            have c74b0 : decide (x12_3 < (l0_2.length : Int)) = false := decide_eq_false c74
            clear c74
            (first | rw [c74b0] | (simp only [i64_w, i32_w]; rw [c74b0]) | skip)
            have H' := Aside0.mk H
            clear H
            have hcz76_0 : wr.cell? ⟨gb303, 0, none⟩ = some (.slice A0_0 l0_0.length c0_0) := (blk_cell BK303.out 0).trans rfl
            have hcz76_1 : wr.cell? ⟨gb303, 1, none⟩ = some (.slice A0_1 l0_1.length c0_1) := (blk_cell BK303.out 1).trans rfl
            have hcz76_2 : wr.cell? ⟨gb303, 2, none⟩ = some (.slice A0_2 l0_2.length c0_2) := (blk_cell BK303.out 2).trans rfl
            have hfz76_0 := blk_frozen BK303.out 0
            have hfz76_1 := blk_frozen BK303.out 1
            have hfz76_2 := blk_frozen BK303.out 2
            go_wp2
            go_meet
            case rel => exact ⟨_, (false), (by first | rfl | (simp; done) | (simp [*]; done)), H', ⟨by have := HK1.out; have := HJ17.out; have := HK3.out; first | omega | exact Nat.le_refl _⟩, ⟨zb BK303.out⟩, ⟨zw1 HB.out GE303.out⟩⟩
          case rest => as_aux_lemma =>
           clear HC73
           try clear c1
           try clear c2
           try clear p2
           try clear c3
           try clear p3
           try clear q3
           try clear hx3
           try clear c4
           try clear c5
           try clear c6
           try clear p6
           try clear c7
           try clear c8
           try clear c12
           try clear c13
           try clear c14
           try clear c18
           try clear c19
           try clear c19b0
           try clear c22
           try clear c23
           try clear c23b0
           try clear c24
           try clear c24b0
           try clear c25
           try clear c25b0
           try clear c26
           try clear c28
           try clear c29
           try clear c29b0
           try clear c29b1
           try clear c29b2
           try clear c30
           try clear c31
           try clear p31
           try clear q31
           try clear hx31
           try clear p32
           try clear q32
           try clear hx32
           try clear p33
           try clear q33
           try clear hx33
           try clear c38
           try clear c38b0
           try clear c39
           try clear c39b0
           try clear c40
           try clear c40b0
           try clear c41
           try clear c41b0
           try clear c48
           try clear c54
           try clear c55
           try clear c55b0
           try clear c56
           try clear c56b0
           try clear c57
           try clear c57b0
           try clear c58
           try clear c58b0
           try clear c63
           try clear c63b0
           try clear c63b1
           try clear p64
           try clear c65
           try clear c74
           try clear c74b0
           try clear hcz10_0
           try clear hcz10_1
           try clear hcz10_2
           try clear hcz12_0
           try clear hcz12_1
           try clear hcz12_2
           try clear hcz16_0
           try clear hcz16_1
           try clear hcz16_2
           try clear hcz5_0
           try clear hcz5_1
           try clear hcz5_2
           try clear hcz75_0
           try clear hcz75_1
           try clear hcz75_2
           try clear hcz76_0
           try clear hcz76_1
           try clear hcz76_2
           try clear hfz10_0
           try clear hfz10_1
           try clear hfz10_2
           try clear hfz12_0
           try clear hfz12_1
           try clear hfz12_2
           try clear hfz16_0
           try clear hfz16_1
           try clear hfz16_2
           try clear hfz5_0
           try clear hfz5_1
           try clear hfz5_2
           try clear hfz75_0
           try clear hfz75_1
           try clear hfz75_2
           try clear hfz76_0
           try clear hfz76_1
           try clear hfz76_2
           try clear hx314_0
           try clear hx314_1
           try clear hx314_2
           try clear hx314_3
           try clear hx317_0
           try clear hx317_1
           try clear hx317_2
           try clear hx317_3
           try clear hx319_0
           try clear hx319_1
           try clear hx320_0
           try clear hx320_1
           try clear hx320_2
           try clear hx320_3
           try clear hx325_0
           try clear hx325_1
           try clear hx327_0
           try clear hx327_1
           try clear hx327_2
           try clear hx327_3
           try clear hx329_0
           try clear hx329_1
           try clear hx330_0
           try clear hx330_1
           try clear hx330_2
           try clear hx330_3
           try clear p2
           try clear p3
           try clear p31
           try clear p314
           try clear p317
           try clear p319
           try clear p32
           try clear p320
           try clear p325
           try clear p327
           try clear p329
           try clear p33
           try clear p330
           try clear p6
           try clear p64
           try clear q3
           try clear q31
           try clear q314
           try clear q317
           try clear q319
           try clear q32
           try clear q320
           try clear q325
           try clear q327
           try clear q329
           try clear q33
           try clear q330
           obtain ⟨kq, x119_72, rfl, HA, HJ72, BK303, HB⟩ := hcut
           cases kq with
           | zero => exact absurd HA.out (by simp [cellarlaw8_BytesPut.j7])
           | succ kj72 =>
            have H := HA.out
            clear HA
            simp only [cellarlaw8_BytesPut.j7] at H
            by_cases c77 : x119_72 = true
            ·subst c77
             have H1 : (if 0 ≤ x12_3 then (if x12_3 < (l0_2.length : Int) then ((bytes_Byte.f ((rd_T51 l0_2 x12_3).f0) ((rd_T51 l0_2 x12_3).f1) ((rd_T51 l0_2 x12_3).f2) ((rd_T51 l0_2 x12_3).f3) ((rd_T51 l0_2 x12_3).f4)).bind fun t339 => ((cellarlaw8_num.f t339).bind fun t340 => ((cellarref7_Byte.f ((rd_T51 l0_2 x12_3).f0) ((rd_T51 l0_2 x12_3).f1) ((rd_T51 l0_2 x12_3).f2) ((rd_T51 l0_2 x12_3).f3) ((rd_T51 l0_2 x12_3).f4)).bind fun t342 => (if ((t340 == 0) != t342) = true then (some false) else (cellarlaw8_BytesPut.l3 kj72 (wrap64 (x12_3 + 1)) l0_0 l0_1 l0_2))))) else (none)) else (none)) = some r := by rw [if_pos rfl] at H; exact H
             clear H
             have H := H1
             clear H1
             by_cases c78 : 0 ≤ x12_3
             ·rw [if_pos c78] at H
              have c78b0 : decide (0 ≤ x12_3) = true := decide_eq_true c78
              clear c78
              by_cases c79 : x12_3 < (l0_2.length : Int)
              ·rw [if_pos c79] at H
               have c79b0 : decide (x12_3 < (l0_2.length : Int)) = true := decide_eq_true c79
               clear c79
               replace H := Option.bind_eq_some_iff.mp H
               obtain ⟨t339, A800, H⟩ := H
               replace H : ((cellarlaw8_num.f t339).bind fun t340 => ((cellarref7_Byte.f ((rd_T51 l0_2 x12_3).f0) ((rd_T51 l0_2 x12_3).f1) ((rd_T51 l0_2 x12_3).f2) ((rd_T51 l0_2 x12_3).f3) ((rd_T51 l0_2 x12_3).f4)).bind fun t342 => (if ((t340 == 0) != t342) = true then (some false) else (cellarlaw8_BytesPut.l3 kj72 (wrap64 (x12_3 + 1)) l0_0 l0_1 l0_2)))) = some r := H
               have A80 := Aside0.mk A800
               clear A800
               replace H := Option.bind_eq_some_iff.mp H
               obtain ⟨t340, A810, H⟩ := H
               replace H : ((cellarref7_Byte.f ((rd_T51 l0_2 x12_3).f0) ((rd_T51 l0_2 x12_3).f1) ((rd_T51 l0_2 x12_3).f2) ((rd_T51 l0_2 x12_3).f3) ((rd_T51 l0_2 x12_3).f4)).bind fun t342 => (if ((t340 == 0) != t342) = true then (some false) else (cellarlaw8_BytesPut.l3 kj72 (wrap64 (x12_3 + 1)) l0_0 l0_1 l0_2))) = some r := H
               have A81 := Aside0.mk A810
               clear A810
               replace H := Option.bind_eq_some_iff.mp H
               obtain ⟨t342, A820, H⟩ := H
               replace H : (if ((t340 == 0) != t342) = true then (some false) else (cellarlaw8_BytesPut.l3 kj72 (wrap64 (x12_3 + 1)) l0_0 l0_1 l0_2)) = some r := H
               have A82 := Aside0.mk A820
               clear A820
               by_cases c83 : ((t340 == 0) != t342) = true
               ·rw [if_pos c83] at H
                have c83b0 : ((t340 == 0) != t342) = true := c83
                (try (have c83b1 : decide ((t340 == 0) = t342) = false := by simpa using c83))
                (try (have c83b2 : ((t340 == 0) == t342) = false := by simpa using c83))
                (try (have c83b3 : ¬ ((t340 == 0) = t342) := by simpa using c83))
                clear c83
                obtain rfl := Option.some.inj H
                try go_wp2
                have n0_ := Aside0.mk (blk_drew BK303.out)
                have n1_ := Aside0.mk (below_drew1 HB.out)
                clear BK303
                clear HB
                have BK303 := n0_
                have HB := n1_
                clear n0_ n1_
                have p338 : 0 ≤ (x12_3 : Int) := zdec
                have q338 : x12_3 < (l0_2.length : Int) := zdec
                obtain ⟨ad338, e338, hx338_0, hx338_1, hx338_2, hx338_3, hx338_4⟩ := at_T51 HR0_2.out x12_3 p338 q338
                have hw338_4 := hx338_4
                have hw338_3 := hx338_3
                have hw338_2 := hx338_2
                have hw338_1 := hx338_1
                have hw338_0 := hx338_0
                cases e338
                replace hx338_0 := (HB.out.cell (World.block_lt_of_cell? w _ hx338_0)).trans hx338_0
                replace hx338_1 := (HB.out.cell (World.block_lt_of_cell? w _ hx338_1)).trans hx338_1
                replace hx338_2 := (HB.out.cell (World.block_lt_of_cell? w _ hx338_2)).trans hx338_2
                replace hx338_3 := (HB.out.cell (World.block_lt_of_cell? w _ hx338_3)).trans hx338_3
                replace hx338_4 := (HB.out.cell (World.block_lt_of_cell? w _ hx338_4)).trans hx338_4
                replace p338 := eq_true p338
                replace q338 := eq_true q338
                have p341 : 0 ≤ (x12_3 : Int) := zdec
                have q341 : x12_3 < (l0_2.length : Int) := zdec
                obtain ⟨ad341, e341, hx341_0, hx341_1, hx341_2, hx341_3, hx341_4⟩ := at_T51 HR0_2.out x12_3 p341 q341
                have hw341_4 := hx341_4
                have hw341_3 := hx341_3
                have hw341_2 := hx341_2
                have hw341_1 := hx341_1
                have hw341_0 := hx341_0
                obtain rfl : ad338 = ad341 := (by injection e341)
                replace hx341_0 := (HB.out.cell (World.block_lt_of_cell? w _ hx341_0)).trans hx341_0
                replace hx341_1 := (HB.out.cell (World.block_lt_of_cell? w _ hx341_1)).trans hx341_1
                replace hx341_2 := (HB.out.cell (World.block_lt_of_cell? w _ hx341_2)).trans hx341_2
                replace hx341_3 := (HB.out.cell (World.block_lt_of_cell? w _ hx341_3)).trans hx341_3
                replace hx341_4 := (HB.out.cell (World.block_lt_of_cell? w _ hx341_4)).trans hx341_4
                replace p341 := eq_true p341
                replace q341 := eq_true q341
                refine start_ (n := 15) (S := fun w' => w'.cell? ⟨gb303, 0, none⟩ = some (.slice A0_0 l0_0.length c0_0) ∧ w'.cell? ⟨gb303, 1, none⟩ = some (.slice A0_1 l0_1.length c0_1) ∧ w'.cell? ⟨gb303, 2, none⟩ = some (.slice (some ad338) l0_2.length c0_2) ∧ w'.cell? (ad338.add ((x12_3).toNat * 5)) = some (.int .i64 ((rd_T51 l0_2 x12_3).f0)) ∧ w'.cell? ⟨(ad338.add ((x12_3).toNat * 5)).block, (ad338.add ((x12_3).toNat * 5)).off + 1, none⟩ = some (.int .i64 ((rd_T51 l0_2 x12_3).f1)) ∧ w'.cell? ⟨(ad338.add ((x12_3).toNat * 5)).block, (ad338.add ((x12_3).toNat * 5)).off + 2, none⟩ = some (.int .i64 ((rd_T51 l0_2 x12_3).f2)) ∧ w'.cell? ⟨(ad338.add ((x12_3).toNat * 5)).block, (ad338.add ((x12_3).toNat * 5)).off + 3, none⟩ = some (.int .i64 ((rd_T51 l0_2 x12_3).f3)) ∧ w'.cell? ⟨(ad338.add ((x12_3).toNat * 5)).block, (ad338.add ((x12_3).toNat * 5)).off + 4, none⟩ = some (.int .i64 ((rd_T51 l0_2 x12_3).f4)) ∧ w'.cell? (ad338.add ((x12_3).toNat * 5)) = some (.int .i64 ((rd_T51 l0_2 x12_3).f0)) ∧ w'.cell? ⟨(ad338.add ((x12_3).toNat * 5)).block, (ad338.add ((x12_3).toNat * 5)).off + 1, none⟩ = some (.int .i64 ((rd_T51 l0_2 x12_3).f1)) ∧ w'.cell? ⟨(ad338.add ((x12_3).toNat * 5)).block, (ad338.add ((x12_3).toNat * 5)).off + 2, none⟩ = some (.int .i64 ((rd_T51 l0_2 x12_3).f2)) ∧ w'.cell? ⟨(ad338.add ((x12_3).toNat * 5)).block, (ad338.add ((x12_3).toNat * 5)).off + 3, none⟩ = some (.int .i64 ((rd_T51 l0_2 x12_3).f3)) ∧ w'.cell? ⟨(ad338.add ((x12_3).toNat * 5)).block, (ad338.add ((x12_3).toNat * 5)).off + 4, none⟩ = some (.int .i64 ((rd_T51 l0_2 x12_3).f4))) (ds := []) #[false,false,false,false,false,false,false,false,false,false,false,false,false,false,false] (by kernel_rfl) rfl rfl ⟨(blk_cell BK303.out 0).trans rfl, (blk_cell BK303.out 1).trans rfl, (blk_cell BK303.out 2).trans rfl, ((HB.out.cell (World.block_lt_of_cell? w _ hw338_0)).trans hw338_0), ((HB.out.cell (World.block_lt_of_cell? w _ hw338_1)).trans hw338_1), ((HB.out.cell (World.block_lt_of_cell? w _ hw338_2)).trans hw338_2), ((HB.out.cell (World.block_lt_of_cell? w _ hw338_3)).trans hw338_3), ((HB.out.cell (World.block_lt_of_cell? w _ hw338_4)).trans hw338_4), ((HB.out.cell (World.block_lt_of_cell? w _ hw341_0)).trans hw341_0), ((HB.out.cell (World.block_lt_of_cell? w _ hw341_1)).trans hw341_1), ((HB.out.cell (World.block_lt_of_cell? w _ hw341_2)).trans hw341_2), ((HB.out.cell (World.block_lt_of_cell? w _ hw341_3)).trans hw341_3), ((HB.out.cell (World.block_lt_of_cell? w _ hw341_4)).trans hw341_4)⟩ (fun hHeld => ?_); refine with_tabW cellarlaw8_BytesPut.tab27 cellarlaw8_BytesPut.bits27 (fun HT_ HW_ => ?_)
                generalize wc.drew = w84 at BK303 HB hx338_0 hx338_1 hx338_2 hx338_3 hx338_4 hx341_0 hx341_1 hx341_2 hx341_3 hx341_4 hHeld ⊢
                refine pure_ (i := 0) (N := some 122) (v := ?_) (a' := ?_) #[true,false,false,false,false,false,false,false,false,false,false,false,false,false,false] rfl rfl (any_of HT_.out (by kernel_rfl)) (fun _ _ _ h => h) (Or.inl ⟨by rfl, ?_⟩) ?_ ?_
                rotate_left
                ·intro w'
                 go_simp
                 with_reducible rfl
                rotate_left
                ·simp only [Act.put, List.setIfInBounds_toArray, List.set_cons_zero, List.set_cons_succ, i64_w, i32_w]
                 rfl
                refine pure_ (i := 2) (N := some 124) (v := ?_) (a' := ?_) #[true,false,true,false,false,false,false,false,false,false,false,false,false,false,false] rfl rfl (any_of HT_.out (by kernel_rfl)) (fun _ _ _ h => h) (Or.inl ⟨by rfl, ?_⟩) ?_ ?_
                rotate_left
                ·intro w'
                 go_simp
                 with_reducible rfl
                rotate_left
                ·simp only [Act.put, List.setIfInBounds_toArray, List.set_cons_zero, List.set_cons_succ, i64_w, i32_w]
                 rfl
                refine pure_ (i := 8) (N := some 130) (v := ?_) (a' := ?_) #[true,false,true,false,false,false,false,false,true,false,false,false,false,false,false] rfl rfl (any_of HT_.out (by kernel_rfl)) (fun _ _ _ h => h) (Or.inl ⟨by rfl, ?_⟩) ?_ ?_
                rotate_left
                ·intro w'
                 go_simp
                 with_reducible rfl
                rotate_left
                ·simp only [Act.put, List.setIfInBounds_toArray, List.set_cons_zero, List.set_cons_succ, i64_w, i32_w]
                 rfl
                refine pure_ (i := 10) (N := some 132) (v := ?_) (a' := ?_) #[true,false,true,false,false,false,false,false,true,false,true,false,false,false,false] rfl rfl (any_of HT_.out (by kernel_rfl)) (fun _ _ _ h => h) (Or.inl ⟨by rfl, ?_⟩) ?_ ?_
                rotate_left
                ·intro w'
                 go_simp
                 with_reducible rfl
                rotate_left
                ·simp only [Act.put, List.setIfInBounds_toArray, List.set_cons_zero, List.set_cons_succ, i64_w, i32_w]
                 rfl
                refine take_ (i := 1) (N := some 123) (v := ?_) (a' := ?_) #[true,true,true,false,false,false,false,false,true,false,true,false,false,false,false] rfl rfl (take_ofW HT_.out HW_.out (by kernel_rfl)) (fun _ _ _ h => h) (Or.inl ⟨by rfl, ?_⟩) hHeld ?_ ?_
                rotate_left
                ·rintro w' ⟨s0, s1, s2, s3, s4, s5, s6, s7, s8, s9, s10, s11, s12⟩
                 go_simp
                 with_reducible rfl
                rotate_left
                ·simp only [Act.put, List.setIfInBounds_toArray, List.set_cons_zero, List.set_cons_succ, i64_w, i32_w]
                 rfl
                refine pure_ (i := 3) (N := some 125) (v := ?_) (a' := ?_) #[true,true,true,true,false,false,false,false,true,false,true,false,false,false,false] rfl rfl (any_of HT_.out (by kernel_rfl)) (fun _ _ _ h => h) (Or.inl ⟨by rfl, ?_⟩) ?_ ?_
                rotate_left
                ·intro w'
                 go_simp
                 with_reducible rfl
                rotate_left
                ·simp only [Act.put, List.setIfInBounds_toArray, List.set_cons_zero, List.set_cons_succ, i64_w, i32_w]
                 rfl
                refine take_ (i := 4) (N := some 126) (v := ?_) (a' := ?_) #[true,true,true,true,true,false,false,false,true,false,true,false,false,false,false] rfl rfl (take_ofW HT_.out HW_.out (by kernel_rfl)) (fun _ _ _ h => h) (Or.inl ⟨by rfl, ?_⟩) hHeld ?_ ?_
                rotate_left
                ·rintro w' ⟨s0, s1, s2, s3, s4, s5, s6, s7, s8, s9, s10, s11, s12⟩
                 go_simp
                 with_reducible rfl
                rotate_left
                ·simp only [Act.put, List.setIfInBounds_toArray, List.set_cons_zero, List.set_cons_succ, i64_w, i32_w]
                 rfl
                refine take_ (i := 9) (N := some 131) (v := ?_) (a' := ?_) #[true,true,true,true,true,false,false,false,true,true,true,false,false,false,false] rfl rfl (take_ofW HT_.out HW_.out (by kernel_rfl)) (fun _ _ _ h => h) (Or.inl ⟨by rfl, ?_⟩) hHeld ?_ ?_
                rotate_left
                ·rintro w' ⟨s0, s1, s2, s3, s4, s5, s6, s7, s8, s9, s10, s11, s12⟩
                 go_simp
                 with_reducible rfl
                rotate_left
                ·simp only [Act.put, List.setIfInBounds_toArray, List.set_cons_zero, List.set_cons_succ, i64_w, i32_w]
                 rfl
                refine pure_ (i := 11) (N := some 133) (v := ?_) (a' := ?_) #[true,true,true,true,true,false,false,false,true,true,true,true,false,false,false] rfl rfl (any_of HT_.out (by kernel_rfl)) (fun _ _ _ h => h) (Or.inl ⟨by rfl, ?_⟩) ?_ ?_
                rotate_left
                ·intro w'
                 go_simp
                 with_reducible rfl
                rotate_left
                ·simp only [Act.put, List.setIfInBounds_toArray, List.set_cons_zero, List.set_cons_succ, i64_w, i32_w]
                 rfl
                refine take_ (i := 12) (N := some 134) (v := ?_) (a' := ?_) #[true,true,true,true,true,false,false,false,true,true,true,true,true,false,false] rfl rfl (take_ofW HT_.out HW_.out (by kernel_rfl)) (fun _ _ _ h => h) (Or.inl ⟨by rfl, ?_⟩) hHeld ?_ ?_
                rotate_left
                ·rintro w' ⟨s0, s1, s2, s3, s4, s5, s6, s7, s8, s9, s10, s11, s12⟩
                 go_simp
                 with_reducible rfl
                rotate_left
                ·simp only [Act.put, List.setIfInBounds_toArray, List.set_cons_zero, List.set_cons_succ, i64_w, i32_w]
                 rfl
                refine one_ (i := 5) (N := some 127) #[true,true,true,true,true,true,false,false,true,true,true,true,true,false,false] rfl rfl (one_of HT_.out (by kernel_rfl)) (by decide) (fun K hK => ?_)
                refine goes_ Try.func32 (by kernel_rfl) rfl #[.agg #[.int .i64 ((rd_T51 l0_2 x12_3).f0), .int .i64 ((rd_T51 l0_2 x12_3).f1), .int .i64 ((rd_T51 l0_2 x12_3).f2), .int .i64 ((rd_T51 l0_2 x12_3).f3), .int .i64 ((rd_T51 l0_2 x12_3).f4)]] (by rfl) rfl rfl (by (try simp only [List.map_toArray, List.map_cons, List.map_nil]); first | done | rfl | (simp only [List.length_drop, List.length_take]; rfl)) ?_
                with_reducible refine (bytes_Byte.calls ((rd_T51 l0_2 x12_3).f0) ((rd_T51 l0_2 x12_3).f1) ((rd_T51 l0_2 x12_3).f2) ((rd_T51 l0_2 x12_3).f3) ((rd_T51 l0_2 x12_3).f4) t339 _ A80.out).mono ?_
                rintro e w85 ⟨rfl, hb⟩
                refine ⟨_, rfl, ?_⟩
                have n0_ := Aside0.mk (blk_below (g := gb303) (o := .cells #[.slice A0_0 l0_0.length c0_0, .slice A0_1 l0_1.length c0_1, .slice (some ad338) l0_2.length c0_2] 26 (0, 0)) (zb BK303.out) hb)
                have n1_ := Aside0.mk (below_step (zw1 HB.out GE303.out) hb)
                clear BK303
                clear HB
                have BK303 := n0_
                have HB := n1_
                clear n0_ n1_
                (try clear hb)
                (try clear hb2)
                (try clear hk)
                (try clear hi)
                refine hK.out _ _ ⟨(blk_cell BK303.out 0).trans rfl, (blk_cell BK303.out 1).trans rfl, (blk_cell BK303.out 2).trans rfl, ((HB.out.cell (World.block_lt_of_cell? w _ hw338_0)).trans hw338_0), ((HB.out.cell (World.block_lt_of_cell? w _ hw338_1)).trans hw338_1), ((HB.out.cell (World.block_lt_of_cell? w _ hw338_2)).trans hw338_2), ((HB.out.cell (World.block_lt_of_cell? w _ hw338_3)).trans hw338_3), ((HB.out.cell (World.block_lt_of_cell? w _ hw338_4)).trans hw338_4), ((HB.out.cell (World.block_lt_of_cell? w _ hw341_0)).trans hw341_0), ((HB.out.cell (World.block_lt_of_cell? w _ hw341_1)).trans hw341_1), ((HB.out.cell (World.block_lt_of_cell? w _ hw341_2)).trans hw341_2), ((HB.out.cell (World.block_lt_of_cell? w _ hw341_3)).trans hw341_3), ((HB.out.cell (World.block_lt_of_cell? w _ hw341_4)).trans hw341_4)⟩ (fun hHeld => ?_)
                clear hK K
                refine norm_ (a' := ?_) ?_ ?_
                rotate_left
                ·show Act.put _ (some 127) _ = _
                 simp only [Act.put, List.setIfInBounds_toArray, List.set_cons_zero, List.set_cons_succ, i64_w, i32_w]
                 rfl
                refine one_ (i := 6) (N := some 128) #[true,true,true,true,true,true,true,false,true,true,true,true,true,false,false] rfl rfl (one_of HT_.out (by kernel_rfl)) (by decide) (fun K hK => ?_)
                refine goes_ Try.func23 (by kernel_rfl) rfl #[.int .i64 t339] (by rfl) rfl rfl (by (try simp only [List.map_toArray, List.map_cons, List.map_nil]); first | done | rfl | (simp only [List.length_drop, List.length_take]; rfl)) ?_
                with_reducible refine (cellarlaw8_num.calls t339 t340 _ A81.out).mono ?_
                rintro e w' ⟨rfl, ⟨nd, rfl⟩⟩
                refine ⟨_, rfl, ?_⟩
                refine hK.out _ _ ⟨(blk_cell BK303.out 0).trans rfl, (blk_cell BK303.out 1).trans rfl, (blk_cell BK303.out 2).trans rfl, ((HB.out.cell (World.block_lt_of_cell? w _ hw338_0)).trans hw338_0), ((HB.out.cell (World.block_lt_of_cell? w _ hw338_1)).trans hw338_1), ((HB.out.cell (World.block_lt_of_cell? w _ hw338_2)).trans hw338_2), ((HB.out.cell (World.block_lt_of_cell? w _ hw338_3)).trans hw338_3), ((HB.out.cell (World.block_lt_of_cell? w _ hw338_4)).trans hw338_4), ((HB.out.cell (World.block_lt_of_cell? w _ hw341_0)).trans hw341_0), ((HB.out.cell (World.block_lt_of_cell? w _ hw341_1)).trans hw341_1), ((HB.out.cell (World.block_lt_of_cell? w _ hw341_2)).trans hw341_2), ((HB.out.cell (World.block_lt_of_cell? w _ hw341_3)).trans hw341_3), ((HB.out.cell (World.block_lt_of_cell? w _ hw341_4)).trans hw341_4)⟩ (fun hHeld => ?_)
                clear hK K
                refine norm_ (a' := ?_) ?_ ?_
                rotate_left
                ·show Act.put _ (some 128) _ = _
                 simp only [Act.put, List.setIfInBounds_toArray, List.set_cons_zero, List.set_cons_succ, i64_w, i32_w]
                 rfl
                refine pure_ (i := 7) (N := some 129) (v := ?_) (a' := ?_) #[true,true,true,true,true,true,true,true,true,true,true,true,true,false,false] rfl rfl (any_of HT_.out (by kernel_rfl)) (fun _ _ _ h => h) (Or.inl ⟨by rfl, ?_⟩) ?_ ?_
                rotate_left
                ·intro w'
                 go_simp
                 with_reducible rfl
                rotate_left
                ·simp only [Act.put, List.setIfInBounds_toArray, List.set_cons_zero, List.set_cons_succ, i64_w, i32_w]
                 rfl
                refine one_ (i := 13) (N := some 135) #[true,true,true,true,true,true,true,true,true,true,true,true,true,true,false] rfl rfl (one_of HT_.out (by kernel_rfl)) (by decide) (fun K hK => ?_)
                refine goes_ Try.func33 (by kernel_rfl) rfl #[.agg #[.int .i64 ((rd_T51 l0_2 x12_3).f0), .int .i64 ((rd_T51 l0_2 x12_3).f1), .int .i64 ((rd_T51 l0_2 x12_3).f2), .int .i64 ((rd_T51 l0_2 x12_3).f3), .int .i64 ((rd_T51 l0_2 x12_3).f4)]] (by rfl) rfl rfl (by (try simp only [List.map_toArray, List.map_cons, List.map_nil]); first | done | rfl | (simp only [List.length_drop, List.length_take]; rfl)) ?_
                with_reducible refine (cellarref7_Byte.calls ((rd_T51 l0_2 x12_3).f0) ((rd_T51 l0_2 x12_3).f1) ((rd_T51 l0_2 x12_3).f2) ((rd_T51 l0_2 x12_3).f3) ((rd_T51 l0_2 x12_3).f4) t342 _ A82.out).mono ?_
                rintro e w86 ⟨rfl, hb⟩
                refine ⟨_, rfl, ?_⟩
                have n0_ := Aside0.mk (blk_below (g := gb303) (o := .cells #[.slice A0_0 l0_0.length c0_0, .slice A0_1 l0_1.length c0_1, .slice (some ad338) l0_2.length c0_2] 26 (0, 0)) (zb BK303.out) hb)
                have n1_ := Aside0.mk (below_step (zw1 HB.out GE303.out) hb)
                clear BK303
                clear HB
                have BK303 := n0_
                have HB := n1_
                clear n0_ n1_
                (try clear hb)
                (try clear hb2)
                (try clear hk)
                (try clear hi)
                refine hK.out _ _ ⟨(blk_cell BK303.out 0).trans rfl, (blk_cell BK303.out 1).trans rfl, (blk_cell BK303.out 2).trans rfl, ((HB.out.cell (World.block_lt_of_cell? w _ hw338_0)).trans hw338_0), ((HB.out.cell (World.block_lt_of_cell? w _ hw338_1)).trans hw338_1), ((HB.out.cell (World.block_lt_of_cell? w _ hw338_2)).trans hw338_2), ((HB.out.cell (World.block_lt_of_cell? w _ hw338_3)).trans hw338_3), ((HB.out.cell (World.block_lt_of_cell? w _ hw338_4)).trans hw338_4), ((HB.out.cell (World.block_lt_of_cell? w _ hw341_0)).trans hw341_0), ((HB.out.cell (World.block_lt_of_cell? w _ hw341_1)).trans hw341_1), ((HB.out.cell (World.block_lt_of_cell? w _ hw341_2)).trans hw341_2), ((HB.out.cell (World.block_lt_of_cell? w _ hw341_3)).trans hw341_3), ((HB.out.cell (World.block_lt_of_cell? w _ hw341_4)).trans hw341_4)⟩ (fun hHeld => ?_)
                clear hK K
                refine norm_ (a' := ?_) ?_ ?_
                rotate_left
                ·show Act.put _ (some 135) _ = _
                 simp only [Act.put, List.setIfInBounds_toArray, List.set_cons_zero, List.set_cons_succ, i64_w, i32_w]
                 rfl
                refine pure_ (i := 14) (N := some 136) (v := ?_) (a' := ?_) #[true,true,true,true,true,true,true,true,true,true,true,true,true,true,true] rfl rfl (any_of HT_.out (by kernel_rfl)) (fun _ _ _ h => h) (Or.inl ⟨by rfl, ?_⟩) ?_ ?_
                rotate_left
                ·intro w'
                 go_simp
                 with_reducible rfl
                rotate_left
                ·simp only [Act.put, List.setIfInBounds_toArray, List.set_cons_zero, List.set_cons_succ, i64_w, i32_w]
                 rfl
                refine done_ (done_of HT_.out (by kernel_rfl)) ?_
                try go_wp2
                go_ret
                exact ⟨by first | rfl | (simp [errW_none, errW_some] <;> rfl) | (simp [*, errW_none, errW_some] <;> rfl), zw1 HB.out GE303.out⟩
               ·rw [if_neg c83] at H
                have c83b0 : ((t340 == 0) != t342) = false := by simpa using c83
                (try (have c83b1 : decide ((t340 == 0) = t342) = true := by simpa using c83))
                (try (have c83b2 : ((t340 == 0) == t342) = true := by simpa using c83))
                clear c83
                have H' := Aside0.mk H
                clear H
                try go_wp2
                have n0_ := Aside0.mk (blk_drew BK303.out)
                have n1_ := Aside0.mk (below_drew1 HB.out)
                clear BK303
                clear HB
                have BK303 := n0_
                have HB := n1_
                clear n0_ n1_
                have p338 : 0 ≤ (x12_3 : Int) := zdec
                have q338 : x12_3 < (l0_2.length : Int) := zdec
                obtain ⟨ad338, e338, hx338_0, hx338_1, hx338_2, hx338_3, hx338_4⟩ := at_T51 HR0_2.out x12_3 p338 q338
                have hw338_4 := hx338_4
                have hw338_3 := hx338_3
                have hw338_2 := hx338_2
                have hw338_1 := hx338_1
                have hw338_0 := hx338_0
                cases e338
                replace hx338_0 := (HB.out.cell (World.block_lt_of_cell? w _ hx338_0)).trans hx338_0
                replace hx338_1 := (HB.out.cell (World.block_lt_of_cell? w _ hx338_1)).trans hx338_1
                replace hx338_2 := (HB.out.cell (World.block_lt_of_cell? w _ hx338_2)).trans hx338_2
                replace hx338_3 := (HB.out.cell (World.block_lt_of_cell? w _ hx338_3)).trans hx338_3
                replace hx338_4 := (HB.out.cell (World.block_lt_of_cell? w _ hx338_4)).trans hx338_4
                replace p338 := eq_true p338
                replace q338 := eq_true q338
                have p341 : 0 ≤ (x12_3 : Int) := zdec
                have q341 : x12_3 < (l0_2.length : Int) := zdec
                obtain ⟨ad341, e341, hx341_0, hx341_1, hx341_2, hx341_3, hx341_4⟩ := at_T51 HR0_2.out x12_3 p341 q341
                have hw341_4 := hx341_4
                have hw341_3 := hx341_3
                have hw341_2 := hx341_2
                have hw341_1 := hx341_1
                have hw341_0 := hx341_0
                obtain rfl : ad338 = ad341 := (by injection e341)
                replace hx341_0 := (HB.out.cell (World.block_lt_of_cell? w _ hx341_0)).trans hx341_0
                replace hx341_1 := (HB.out.cell (World.block_lt_of_cell? w _ hx341_1)).trans hx341_1
                replace hx341_2 := (HB.out.cell (World.block_lt_of_cell? w _ hx341_2)).trans hx341_2
                replace hx341_3 := (HB.out.cell (World.block_lt_of_cell? w _ hx341_3)).trans hx341_3
                replace hx341_4 := (HB.out.cell (World.block_lt_of_cell? w _ hx341_4)).trans hx341_4
                replace p341 := eq_true p341
                replace q341 := eq_true q341
                refine start_ (n := 15) (S := fun w' => w'.cell? ⟨gb303, 0, none⟩ = some (.slice A0_0 l0_0.length c0_0) ∧ w'.cell? ⟨gb303, 1, none⟩ = some (.slice A0_1 l0_1.length c0_1) ∧ w'.cell? ⟨gb303, 2, none⟩ = some (.slice (some ad338) l0_2.length c0_2) ∧ w'.cell? (ad338.add ((x12_3).toNat * 5)) = some (.int .i64 ((rd_T51 l0_2 x12_3).f0)) ∧ w'.cell? ⟨(ad338.add ((x12_3).toNat * 5)).block, (ad338.add ((x12_3).toNat * 5)).off + 1, none⟩ = some (.int .i64 ((rd_T51 l0_2 x12_3).f1)) ∧ w'.cell? ⟨(ad338.add ((x12_3).toNat * 5)).block, (ad338.add ((x12_3).toNat * 5)).off + 2, none⟩ = some (.int .i64 ((rd_T51 l0_2 x12_3).f2)) ∧ w'.cell? ⟨(ad338.add ((x12_3).toNat * 5)).block, (ad338.add ((x12_3).toNat * 5)).off + 3, none⟩ = some (.int .i64 ((rd_T51 l0_2 x12_3).f3)) ∧ w'.cell? ⟨(ad338.add ((x12_3).toNat * 5)).block, (ad338.add ((x12_3).toNat * 5)).off + 4, none⟩ = some (.int .i64 ((rd_T51 l0_2 x12_3).f4)) ∧ w'.cell? (ad338.add ((x12_3).toNat * 5)) = some (.int .i64 ((rd_T51 l0_2 x12_3).f0)) ∧ w'.cell? ⟨(ad338.add ((x12_3).toNat * 5)).block, (ad338.add ((x12_3).toNat * 5)).off + 1, none⟩ = some (.int .i64 ((rd_T51 l0_2 x12_3).f1)) ∧ w'.cell? ⟨(ad338.add ((x12_3).toNat * 5)).block, (ad338.add ((x12_3).toNat * 5)).off + 2, none⟩ = some (.int .i64 ((rd_T51 l0_2 x12_3).f2)) ∧ w'.cell? ⟨(ad338.add ((x12_3).toNat * 5)).block, (ad338.add ((x12_3).toNat * 5)).off + 3, none⟩ = some (.int .i64 ((rd_T51 l0_2 x12_3).f3)) ∧ w'.cell? ⟨(ad338.add ((x12_3).toNat * 5)).block, (ad338.add ((x12_3).toNat * 5)).off + 4, none⟩ = some (.int .i64 ((rd_T51 l0_2 x12_3).f4))) (ds := []) #[false,false,false,false,false,false,false,false,false,false,false,false,false,false,false] (by kernel_rfl) rfl rfl ⟨(blk_cell BK303.out 0).trans rfl, (blk_cell BK303.out 1).trans rfl, (blk_cell BK303.out 2).trans rfl, ((HB.out.cell (World.block_lt_of_cell? w _ hw338_0)).trans hw338_0), ((HB.out.cell (World.block_lt_of_cell? w _ hw338_1)).trans hw338_1), ((HB.out.cell (World.block_lt_of_cell? w _ hw338_2)).trans hw338_2), ((HB.out.cell (World.block_lt_of_cell? w _ hw338_3)).trans hw338_3), ((HB.out.cell (World.block_lt_of_cell? w _ hw338_4)).trans hw338_4), ((HB.out.cell (World.block_lt_of_cell? w _ hw341_0)).trans hw341_0), ((HB.out.cell (World.block_lt_of_cell? w _ hw341_1)).trans hw341_1), ((HB.out.cell (World.block_lt_of_cell? w _ hw341_2)).trans hw341_2), ((HB.out.cell (World.block_lt_of_cell? w _ hw341_3)).trans hw341_3), ((HB.out.cell (World.block_lt_of_cell? w _ hw341_4)).trans hw341_4)⟩ (fun hHeld => ?_); refine with_tabW cellarlaw8_BytesPut.tab27 cellarlaw8_BytesPut.bits27 (fun HT_ HW_ => ?_)
                generalize wc.drew = w87 at BK303 HB hx338_0 hx338_1 hx338_2 hx338_3 hx338_4 hx341_0 hx341_1 hx341_2 hx341_3 hx341_4 hHeld ⊢
                refine pure_ (i := 0) (N := some 122) (v := ?_) (a' := ?_) #[true,false,false,false,false,false,false,false,false,false,false,false,false,false,false] rfl rfl (any_of HT_.out (by kernel_rfl)) (fun _ _ _ h => h) (Or.inl ⟨by rfl, ?_⟩) ?_ ?_
                rotate_left
                ·intro w'
                 go_simp
                 with_reducible rfl
                rotate_left
                ·simp only [Act.put, List.setIfInBounds_toArray, List.set_cons_zero, List.set_cons_succ, i64_w, i32_w]
                 rfl
                refine pure_ (i := 2) (N := some 124) (v := ?_) (a' := ?_) #[true,false,true,false,false,false,false,false,false,false,false,false,false,false,false] rfl rfl (any_of HT_.out (by kernel_rfl)) (fun _ _ _ h => h) (Or.inl ⟨by rfl, ?_⟩) ?_ ?_
                rotate_left
                ·intro w'
                 go_simp
                 with_reducible rfl
                rotate_left
                ·simp only [Act.put, List.setIfInBounds_toArray, List.set_cons_zero, List.set_cons_succ, i64_w, i32_w]
                 rfl
                refine pure_ (i := 8) (N := some 130) (v := ?_) (a' := ?_) #[true,false,true,false,false,false,false,false,true,false,false,false,false,false,false] rfl rfl (any_of HT_.out (by kernel_rfl)) (fun _ _ _ h => h) (Or.inl ⟨by rfl, ?_⟩) ?_ ?_
                rotate_left
                ·intro w'
                 go_simp
                 with_reducible rfl
                rotate_left
                ·simp only [Act.put, List.setIfInBounds_toArray, List.set_cons_zero, List.set_cons_succ, i64_w, i32_w]
                 rfl
                refine pure_ (i := 10) (N := some 132) (v := ?_) (a' := ?_) #[true,false,true,false,false,false,false,false,true,false,true,false,false,false,false] rfl rfl (any_of HT_.out (by kernel_rfl)) (fun _ _ _ h => h) (Or.inl ⟨by rfl, ?_⟩) ?_ ?_
                rotate_left
                ·intro w'
                 go_simp
                 with_reducible rfl
                rotate_left
                ·simp only [Act.put, List.setIfInBounds_toArray, List.set_cons_zero, List.set_cons_succ, i64_w, i32_w]
                 rfl
                refine take_ (i := 1) (N := some 123) (v := ?_) (a' := ?_) #[true,true,true,false,false,false,false,false,true,false,true,false,false,false,false] rfl rfl (take_ofW HT_.out HW_.out (by kernel_rfl)) (fun _ _ _ h => h) (Or.inl ⟨by rfl, ?_⟩) hHeld ?_ ?_
                rotate_left
                ·rintro w' ⟨s0, s1, s2, s3, s4, s5, s6, s7, s8, s9, s10, s11, s12⟩
                 go_simp
                 with_reducible rfl
                rotate_left
                ·simp only [Act.put, List.setIfInBounds_toArray, List.set_cons_zero, List.set_cons_succ, i64_w, i32_w]
                 rfl
                refine pure_ (i := 3) (N := some 125) (v := ?_) (a' := ?_) #[true,true,true,true,false,false,false,false,true,false,true,false,false,false,false] rfl rfl (any_of HT_.out (by kernel_rfl)) (fun _ _ _ h => h) (Or.inl ⟨by rfl, ?_⟩) ?_ ?_
                rotate_left
                ·intro w'
                 go_simp
                 with_reducible rfl
                rotate_left
                ·simp only [Act.put, List.setIfInBounds_toArray, List.set_cons_zero, List.set_cons_succ, i64_w, i32_w]
                 rfl
                refine take_ (i := 4) (N := some 126) (v := ?_) (a' := ?_) #[true,true,true,true,true,false,false,false,true,false,true,false,false,false,false] rfl rfl (take_ofW HT_.out HW_.out (by kernel_rfl)) (fun _ _ _ h => h) (Or.inl ⟨by rfl, ?_⟩) hHeld ?_ ?_
                rotate_left
                ·rintro w' ⟨s0, s1, s2, s3, s4, s5, s6, s7, s8, s9, s10, s11, s12⟩
                 go_simp
                 with_reducible rfl
                rotate_left
                ·simp only [Act.put, List.setIfInBounds_toArray, List.set_cons_zero, List.set_cons_succ, i64_w, i32_w]
                 rfl
                refine take_ (i := 9) (N := some 131) (v := ?_) (a' := ?_) #[true,true,true,true,true,false,false,false,true,true,true,false,false,false,false] rfl rfl (take_ofW HT_.out HW_.out (by kernel_rfl)) (fun _ _ _ h => h) (Or.inl ⟨by rfl, ?_⟩) hHeld ?_ ?_
                rotate_left
                ·rintro w' ⟨s0, s1, s2, s3, s4, s5, s6, s7, s8, s9, s10, s11, s12⟩
                 go_simp
                 with_reducible rfl
                rotate_left
                ·simp only [Act.put, List.setIfInBounds_toArray, List.set_cons_zero, List.set_cons_succ, i64_w, i32_w]
                 rfl
                refine pure_ (i := 11) (N := some 133) (v := ?_) (a' := ?_) #[true,true,true,true,true,false,false,false,true,true,true,true,false,false,false] rfl rfl (any_of HT_.out (by kernel_rfl)) (fun _ _ _ h => h) (Or.inl ⟨by rfl, ?_⟩) ?_ ?_
                rotate_left
                ·intro w'
                 go_simp
                 with_reducible rfl
                rotate_left
                ·simp only [Act.put, List.setIfInBounds_toArray, List.set_cons_zero, List.set_cons_succ, i64_w, i32_w]
                 rfl
                refine take_ (i := 12) (N := some 134) (v := ?_) (a' := ?_) #[true,true,true,true,true,false,false,false,true,true,true,true,true,false,false] rfl rfl (take_ofW HT_.out HW_.out (by kernel_rfl)) (fun _ _ _ h => h) (Or.inl ⟨by rfl, ?_⟩) hHeld ?_ ?_
                rotate_left
                ·rintro w' ⟨s0, s1, s2, s3, s4, s5, s6, s7, s8, s9, s10, s11, s12⟩
                 go_simp
                 with_reducible rfl
                rotate_left
                ·simp only [Act.put, List.setIfInBounds_toArray, List.set_cons_zero, List.set_cons_succ, i64_w, i32_w]
                 rfl
                refine one_ (i := 5) (N := some 127) #[true,true,true,true,true,true,false,false,true,true,true,true,true,false,false] rfl rfl (one_of HT_.out (by kernel_rfl)) (by decide) (fun K hK => ?_)
                refine goes_ Try.func32 (by kernel_rfl) rfl #[.agg #[.int .i64 ((rd_T51 l0_2 x12_3).f0), .int .i64 ((rd_T51 l0_2 x12_3).f1), .int .i64 ((rd_T51 l0_2 x12_3).f2), .int .i64 ((rd_T51 l0_2 x12_3).f3), .int .i64 ((rd_T51 l0_2 x12_3).f4)]] (by rfl) rfl rfl (by (try simp only [List.map_toArray, List.map_cons, List.map_nil]); first | done | rfl | (simp only [List.length_drop, List.length_take]; rfl)) ?_
                with_reducible refine (bytes_Byte.calls ((rd_T51 l0_2 x12_3).f0) ((rd_T51 l0_2 x12_3).f1) ((rd_T51 l0_2 x12_3).f2) ((rd_T51 l0_2 x12_3).f3) ((rd_T51 l0_2 x12_3).f4) t339 _ A80.out).mono ?_
                rintro e w88 ⟨rfl, hb⟩
                refine ⟨_, rfl, ?_⟩
                have n0_ := Aside0.mk (blk_below (g := gb303) (o := .cells #[.slice A0_0 l0_0.length c0_0, .slice A0_1 l0_1.length c0_1, .slice (some ad338) l0_2.length c0_2] 26 (0, 0)) (zb BK303.out) hb)
                have n1_ := Aside0.mk (below_step (zw1 HB.out GE303.out) hb)
                clear BK303
                clear HB
                have BK303 := n0_
                have HB := n1_
                clear n0_ n1_
                (try clear hb)
                (try clear hb2)
                (try clear hk)
                (try clear hi)
                refine hK.out _ _ ⟨(blk_cell BK303.out 0).trans rfl, (blk_cell BK303.out 1).trans rfl, (blk_cell BK303.out 2).trans rfl, ((HB.out.cell (World.block_lt_of_cell? w _ hw338_0)).trans hw338_0), ((HB.out.cell (World.block_lt_of_cell? w _ hw338_1)).trans hw338_1), ((HB.out.cell (World.block_lt_of_cell? w _ hw338_2)).trans hw338_2), ((HB.out.cell (World.block_lt_of_cell? w _ hw338_3)).trans hw338_3), ((HB.out.cell (World.block_lt_of_cell? w _ hw338_4)).trans hw338_4), ((HB.out.cell (World.block_lt_of_cell? w _ hw341_0)).trans hw341_0), ((HB.out.cell (World.block_lt_of_cell? w _ hw341_1)).trans hw341_1), ((HB.out.cell (World.block_lt_of_cell? w _ hw341_2)).trans hw341_2), ((HB.out.cell (World.block_lt_of_cell? w _ hw341_3)).trans hw341_3), ((HB.out.cell (World.block_lt_of_cell? w _ hw341_4)).trans hw341_4)⟩ (fun hHeld => ?_)
                clear hK K
                refine norm_ (a' := ?_) ?_ ?_
                rotate_left
                ·show Act.put _ (some 127) _ = _
                 simp only [Act.put, List.setIfInBounds_toArray, List.set_cons_zero, List.set_cons_succ, i64_w, i32_w]
                 rfl
                refine one_ (i := 6) (N := some 128) #[true,true,true,true,true,true,true,false,true,true,true,true,true,false,false] rfl rfl (one_of HT_.out (by kernel_rfl)) (by decide) (fun K hK => ?_)
                refine goes_ Try.func23 (by kernel_rfl) rfl #[.int .i64 t339] (by rfl) rfl rfl (by (try simp only [List.map_toArray, List.map_cons, List.map_nil]); first | done | rfl | (simp only [List.length_drop, List.length_take]; rfl)) ?_
                with_reducible refine (cellarlaw8_num.calls t339 t340 _ A81.out).mono ?_
                rintro e w' ⟨rfl, ⟨nd, rfl⟩⟩
                refine ⟨_, rfl, ?_⟩
                refine hK.out _ _ ⟨(blk_cell BK303.out 0).trans rfl, (blk_cell BK303.out 1).trans rfl, (blk_cell BK303.out 2).trans rfl, ((HB.out.cell (World.block_lt_of_cell? w _ hw338_0)).trans hw338_0), ((HB.out.cell (World.block_lt_of_cell? w _ hw338_1)).trans hw338_1), ((HB.out.cell (World.block_lt_of_cell? w _ hw338_2)).trans hw338_2), ((HB.out.cell (World.block_lt_of_cell? w _ hw338_3)).trans hw338_3), ((HB.out.cell (World.block_lt_of_cell? w _ hw338_4)).trans hw338_4), ((HB.out.cell (World.block_lt_of_cell? w _ hw341_0)).trans hw341_0), ((HB.out.cell (World.block_lt_of_cell? w _ hw341_1)).trans hw341_1), ((HB.out.cell (World.block_lt_of_cell? w _ hw341_2)).trans hw341_2), ((HB.out.cell (World.block_lt_of_cell? w _ hw341_3)).trans hw341_3), ((HB.out.cell (World.block_lt_of_cell? w _ hw341_4)).trans hw341_4)⟩ (fun hHeld => ?_)
                clear hK K
                refine norm_ (a' := ?_) ?_ ?_
                rotate_left
                ·show Act.put _ (some 128) _ = _
                 simp only [Act.put, List.setIfInBounds_toArray, List.set_cons_zero, List.set_cons_succ, i64_w, i32_w]
                 rfl
                refine pure_ (i := 7) (N := some 129) (v := ?_) (a' := ?_) #[true,true,true,true,true,true,true,true,true,true,true,true,true,false,false] rfl rfl (any_of HT_.out (by kernel_rfl)) (fun _ _ _ h => h) (Or.inl ⟨by rfl, ?_⟩) ?_ ?_
                rotate_left
                ·intro w'
                 go_simp
                 with_reducible rfl
                rotate_left
                ·simp only [Act.put, List.setIfInBounds_toArray, List.set_cons_zero, List.set_cons_succ, i64_w, i32_w]
                 rfl
                refine one_ (i := 13) (N := some 135) #[true,true,true,true,true,true,true,true,true,true,true,true,true,true,false] rfl rfl (one_of HT_.out (by kernel_rfl)) (by decide) (fun K hK => ?_)
                refine goes_ Try.func33 (by kernel_rfl) rfl #[.agg #[.int .i64 ((rd_T51 l0_2 x12_3).f0), .int .i64 ((rd_T51 l0_2 x12_3).f1), .int .i64 ((rd_T51 l0_2 x12_3).f2), .int .i64 ((rd_T51 l0_2 x12_3).f3), .int .i64 ((rd_T51 l0_2 x12_3).f4)]] (by rfl) rfl rfl (by (try simp only [List.map_toArray, List.map_cons, List.map_nil]); first | done | rfl | (simp only [List.length_drop, List.length_take]; rfl)) ?_
                with_reducible refine (cellarref7_Byte.calls ((rd_T51 l0_2 x12_3).f0) ((rd_T51 l0_2 x12_3).f1) ((rd_T51 l0_2 x12_3).f2) ((rd_T51 l0_2 x12_3).f3) ((rd_T51 l0_2 x12_3).f4) t342 _ A82.out).mono ?_
                rintro e w89 ⟨rfl, hb⟩
                refine ⟨_, rfl, ?_⟩
                have n0_ := Aside0.mk (blk_below (g := gb303) (o := .cells #[.slice A0_0 l0_0.length c0_0, .slice A0_1 l0_1.length c0_1, .slice (some ad338) l0_2.length c0_2] 26 (0, 0)) (zb BK303.out) hb)
                have n1_ := Aside0.mk (below_step (zw1 HB.out GE303.out) hb)
                clear BK303
                clear HB
                have BK303 := n0_
                have HB := n1_
                clear n0_ n1_
                (try clear hb)
                (try clear hb2)
                (try clear hk)
                (try clear hi)
                refine hK.out _ _ ⟨(blk_cell BK303.out 0).trans rfl, (blk_cell BK303.out 1).trans rfl, (blk_cell BK303.out 2).trans rfl, ((HB.out.cell (World.block_lt_of_cell? w _ hw338_0)).trans hw338_0), ((HB.out.cell (World.block_lt_of_cell? w _ hw338_1)).trans hw338_1), ((HB.out.cell (World.block_lt_of_cell? w _ hw338_2)).trans hw338_2), ((HB.out.cell (World.block_lt_of_cell? w _ hw338_3)).trans hw338_3), ((HB.out.cell (World.block_lt_of_cell? w _ hw338_4)).trans hw338_4), ((HB.out.cell (World.block_lt_of_cell? w _ hw341_0)).trans hw341_0), ((HB.out.cell (World.block_lt_of_cell? w _ hw341_1)).trans hw341_1), ((HB.out.cell (World.block_lt_of_cell? w _ hw341_2)).trans hw341_2), ((HB.out.cell (World.block_lt_of_cell? w _ hw341_3)).trans hw341_3), ((HB.out.cell (World.block_lt_of_cell? w _ hw341_4)).trans hw341_4)⟩ (fun hHeld => ?_)
                clear hK K
                refine norm_ (a' := ?_) ?_ ?_
                rotate_left
                ·show Act.put _ (some 135) _ = _
                 simp only [Act.put, List.setIfInBounds_toArray, List.set_cons_zero, List.set_cons_succ, i64_w, i32_w]
                 rfl
                refine pure_ (i := 14) (N := some 136) (v := ?_) (a' := ?_) #[true,true,true,true,true,true,true,true,true,true,true,true,true,true,true] rfl rfl (any_of HT_.out (by kernel_rfl)) (fun _ _ _ h => h) (Or.inl ⟨by rfl, ?_⟩) ?_ ?_
                rotate_left
                ·intro w'
                 go_simp
                 with_reducible rfl
                rotate_left
                ·simp only [Act.put, List.setIfInBounds_toArray, List.set_cons_zero, List.set_cons_succ, i64_w, i32_w]
                 rfl
                refine done_ (done_of HT_.out (by kernel_rfl)) ?_
                try go_wp2
                go_roundg kj72
                case measure => have := HK1.out; have := HJ17.out; have := HK3.out; have := HJ72.out; omega
                case rel => exact ⟨(wrap64 (x12_3 + 1)), (by first | rfl | (simp; done) | (simp [*]; done)), H', ⟨by have := HK1.out; have := HJ17.out; have := HK3.out; have := HJ72.out; omega⟩, ⟨zb BK303.out⟩, ⟨zw1 HB.out GE303.out⟩⟩
              ·rw [if_neg c79] at H
               exact absurd H (by simp)
             ·rw [if_neg c78] at H
              exact absurd H (by simp)
            ·replace c77 := Bool.eq_false_iff.mpr c77
             subst c77
             have H1 : ((cellarlaw8_wakes.f kj72).bind fun t337 => (some t337)) = some r := by rw [if_neg (show ¬ (false = true) by decide)] at H; exact H
             clear H
             have H := H1
             clear H1
             replace H := Option.bind_eq_some_iff.mp H
             obtain ⟨t337, A900, H⟩ := H
             replace H : (some t337) = some r := H
             have A90 := Aside0.mk A900
             clear A900
             obtain rfl := Option.some.inj H
             go_wp2_with (first | ((with_reducible refine gate_callee (f := 25) rfl ?_); refine goesL_ (some 137) rfl rfl Try.func25 (by kernel_rfl) rfl #[] rfl (by (try simp only [List.map_toArray, List.map_cons, List.map_nil]); first | done | rfl | (simp only [List.length_drop, List.length_take]; rfl)) ?_; (with_reducible refine (cellarlaw8_wakes.calls kj72  t337 _ A90.out).mono ?_); rintro e w91 ⟨rfl, hb⟩; refine ⟨_, rfl, ?_⟩; have n0_ := Aside0.mk (blk_below (g := gb303) (o := .cells #[.slice A0_0 l0_0.length c0_0, .slice A0_1 l0_1.length c0_1, .slice A0_2 l0_2.length c0_2] 26 (0, 0)) (zb BK303.out) hb); have n1_ := Aside0.mk (below_step (zw1 HB.out GE303.out) hb); clear BK303; clear HB; have BK303 := n0_; have HB := n1_; clear n0_ n1_; (try clear hb); (try clear hb2); (try clear hk); (try clear hi)))
             go_ret
             exact ⟨by first | rfl | (simp [errW_none, errW_some] <;> rfl) | (simp [*, errW_none, errW_some] <;> rfl), zw1 HB.out GE303.out⟩
  ·rw [if_neg c8] at H
   exact absurd H (by simp)

end Go.Proofs.Ythhdmanpjeminaa.C
