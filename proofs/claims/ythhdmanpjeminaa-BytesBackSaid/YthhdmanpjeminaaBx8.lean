-- Written by this session's own edition of the print.
import Derived.Test.YthhdmanpjeminaaBx0
import Derived.Test.YthhdmanpjeminaaBx1
import Derived.Test.YthhdmanpjeminaaBx2
import Derived.Test.YthhdmanpjeminaaBx3
import Derived.Test.YthhdmanpjeminaaBx5
import Derived.Test.YthhdmanpjeminaaBx6
import Derived.Test.YthhdmanpjeminaaBx7
import Derived.Test.YthhdmanpjeminaaUSq
import Derived.Test.YthhdmanpjeminaaUSq2
import Derived.Test.YthhdmanpjeminaaUSq3
namespace Go.Proofs.Ythhdmanpjeminaa.B
open Go.RowKit Go.Proofs.Ythhdmanpjeminaa.Fn Go.Proofs.YthhdmanpjeminaaW.PrintWords Go.Proofs.YthhdmanpjeminaaW.PrintLast Go.Proofs.YthhdmanpjeminaaW.PrintMore
attribute [local go_sem] max2_int min2_int max_two min_two max_three min_three max_four min_four   -- for this text's walks alone
set_option linter.unusedVariables false
set_option linter.unusedSimpArgs false

attribute [local go_sem high] eqA33 eqA51
/-! cellarlaw8_BytesBack -/
mutual
def cellarlaw8_BytesBack.l0 : Nat → Int → List (S38) → List (S33) → List (S51) → Option (Bool)
 | 0, _, _, _, _ => none
 | k + 1, x3, x184000, x184001, x184002 => if x3 < (x184001.length : Int) then (cellarlaw8_BytesBack.j1 k x3 (decide (x3 < 10)) x184000 x184001 x184002) else (cellarlaw8_BytesBack.j1 k x3 false x184000 x184001 x184002)
def cellarlaw8_BytesBack.j1 : Nat → Int → Bool → List (S38) → List (S33) → List (S51) → Option (Bool)
 | 0, _, _, _, _, _ => none
 | k + 1, x3, x29, x184000, x184001, x184002 => if x29 = true then (cellarlaw8_BytesBack.l1 k x3 1 x184000 x184001 x184002) else ((cellarlaw8_wakes.f k).bind fun t228 => (some t228))
def cellarlaw8_BytesBack.l1 : Nat → Int → Int → List (S38) → List (S33) → List (S51) → Option (Bool)
 | 0, _, _, _, _, _ => none
 | k + 1, x3, x4, x184000, x184001, x184002 => if x4 ≤ 7 then (cellarlaw8_BytesBack.l2 k x3 x4 2 x184000 x184001 x184002) else (cellarlaw8_BytesBack.l0 k (wrap64 (x3 + 1)) x184000 x184001 x184002)
def cellarlaw8_BytesBack.l2 : Nat → Int → Int → Int → List (S38) → List (S33) → List (S51) → Option (Bool)
 | 0, _, _, _, _, _, _ => none
 | k + 1, x3, x4, x5, x184000, x184001, x184002 => if x5 ≤ 4 then (if 0 ≤ x3 then (if x3 < (x184001.length : Int) then ((bytes_Put.f k false x5 x4 ((rd_T33 x184001 x3).f0) ((rd_T33 x184001 x3).f1) ((rd_T33 x184001 x3).f2) ((rd_T33 x184001 x3).f3)).bind fun bt188 => ((bytes_Put.f k true x5 x4 ((rd_T33 x184001 x3).f0) ((rd_T33 x184001 x3).f1) ((rd_T33 x184001 x3).f2) ((rd_T33 x184001 x3).f3)).bind fun bt193 => ((cellarlaw8_num.f bt188.2).bind fun t197 => ((cellarlaw8_num.f bt193.2).bind fun t198 => (if t197 = t198 then ((cellarlaw8_num.f bt188.2).bind fun t199 => (if t199 = 0 then ((bytes_Get.f k false x5 x4 bt188.1).bind fun bt200 => ((bytes_Get.f k true x5 x4 bt193.1).bind fun bt207 => ((cellarlaw8_num.f bt200.2.2.2.2.2).bind fun t214 => (if t214 = 0 then ((cellarlaw8_num.f bt207.2.2.2.2.2).bind fun t215 => (if t215 = 0 then (if bt200.2.2.2.2.1 = 0 then (if bt207.2.2.2.2.1 = 0 then (if (!(bt200.1 == ((rd_T33 x184001 x3).f0)) || (!(bt200.2.1 == ((rd_T33 x184001 x3).f1)) || (!(bt200.2.2.1 == ((rd_T33 x184001 x3).f2)) || (!(bt200.2.2.2.1 == ((rd_T33 x184001 x3).f3)))))) = true then (cellarlaw8_BytesBack.j4 k x3 x4 x5 bt188.1 bt193.1 true x184000 x184001 x184002 false x5) else (if (!(bt207.1 == ((rd_T33 x184001 x3).f0)) || (!(bt207.2.1 == ((rd_T33 x184001 x3).f1)) || (!(bt207.2.2.1 == ((rd_T33 x184001 x3).f2)) || (!(bt207.2.2.2.1 == ((rd_T33 x184001 x3).f3)))))) = true then (cellarlaw8_BytesBack.j4 k x3 x4 x5 bt188.1 bt193.1 true x184000 x184001 x184002 false x5) else (if (bt188.1.length : Int) = (bt193.1.length : Int) then (cellarlaw8_BytesBack.j4 k x3 x4 x5 bt188.1 bt193.1 ((bt188.1.length : Int) == 0) x184000 x184001 x184002 false x5) else (cellarlaw8_BytesBack.j4 k x3 x4 x5 bt188.1 bt193.1 true x184000 x184001 x184002 false x5)))) else (cellarlaw8_BytesBack.j4 k x3 x4 x5 bt188.1 bt193.1 true x184000 x184001 x184002 false x5)) else (cellarlaw8_BytesBack.j4 k x3 x4 x5 bt188.1 bt193.1 true x184000 x184001 x184002 false x5)) else (cellarlaw8_BytesBack.j4 k x3 x4 x5 bt188.1 bt193.1 true x184000 x184001 x184002 false x5))) else (cellarlaw8_BytesBack.j4 k x3 x4 x5 bt188.1 bt193.1 true x184000 x184001 x184002 false x5))))) else (cellarlaw8_BytesBack.j7 k x3 x4 x5 x184000 x184001 x184002))) else (some false)))))) else (none)) else (none)) else (cellarlaw8_BytesBack.l1 k x3 (wrap64 (x4 + 1)) x184000 x184001 x184002)
def cellarlaw8_BytesBack.j7 : Nat → Int → Int → Int → List (S38) → List (S33) → List (S51) → Option (Bool)
 | 0, _, _, _, _, _, _ => none
 | k + 1, x3, x4, x5, x184000, x184001, x184002 => cellarlaw8_BytesBack.l2 k x3 x4 (wrap64 (x5 + 2)) x184000 x184001 x184002
def cellarlaw8_BytesBack.j4 : Nat → Int → Int → Int → List (S51) → List (S51) → Bool → List (S38) → List (S33) → List (S51) → Bool → Int → Option (Bool)
 | 0, _, _, _, _, _, _, _, _, _, _, _ => none
 | k + 1, x3, x4, x5, x8, x10, x135, x184000, x184001, x184002, x186000, x186001 => if x135 = true then (some false) else (cellarlaw8_BytesBack.l3 k x3 x4 x5 x8 x10 0 x184000 x184001 x184002 x186000 x186001)
def cellarlaw8_BytesBack.l3 : Nat → Int → Int → Int → List (S51) → List (S51) → Int → List (S38) → List (S33) → List (S51) → Bool → Int → Option (Bool)
 | 0, _, _, _, _, _, _, _, _, _, _, _ => none
 | k + 1, x3, x4, x5, x8, x10, x18, x184000, x184001, x184002, x186000, x186001 => if x18 < (x8.length : Int) then (if x4 = 7 then (cellarlaw8_BytesBack.j6 k x3 x4 x5 x8 x10 x18 x184000 x184001 x184002 x186000 x186001) else (if 0 ≤ x18 then (if 0 ≤ (wrap64 ((wrap64 ((x10.length : Int) - 1)) - x18)) then (if (wrap64 ((wrap64 ((x10.length : Int) - 1)) - x18)) < (x10.length : Int) then (if (!(((rd_T51 x8 x18).f0) == ((rd_T51 x10 (wrap64 ((wrap64 ((x10.length : Int) - 1)) - x18))).f0)) || (!(((rd_T51 x8 x18).f1) == ((rd_T51 x10 (wrap64 ((wrap64 ((x10.length : Int) - 1)) - x18))).f1)) || (!(((rd_T51 x8 x18).f2) == ((rd_T51 x10 (wrap64 ((wrap64 ((x10.length : Int) - 1)) - x18))).f2)) || (!(((rd_T51 x8 x18).f3) == ((rd_T51 x10 (wrap64 ((wrap64 ((x10.length : Int) - 1)) - x18))).f3)) || (!(((rd_T51 x8 x18).f4) == ((rd_T51 x10 (wrap64 ((wrap64 ((x10.length : Int) - 1)) - x18))).f4))))))) = true then (some false) else (cellarlaw8_BytesBack.j6 k x3 x4 x5 x8 x10 x18 x184000 x184001 x184002 x186000 x186001)) else (none)) else (none)) else (none))) else (if (x8.length : Int) = 0 then (none) else (if 0 ≤ (Int.tmod x3 (x8.length : Int)) then (if (Int.tmod x3 (x8.length : Int)) < (x8.length : Int) then ((bytes_Get.f k x186000 x186001 x4 (x8.set ((Int.tmod x3 (x8.length : Int)) : Int).toNat (⟨0, 0, 0, 0, 0⟩ : S51))).bind fun bt221 => ((cellarlaw8_num.f bt221.2.2.2.2.2).bind fun t227 => (if t227 = 0 then (if bt221.2.2.2.2.1 = 7 then (cellarlaw8_BytesBack.j7 k x3 x4 x5 x184000 x184001 x184002) else (some false)) else (some false)))) else (none)) else (none)))
def cellarlaw8_BytesBack.j6 : Nat → Int → Int → Int → List (S51) → List (S51) → Int → List (S38) → List (S33) → List (S51) → Bool → Int → Option (Bool)
 | 0, _, _, _, _, _, _, _, _, _, _, _ => none
 | k + 1, x3, x4, x5, x8, x10, x18, x184000, x184001, x184002, x186000, x186001 => cellarlaw8_BytesBack.l3 k x3 x4 x5 x8 x10 (wrap64 (x18 + 1)) x184000 x184001 x184002 x186000 x186001
end
def cellarlaw8_BytesBack.f (k : Nat) (l0_0 : List (S38)) (l0_1 : List (S33)) (l0_2 : List (S51)) : Option (Bool) := (cellarlaw8_Heavy.f l0_0 l0_1 l0_2).bind fun t184 => (if t184 = true then (some true) else (cellarlaw8_BytesBack.l0 k 0 l0_0 l0_1 l0_2))
theorem cellarlaw8_BytesBack.mono_l : ∀ k, (∀ y0 y1 y2 y3, LeO (cellarlaw8_BytesBack.l0 k y0 y1 y2 y3) (cellarlaw8_BytesBack.l0 (k + 1) y0 y1 y2 y3)) ∧ (∀ y0 y1 y2 y3 y4, LeO (cellarlaw8_BytesBack.j1 k y0 y1 y2 y3 y4) (cellarlaw8_BytesBack.j1 (k + 1) y0 y1 y2 y3 y4)) ∧ (∀ y0 y1 y2 y3 y4, LeO (cellarlaw8_BytesBack.l1 k y0 y1 y2 y3 y4) (cellarlaw8_BytesBack.l1 (k + 1) y0 y1 y2 y3 y4)) ∧ (∀ y0 y1 y2 y3 y4 y5, LeO (cellarlaw8_BytesBack.l2 k y0 y1 y2 y3 y4 y5) (cellarlaw8_BytesBack.l2 (k + 1) y0 y1 y2 y3 y4 y5)) ∧ (∀ y0 y1 y2 y3 y4 y5, LeO (cellarlaw8_BytesBack.j7 k y0 y1 y2 y3 y4 y5) (cellarlaw8_BytesBack.j7 (k + 1) y0 y1 y2 y3 y4 y5)) ∧ (∀ y0 y1 y2 y3 y4 y5 y6 y7 y8 y9 y10, LeO (cellarlaw8_BytesBack.j4 k y0 y1 y2 y3 y4 y5 y6 y7 y8 y9 y10) (cellarlaw8_BytesBack.j4 (k + 1) y0 y1 y2 y3 y4 y5 y6 y7 y8 y9 y10)) ∧ (∀ y0 y1 y2 y3 y4 y5 y6 y7 y8 y9 y10, LeO (cellarlaw8_BytesBack.l3 k y0 y1 y2 y3 y4 y5 y6 y7 y8 y9 y10) (cellarlaw8_BytesBack.l3 (k + 1) y0 y1 y2 y3 y4 y5 y6 y7 y8 y9 y10)) ∧ (∀ y0 y1 y2 y3 y4 y5 y6 y7 y8 y9 y10, LeO (cellarlaw8_BytesBack.j6 k y0 y1 y2 y3 y4 y5 y6 y7 y8 y9 y10) (cellarlaw8_BytesBack.j6 (k + 1) y0 y1 y2 y3 y4 y5 y6 y7 y8 y9 y10))
 | 0 => ⟨fun _ _ _ _ r h => by simp [cellarlaw8_BytesBack.l0] at h, fun _ _ _ _ _ r h => by simp [cellarlaw8_BytesBack.j1] at h, fun _ _ _ _ _ r h => by simp [cellarlaw8_BytesBack.l1] at h, fun _ _ _ _ _ _ r h => by simp [cellarlaw8_BytesBack.l2] at h, fun _ _ _ _ _ _ r h => by simp [cellarlaw8_BytesBack.j7] at h, fun _ _ _ _ _ _ _ _ _ _ _ r h => by simp [cellarlaw8_BytesBack.j4] at h, fun _ _ _ _ _ _ _ _ _ _ _ r h => by simp [cellarlaw8_BytesBack.l3] at h, fun _ _ _ _ _ _ _ _ _ _ _ r h => by simp [cellarlaw8_BytesBack.j6] at h⟩
 | k + 1 => by
  obtain ⟨ih0, ih1, ih2, ih3, ih4, ih5, ih6, ih7⟩ := cellarlaw8_BytesBack.mono_l k
  refine ⟨?_, ?_, ?_, ?_, ?_, ?_, ?_, ?_⟩
  ·intro y0 y1 y2 y3
   unfold cellarlaw8_BytesBack.l0
   repeat' first
   | (with_reducible apply ih0)
   | (with_reducible apply ih1)
   | (with_reducible apply ih2)
   | (with_reducible apply ih3)
   | (with_reducible apply ih4)
   | (with_reducible apply ih5)
   | (with_reducible apply ih6)
   | (with_reducible apply ih7)
   | (with_reducible apply bytes_Get.mono)
   | (with_reducible apply bytes_Put.mono)
   | (with_reducible apply cellarlaw8_wakes.mono)
   | (with_reducible apply LeO.refl)
   | (with_reducible apply LeO.none)
   | (with_reducible refine LeO.ite ?_ ?_)
   | (with_reducible refine LeO.bind ?_ (fun _ => ?_))
  ·intro y0 y1 y2 y3 y4
   unfold cellarlaw8_BytesBack.j1
   repeat' first
   | (with_reducible apply ih0)
   | (with_reducible apply ih1)
   | (with_reducible apply ih2)
   | (with_reducible apply ih3)
   | (with_reducible apply ih4)
   | (with_reducible apply ih5)
   | (with_reducible apply ih6)
   | (with_reducible apply ih7)
   | (with_reducible apply bytes_Get.mono)
   | (with_reducible apply bytes_Put.mono)
   | (with_reducible apply cellarlaw8_wakes.mono)
   | (with_reducible apply LeO.refl)
   | (with_reducible apply LeO.none)
   | (with_reducible refine LeO.ite ?_ ?_)
   | (with_reducible refine LeO.bind ?_ (fun _ => ?_))
  ·intro y0 y1 y2 y3 y4
   unfold cellarlaw8_BytesBack.l1
   repeat' first
   | (with_reducible apply ih0)
   | (with_reducible apply ih1)
   | (with_reducible apply ih2)
   | (with_reducible apply ih3)
   | (with_reducible apply ih4)
   | (with_reducible apply ih5)
   | (with_reducible apply ih6)
   | (with_reducible apply ih7)
   | (with_reducible apply bytes_Get.mono)
   | (with_reducible apply bytes_Put.mono)
   | (with_reducible apply cellarlaw8_wakes.mono)
   | (with_reducible apply LeO.refl)
   | (with_reducible apply LeO.none)
   | (with_reducible refine LeO.ite ?_ ?_)
   | (with_reducible refine LeO.bind ?_ (fun _ => ?_))
  ·intro y0 y1 y2 y3 y4 y5
   unfold cellarlaw8_BytesBack.l2
   repeat' first
   | (with_reducible apply ih0)
   | (with_reducible apply ih1)
   | (with_reducible apply ih2)
   | (with_reducible apply ih3)
   | (with_reducible apply ih4)
   | (with_reducible apply ih5)
   | (with_reducible apply ih6)
   | (with_reducible apply ih7)
   | (with_reducible apply bytes_Get.mono)
   | (with_reducible apply bytes_Put.mono)
   | (with_reducible apply cellarlaw8_wakes.mono)
   | (with_reducible apply LeO.refl)
   | (with_reducible apply LeO.none)
   | (with_reducible refine LeO.ite ?_ ?_)
   | (with_reducible refine LeO.bind ?_ (fun _ => ?_))
  ·intro y0 y1 y2 y3 y4 y5
   unfold cellarlaw8_BytesBack.j7
   repeat' first
   | (with_reducible apply ih0)
   | (with_reducible apply ih1)
   | (with_reducible apply ih2)
   | (with_reducible apply ih3)
   | (with_reducible apply ih4)
   | (with_reducible apply ih5)
   | (with_reducible apply ih6)
   | (with_reducible apply ih7)
   | (with_reducible apply bytes_Get.mono)
   | (with_reducible apply bytes_Put.mono)
   | (with_reducible apply cellarlaw8_wakes.mono)
   | (with_reducible apply LeO.refl)
   | (with_reducible apply LeO.none)
   | (with_reducible refine LeO.ite ?_ ?_)
   | (with_reducible refine LeO.bind ?_ (fun _ => ?_))
  ·intro y0 y1 y2 y3 y4 y5 y6 y7 y8 y9 y10
   unfold cellarlaw8_BytesBack.j4
   repeat' first
   | (with_reducible apply ih0)
   | (with_reducible apply ih1)
   | (with_reducible apply ih2)
   | (with_reducible apply ih3)
   | (with_reducible apply ih4)
   | (with_reducible apply ih5)
   | (with_reducible apply ih6)
   | (with_reducible apply ih7)
   | (with_reducible apply bytes_Get.mono)
   | (with_reducible apply bytes_Put.mono)
   | (with_reducible apply cellarlaw8_wakes.mono)
   | (with_reducible apply LeO.refl)
   | (with_reducible apply LeO.none)
   | (with_reducible refine LeO.ite ?_ ?_)
   | (with_reducible refine LeO.bind ?_ (fun _ => ?_))
  ·intro y0 y1 y2 y3 y4 y5 y6 y7 y8 y9 y10
   unfold cellarlaw8_BytesBack.l3
   repeat' first
   | (with_reducible apply ih0)
   | (with_reducible apply ih1)
   | (with_reducible apply ih2)
   | (with_reducible apply ih3)
   | (with_reducible apply ih4)
   | (with_reducible apply ih5)
   | (with_reducible apply ih6)
   | (with_reducible apply ih7)
   | (with_reducible apply bytes_Get.mono)
   | (with_reducible apply bytes_Put.mono)
   | (with_reducible apply cellarlaw8_wakes.mono)
   | (with_reducible apply LeO.refl)
   | (with_reducible apply LeO.none)
   | (with_reducible refine LeO.ite ?_ ?_)
   | (with_reducible refine LeO.bind ?_ (fun _ => ?_))
  ·intro y0 y1 y2 y3 y4 y5 y6 y7 y8 y9 y10
   unfold cellarlaw8_BytesBack.j6
   repeat' first
   | (with_reducible apply ih0)
   | (with_reducible apply ih1)
   | (with_reducible apply ih2)
   | (with_reducible apply ih3)
   | (with_reducible apply ih4)
   | (with_reducible apply ih5)
   | (with_reducible apply ih6)
   | (with_reducible apply ih7)
   | (with_reducible apply bytes_Get.mono)
   | (with_reducible apply bytes_Put.mono)
   | (with_reducible apply cellarlaw8_wakes.mono)
   | (with_reducible apply LeO.refl)
   | (with_reducible apply LeO.none)
   | (with_reducible refine LeO.ite ?_ ?_)
   | (with_reducible refine LeO.bind ?_ (fun _ => ?_))
theorem cellarlaw8_BytesBack.mono : ∀ a0 a1 a2 k, LeO (cellarlaw8_BytesBack.f k a0 a1 a2) (cellarlaw8_BytesBack.f (k + 1) a0 a1 a2) := by
 intro a0 a1 a2 k
 obtain ⟨ih0, ih1, ih2, ih3, ih4, ih5, ih6, ih7⟩ := cellarlaw8_BytesBack.mono_l k
 unfold cellarlaw8_BytesBack.f
 repeat' first
   | (with_reducible apply ih0)
   | (with_reducible apply ih1)
   | (with_reducible apply ih2)
   | (with_reducible apply ih3)
   | (with_reducible apply ih4)
   | (with_reducible apply ih5)
   | (with_reducible apply ih6)
   | (with_reducible apply ih7)
   | (with_reducible apply bytes_Get.mono)
   | (with_reducible apply bytes_Put.mono)
   | (with_reducible apply cellarlaw8_wakes.mono)
   | (with_reducible apply LeO.refl)
   | (with_reducible apply LeO.none)
   | (with_reducible refine LeO.ite ?_ ?_)
   | (with_reducible refine LeO.bind ?_ (fun _ => ?_))
def cellarlaw8_BytesBack.T13 : Bool × List (List Nat × List Nat) := (true, [([], []), ([], []), ([], []), ([2], [2]), ([], []), ([3, 4], [3, 4]), ([5], [5]), ([0, 1, 6], [0, 1, 6]), ([7], [7]), ([8], [8]), ([8], [8]), ([9, 7, 0, 1, 2, 3, 4, 5, 6, 7, 8, 9], [9]), ([10, 11, 0, 1, 2, 3, 4, 5, 6, 7, 8, 9, 10, 11], [10])])
def cellarlaw8_BytesBack.B13 : List Nat := [0, 0, 0, 4, 0, 28, 60, 127, 255, 511, 511, 1023, 4095]
theorem cellarlaw8_BytesBack.tab13 : rtab .any (opsOf Try.f4 13) = cellarlaw8_BytesBack.T13 := by kernel_rfl
theorem cellarlaw8_BytesBack.bits13 : waitsOk cellarlaw8_BytesBack.T13.2 cellarlaw8_BytesBack.B13 = true := by kernel_rfl
def cellarlaw8_BytesBack.T14 : Bool × List (List Nat × List Nat) := (true, [([], []), ([], []), ([], []), ([2], [2]), ([], []), ([3, 4], [3, 4]), ([5], [5]), ([0, 1, 6], [0, 1, 6]), ([7], [7]), ([8], [8]), ([8], [8]), ([9, 7, 0, 1, 2, 3, 4, 5, 6, 7, 8, 9], [9]), ([10, 11, 0, 1, 2, 3, 4, 5, 6, 7, 8, 9, 10, 11], [10])])
def cellarlaw8_BytesBack.B14 : List Nat := [0, 0, 0, 4, 0, 28, 60, 127, 255, 511, 511, 1023, 4095]
theorem cellarlaw8_BytesBack.tab14 : rtab .any (opsOf Try.f4 14) = cellarlaw8_BytesBack.T14 := by kernel_rfl
theorem cellarlaw8_BytesBack.bits14 : waitsOk cellarlaw8_BytesBack.T14.2 cellarlaw8_BytesBack.B14 = true := by kernel_rfl
def cellarlaw8_BytesBack.T20 : Bool × List (List Nat × List Nat) := (true, [([], []), ([0], [0]), ([1], [1]), ([2, 1], [2]), ([3], [3]), ([4, 3, 3], [3, 4]), ([5, 3], [3, 5]), ([3, 6], [3, 6]), ([7, 5], [7]), ([8], [8]), ([9, 8], [8, 9]), ([8, 10], [8, 10]), ([11, 8], [11]), ([12], [12]), ([13, 12], [12, 13]), ([12, 14], [12, 14]), ([15, 12], [15]), ([16], [16]), ([16], [16]), ([18, 16], [16, 18]), ([16], [16]), ([19, 20, 16], [16, 19, 20]), ([21, 16], [16, 21]), ([17, 22, 16], [16, 17, 22]), ([16, 23], [16, 23]), ([24, 16], [24]), ([25], [25]), ([25], [25]), ([27, 25], [25, 27]), ([25], [25]), ([28, 29, 25], [25, 28, 29]), ([30, 25], [25, 30]), ([26, 31, 25], [25, 26, 31]), ([25, 32], [25, 32]), ([33, 25], [33]), ([34], [34]), ([35, 34], [34, 35]), ([34], [34]), ([37, 34], [34, 37]), ([36, 38, 34], [34, 36, 38]), ([34, 39], [34, 39]), ([40, 34], [40]), ([41], [41]), ([42, 41], [41, 42]), ([43, 41], [41, 43]), ([41, 44], [41, 44])])
def cellarlaw8_BytesBack.B20 : List Nat := [0, 1, 3, 7, 15, 31, 63, 127, 255, 511, 1023, 2047, 4095, 8191, 16383, 32767, 65535, 131071, 131071, 393215, 131071, 1966079, 4063231, 8388607, 16777215, 33554431, 67108863, 67108863, 201326591, 67108863, 1006632959, 2080374783, 4294967295, 8589934591, 17179869183, 34359738367, 68719476735, 34359738367, 171798691839, 549755813887, 1099511627775, 2199023255551, 4398046511103, 8796093022207, 17592186044415, 35184372088831]
theorem cellarlaw8_BytesBack.tab20 : rtab .any (opsOf Try.f4 20) = cellarlaw8_BytesBack.T20 := by kernel_rfl
theorem cellarlaw8_BytesBack.bits20 : waitsOk cellarlaw8_BytesBack.T20.2 cellarlaw8_BytesBack.B20 = true := by kernel_rfl
def cellarlaw8_BytesBack.T25 : Bool × List (List Nat × List Nat) := (true, [([], []), ([0], [0]), ([1], [1]), ([2], [2]), ([2], [2]), ([3, 4, 2], [2, 3, 4]), ([5, 2], [2, 5]), ([2], [2]), ([2], [2]), ([8, 2], [2, 8]), ([9, 2], [2, 9]), ([2], [2]), ([10, 11, 2], [2, 10, 11]), ([7, 12, 2], [2, 7, 12]), ([13, 2], [2, 13]), ([6, 14, 2], [2, 6, 14]), ([2, 15], [2, 15])])
def cellarlaw8_BytesBack.B25 : List Nat := [0, 1, 3, 7, 7, 31, 63, 7, 7, 263, 775, 7, 3847, 8071, 16263, 32767, 65535]
theorem cellarlaw8_BytesBack.tab25 : rtab .any (opsOf Try.f4 25) = cellarlaw8_BytesBack.T25 := by kernel_rfl
theorem cellarlaw8_BytesBack.bits25 : waitsOk cellarlaw8_BytesBack.T25.2 cellarlaw8_BytesBack.B25 = true := by kernel_rfl
abbrev cellarlaw8_BytesBack.b0 : Array Bool := #[false,false,false,false,false,false,false,false,false,false,false,false,false]
abbrev cellarlaw8_BytesBack.b8 : Array Bool := #[true,true,true,true,true,true,true,true,false,false,false,false,false]
abbrev cellarlaw8_BytesBack.b14 : Array Bool := #[false,false,false,false,false,false,false,false,false,false,false,false,false,false,false,false,false,false,false,false,false,false,false,false,false,false,false,false,false,false,false,false,false,false,false,false,false,false,false,false,false,false,false,false,false,false]
abbrev cellarlaw8_BytesBack.b16 : Array Bool := #[true,true,false,false,false,false,false,false,false,false,false,false,false,false,false,false,false,false,false,false,false,false,false,false,false,false,false,false,false,false,false,false,false,false,false,false,false,false,false,false,false,false,false,false,false,false]
abbrev cellarlaw8_BytesBack.b20 : Array Bool := #[true,true,true,true,true,true,false,false,false,false,false,false,false,false,false,false,false,false,false,false,false,false,false,false,false,false,false,false,false,false,false,false,false,false,false,false,false,false,false,false,false,false,false,false,false,false]
abbrev cellarlaw8_BytesBack.b67 : Array Bool := #[false,false,false,false,false,false,false,false,false,false,false,false,false,false,false,false,false]
end Go.Proofs.Ythhdmanpjeminaa.B
