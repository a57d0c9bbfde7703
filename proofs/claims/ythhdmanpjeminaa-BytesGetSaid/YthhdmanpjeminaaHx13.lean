-- Written by this session's own edition of the print.
import Derived.Test.YthhdmanpjeminaaHx0
import Derived.Test.YthhdmanpjeminaaHx1
import Derived.Test.YthhdmanpjeminaaHx3
import Derived.Test.YthhdmanpjeminaaHx5
import Derived.Test.YthhdmanpjeminaaHx8
import Derived.Test.YthhdmanpjeminaaHx9
import Derived.Test.YthhdmanpjeminaaHx10
import Derived.Test.YthhdmanpjeminaaHx11
import Derived.Test.YthhdmanpjeminaaHx12
import Derived.Test.YthhdmanpjeminaaSq
import Derived.Test.YthhdmanpjeminaaSq2
namespace Go.Proofs.Ythhdmanpjeminaa.H
open Go.RowKit Go.Proofs.Ythhdmanpjeminaa.Fn Go.Proofs.YthhdmanpjeminaaW.PrintWords Go.Proofs.YthhdmanpjeminaaW.PrintLast Go.Proofs.YthhdmanpjeminaaW.PrintMore
attribute [local go_sem] max2_int min2_int max_two min_two max_three min_three max_four min_four   -- for this text's walks alone
set_option linter.unusedVariables false
set_option linter.unusedSimpArgs false

attribute [local go_sem high] eqA33
/-! cellarlaw8_BytesGet -/
mutual
def cellarlaw8_BytesGet.l0 : Nat → List (S38) → Int → List (S38) → List (S33) → List (S51) → Option (Bool)
 | 0, _, _, _, _, _ => none
 | k + 1, x3, x4, x288000, x288001, x288002 => if x4 ≤ 4 then ((cellarlaw8_rows.f k x288000 x288001 x288002 x4 x3).bind fun t293 => (cellarlaw8_BytesGet.l1 k x3 x4 t293 0 x288000 x288001 x288002)) else ((cellarlaw8_wakes.f k).bind fun t292 => (some t292))
def cellarlaw8_BytesGet.l1 : Nat → List (S38) → Int → List (List (S51)) → Int → List (S38) → List (S33) → List (S51) → Option (Bool)
 | 0, _, _, _, _, _, _, _ => none
 | k + 1, x3, x4, x5, x6, x288000, x288001, x288002 => if x6 < (x5.length : Int) then (cellarlaw8_BytesGet.j2 k x3 x4 x5 x6 (decide (x6 < 60)) x288000 x288001 x288002) else (cellarlaw8_BytesGet.j2 k x3 x4 x5 x6 false x288000 x288001 x288002)
def cellarlaw8_BytesGet.j2 : Nat → List (S38) → Int → List (List (S51)) → Int → Bool → List (S38) → List (S33) → List (S51) → Option (Bool)
 | 0, _, _, _, _, _, _, _, _ => none
 | k + 1, x3, x4, x5, x6, x36, x288000, x288001, x288002 => if x36 = true then (if 0 ≤ x6 then (if x6 < (x5.length : Int) then ((cellarref0_CopyBytes.f k (rd_L5 x5 x6)).bind fun t297 => (cellarlaw8_BytesGet.l2 k x3 x4 x5 x6 t297 0 x288000 x288001 x288002)) else (none)) else (none)) else (cellarlaw8_BytesGet.l0 k x3 (wrap64 (x4 * 2)) x288000 x288001 x288002)
def cellarlaw8_BytesGet.l2 : Nat → List (S38) → Int → List (List (S51)) → Int → List (S51) → Int → List (S38) → List (S33) → List (S51) → Option (Bool)
 | 0, _, _, _, _, _, _, _, _, _ => none
 | k + 1, x3, x4, x5, x6, x7, x8, x288000, x288001, x288002 => if x8 ≤ 11 then (cellarlaw8_BytesGet.l3 k x3 x4 x5 x6 x7 x8 0 x288000 x288001 x288002) else (cellarlaw8_BytesGet.l1 k x3 x4 x5 (wrap64 (x6 + 1)) x288000 x288001 x288002)
def cellarlaw8_BytesGet.l3 : Nat → List (S38) → Int → List (List (S51)) → Int → List (S51) → Int → Int → List (S38) → List (S33) → List (S51) → Option (Bool)
 | 0, _, _, _, _, _, _, _, _, _, _ => none
 | k + 1, x3, x4, x5, x6, x7, x8, x9, x288000, x288001, x288002 => if x9 < (x3.length : Int) then (if 0 ≤ x9 then ((bytes_Get.f k ((rd_T38 x3 x9).f0) ((rd_T38 x3 x9).f1) x8 x7).bind fun bt301 => ((cellarref1_Abi.f ((rd_T38 x3 x9).f0) ((rd_T38 x3 x9).f1)).bind fun t310 => (if t310 = true then ((cellarref1_Kind.f x8).bind fun t311 => (if t311 = true then ((cellarref1_Size.f k ((rd_T38 x3 x9).f0) ((rd_T38 x3 x9).f1) x8).bind fun t313 => (if (x7.length : Int) = t313 then ((cellarref7_Bytes.f k x7).bind fun t314 => (cellarlaw8_BytesGet.j5 k x3 x4 x5 x6 x7 x8 x9 bt301.2.2.2.2.1 bt301.2.2.2.2.2 1 0 t314 x288000 x288001 x288002 bt301.1 bt301.2.1 bt301.2.2.1 bt301.2.2.2.1 false 0 0 0)) else (cellarlaw8_BytesGet.j5 k x3 x4 x5 x6 x7 x8 x9 bt301.2.2.2.2.1 bt301.2.2.2.2.2 1 0 false x288000 x288001 x288002 bt301.1 bt301.2.1 bt301.2.2.1 bt301.2.2.2.1 false 0 0 0))) else (cellarlaw8_BytesGet.j5 k x3 x4 x5 x6 x7 x8 x9 bt301.2.2.2.2.1 bt301.2.2.2.2.2 1 0 false x288000 x288001 x288002 bt301.1 bt301.2.1 bt301.2.2.1 bt301.2.2.2.1 false 0 0 0))) else (cellarlaw8_BytesGet.j5 k x3 x4 x5 x6 x7 x8 x9 bt301.2.2.2.2.1 bt301.2.2.2.2.2 1 0 false x288000 x288001 x288002 bt301.1 bt301.2.1 bt301.2.2.1 bt301.2.2.2.1 false 0 0 0)))) else (none)) else (cellarlaw8_BytesGet.l2 k x3 x4 x5 x6 x7 (wrap64 (x8 + 1)) x288000 x288001 x288002)
def cellarlaw8_BytesGet.j5 : Nat → List (S38) → Int → List (List (S51)) → Int → List (S51) → Int → Int → Int → Int → Int → Int → Bool → List (S38) → List (S33) → List (S51) → Bool → Int → Int → Int → Bool → Int → Int → Int → Option (Bool)
 | 0, _, _, _, _, _, _, _, _, _, _, _, _, _, _, _, _, _, _, _, _, _, _, _ => none
 | k + 1, x3, x4, x5, x6, x7, x8, x9, x11, x12, x13, x15, x89, x288000, x288001, x288002, x308000, x308001, x308002, x308003, x309000, x309001, x309002, x309003 => if x89 = true then (if 0 ≤ x9 then (if x9 < (x3.length : Int) then ((cellarref7_Get.f k ((rd_T38 x3 x9).f0) ((rd_T38 x3 x9).f1) x8 x7).bind fun bt316 => (cellarlaw8_BytesGet.j6 k x3 x4 x5 x6 x7 x8 x9 x11 x12 0 bt316.2.2.2.2 x288000 x288001 x288002 x308000 x308001 x308002 x308003 bt316.1 bt316.2.1 bt316.2.2.1 bt316.2.2.2.1)) else (none)) else (none)) else (cellarlaw8_BytesGet.j6 k x3 x4 x5 x6 x7 x8 x9 x11 x12 x13 x15 x288000 x288001 x288002 x308000 x308001 x308002 x308003 x309000 x309001 x309002 x309003)
def cellarlaw8_BytesGet.j6 : Nat → List (S38) → Int → List (List (S51)) → Int → List (S51) → Int → Int → Int → Int → Int → Int → List (S38) → List (S33) → List (S51) → Bool → Int → Int → Int → Bool → Int → Int → Int → Option (Bool)
 | 0, _, _, _, _, _, _, _, _, _, _, _, _, _, _, _, _, _, _, _, _, _, _ => none
 | k + 1, x3, x4, x5, x6, x7, x8, x9, x11, x12, x13, x15, x288000, x288001, x288002, x308000, x308001, x308002, x308003, x309000, x309001, x309002, x309003 => (cellarlaw8_num.f x12).bind fun t321 => (if t321 = x13 then (if (!(x308000 == x309000) || (!(x308001 == x309001) || (!(x308002 == x309002) || (!(x308003 == x309003))))) = true then (some false) else (if x11 = x15 then (if 0 ≤ x6 then (if x6 < (x5.length : Int) then ((cellarref0_EqBytes.f k x7 (rd_L5 x5 x6)).bind fun t323 => (if t323 = true then (cellarlaw8_BytesGet.l3 k x3 x4 x5 x6 x7 x8 (wrap64 (x9 + 1)) x288000 x288001 x288002) else (some false))) else (none)) else (none)) else (some false))) else (some false))
end
def cellarlaw8_BytesGet.f (k : Nat) (l0_0 : List (S38)) (l0_1 : List (S33)) (l0_2 : List (S51)) : Option (Bool) := (cellarlaw8_Heavy.f l0_0 l0_1 l0_2).bind fun t288 => (if t288 = true then (some true) else ((cellarlaw8_Machines.f l0_0).bind fun t289 => (cellarlaw8_BytesGet.l0 k t289 1 l0_0 l0_1 l0_2)))
theorem cellarlaw8_BytesGet.mono_l : ∀ k, (∀ y0 y1 y2 y3 y4, LeO (cellarlaw8_BytesGet.l0 k y0 y1 y2 y3 y4) (cellarlaw8_BytesGet.l0 (k + 1) y0 y1 y2 y3 y4)) ∧ (∀ y0 y1 y2 y3 y4 y5 y6, LeO (cellarlaw8_BytesGet.l1 k y0 y1 y2 y3 y4 y5 y6) (cellarlaw8_BytesGet.l1 (k + 1) y0 y1 y2 y3 y4 y5 y6)) ∧ (∀ y0 y1 y2 y3 y4 y5 y6 y7, LeO (cellarlaw8_BytesGet.j2 k y0 y1 y2 y3 y4 y5 y6 y7) (cellarlaw8_BytesGet.j2 (k + 1) y0 y1 y2 y3 y4 y5 y6 y7)) ∧ (∀ y0 y1 y2 y3 y4 y5 y6 y7 y8, LeO (cellarlaw8_BytesGet.l2 k y0 y1 y2 y3 y4 y5 y6 y7 y8) (cellarlaw8_BytesGet.l2 (k + 1) y0 y1 y2 y3 y4 y5 y6 y7 y8)) ∧ (∀ y0 y1 y2 y3 y4 y5 y6 y7 y8 y9, LeO (cellarlaw8_BytesGet.l3 k y0 y1 y2 y3 y4 y5 y6 y7 y8 y9) (cellarlaw8_BytesGet.l3 (k + 1) y0 y1 y2 y3 y4 y5 y6 y7 y8 y9)) ∧ (∀ y0 y1 y2 y3 y4 y5 y6 y7 y8 y9 y10 y11 y12 y13 y14 y15 y16 y17 y18 y19 y20 y21 y22, LeO (cellarlaw8_BytesGet.j5 k y0 y1 y2 y3 y4 y5 y6 y7 y8 y9 y10 y11 y12 y13 y14 y15 y16 y17 y18 y19 y20 y21 y22) (cellarlaw8_BytesGet.j5 (k + 1) y0 y1 y2 y3 y4 y5 y6 y7 y8 y9 y10 y11 y12 y13 y14 y15 y16 y17 y18 y19 y20 y21 y22)) ∧ (∀ y0 y1 y2 y3 y4 y5 y6 y7 y8 y9 y10 y11 y12 y13 y14 y15 y16 y17 y18 y19 y20 y21, LeO (cellarlaw8_BytesGet.j6 k y0 y1 y2 y3 y4 y5 y6 y7 y8 y9 y10 y11 y12 y13 y14 y15 y16 y17 y18 y19 y20 y21) (cellarlaw8_BytesGet.j6 (k + 1) y0 y1 y2 y3 y4 y5 y6 y7 y8 y9 y10 y11 y12 y13 y14 y15 y16 y17 y18 y19 y20 y21))
 | 0 => ⟨fun _ _ _ _ _ r h => by simp [cellarlaw8_BytesGet.l0] at h, fun _ _ _ _ _ _ _ r h => by simp [cellarlaw8_BytesGet.l1] at h, fun _ _ _ _ _ _ _ _ r h => by simp [cellarlaw8_BytesGet.j2] at h, fun _ _ _ _ _ _ _ _ _ r h => by simp [cellarlaw8_BytesGet.l2] at h, fun _ _ _ _ _ _ _ _ _ _ r h => by simp [cellarlaw8_BytesGet.l3] at h, fun _ _ _ _ _ _ _ _ _ _ _ _ _ _ _ _ _ _ _ _ _ _ _ r h => by simp [cellarlaw8_BytesGet.j5] at h, fun _ _ _ _ _ _ _ _ _ _ _ _ _ _ _ _ _ _ _ _ _ _ r h => by simp [cellarlaw8_BytesGet.j6] at h⟩
 | k + 1 => by
  obtain ⟨ih0, ih1, ih2, ih3, ih4, ih5, ih6⟩ := cellarlaw8_BytesGet.mono_l k
  refine ⟨?_, ?_, ?_, ?_, ?_, ?_, ?_⟩
  ·intro y0 y1 y2 y3 y4
   unfold cellarlaw8_BytesGet.l0
   repeat' first
   | (with_reducible apply ih0)
   | (with_reducible apply ih1)
   | (with_reducible apply ih2)
   | (with_reducible apply ih3)
   | (with_reducible apply ih4)
   | (with_reducible apply ih5)
   | (with_reducible apply ih6)
   | (with_reducible apply bytes_Get.mono)
   | (with_reducible apply cellarlaw8_rows.mono)
   | (with_reducible apply cellarlaw8_wakes.mono)
   | (with_reducible apply cellarref0_CopyBytes.mono)
   | (with_reducible apply cellarref0_EqBytes.mono)
   | (with_reducible apply cellarref1_Size.mono)
   | (with_reducible apply cellarref7_Bytes.mono)
   | (with_reducible apply cellarref7_Get.mono)
   | (with_reducible apply LeO.refl)
   | (with_reducible apply LeO.none)
   | (with_reducible refine LeO.ite ?_ ?_)
   | (with_reducible refine LeO.bind ?_ (fun _ => ?_))
  ·intro y0 y1 y2 y3 y4 y5 y6
   unfold cellarlaw8_BytesGet.l1
   repeat' first
   | (with_reducible apply ih0)
   | (with_reducible apply ih1)
   | (with_reducible apply ih2)
   | (with_reducible apply ih3)
   | (with_reducible apply ih4)
   | (with_reducible apply ih5)
   | (with_reducible apply ih6)
   | (with_reducible apply bytes_Get.mono)
   | (with_reducible apply cellarlaw8_rows.mono)
   | (with_reducible apply cellarlaw8_wakes.mono)
   | (with_reducible apply cellarref0_CopyBytes.mono)
   | (with_reducible apply cellarref0_EqBytes.mono)
   | (with_reducible apply cellarref1_Size.mono)
   | (with_reducible apply cellarref7_Bytes.mono)
   | (with_reducible apply cellarref7_Get.mono)
   | (with_reducible apply LeO.refl)
   | (with_reducible apply LeO.none)
   | (with_reducible refine LeO.ite ?_ ?_)
   | (with_reducible refine LeO.bind ?_ (fun _ => ?_))
  ·intro y0 y1 y2 y3 y4 y5 y6 y7
   unfold cellarlaw8_BytesGet.j2
   repeat' first
   | (with_reducible apply ih0)
   | (with_reducible apply ih1)
   | (with_reducible apply ih2)
   | (with_reducible apply ih3)
   | (with_reducible apply ih4)
   | (with_reducible apply ih5)
   | (with_reducible apply ih6)
   | (with_reducible apply bytes_Get.mono)
   | (with_reducible apply cellarlaw8_rows.mono)
   | (with_reducible apply cellarlaw8_wakes.mono)
   | (with_reducible apply cellarref0_CopyBytes.mono)
   | (with_reducible apply cellarref0_EqBytes.mono)
   | (with_reducible apply cellarref1_Size.mono)
   | (with_reducible apply cellarref7_Bytes.mono)
   | (with_reducible apply cellarref7_Get.mono)
   | (with_reducible apply LeO.refl)
   | (with_reducible apply LeO.none)
   | (with_reducible refine LeO.ite ?_ ?_)
   | (with_reducible refine LeO.bind ?_ (fun _ => ?_))
  ·intro y0 y1 y2 y3 y4 y5 y6 y7 y8
   unfold cellarlaw8_BytesGet.l2
   repeat' first
   | (with_reducible apply ih0)
   | (with_reducible apply ih1)
   | (with_reducible apply ih2)
   | (with_reducible apply ih3)
   | (with_reducible apply ih4)
   | (with_reducible apply ih5)
   | (with_reducible apply ih6)
   | (with_reducible apply bytes_Get.mono)
   | (with_reducible apply cellarlaw8_rows.mono)
   | (with_reducible apply cellarlaw8_wakes.mono)
   | (with_reducible apply cellarref0_CopyBytes.mono)
   | (with_reducible apply cellarref0_EqBytes.mono)
   | (with_reducible apply cellarref1_Size.mono)
   | (with_reducible apply cellarref7_Bytes.mono)
   | (with_reducible apply cellarref7_Get.mono)
   | (with_reducible apply LeO.refl)
   | (with_reducible apply LeO.none)
   | (with_reducible refine LeO.ite ?_ ?_)
   | (with_reducible refine LeO.bind ?_ (fun _ => ?_))
  ·intro y0 y1 y2 y3 y4 y5 y6 y7 y8 y9
   unfold cellarlaw8_BytesGet.l3
   repeat' first
   | (with_reducible apply ih0)
   | (with_reducible apply ih1)
   | (with_reducible apply ih2)
   | (with_reducible apply ih3)
   | (with_reducible apply ih4)
   | (with_reducible apply ih5)
   | (with_reducible apply ih6)
   | (with_reducible apply bytes_Get.mono)
   | (with_reducible apply cellarlaw8_rows.mono)
   | (with_reducible apply cellarlaw8_wakes.mono)
   | (with_reducible apply cellarref0_CopyBytes.mono)
   | (with_reducible apply cellarref0_EqBytes.mono)
   | (with_reducible apply cellarref1_Size.mono)
   | (with_reducible apply cellarref7_Bytes.mono)
   | (with_reducible apply cellarref7_Get.mono)
   | (with_reducible apply LeO.refl)
   | (with_reducible apply LeO.none)
   | (with_reducible refine LeO.ite ?_ ?_)
   | (with_reducible refine LeO.bind ?_ (fun _ => ?_))
  ·intro y0 y1 y2 y3 y4 y5 y6 y7 y8 y9 y10 y11 y12 y13 y14 y15 y16 y17 y18 y19 y20 y21 y22
   unfold cellarlaw8_BytesGet.j5
   repeat' first
   | (with_reducible apply ih0)
   | (with_reducible apply ih1)
   | (with_reducible apply ih2)
   | (with_reducible apply ih3)
   | (with_reducible apply ih4)
   | (with_reducible apply ih5)
   | (with_reducible apply ih6)
   | (with_reducible apply bytes_Get.mono)
   | (with_reducible apply cellarlaw8_rows.mono)
   | (with_reducible apply cellarlaw8_wakes.mono)
   | (with_reducible apply cellarref0_CopyBytes.mono)
   | (with_reducible apply cellarref0_EqBytes.mono)
   | (with_reducible apply cellarref1_Size.mono)
   | (with_reducible apply cellarref7_Bytes.mono)
   | (with_reducible apply cellarref7_Get.mono)
   | (with_reducible apply LeO.refl)
   | (with_reducible apply LeO.none)
   | (with_reducible refine LeO.ite ?_ ?_)
   | (with_reducible refine LeO.bind ?_ (fun _ => ?_))
  ·intro y0 y1 y2 y3 y4 y5 y6 y7 y8 y9 y10 y11 y12 y13 y14 y15 y16 y17 y18 y19 y20 y21
   unfold cellarlaw8_BytesGet.j6
   repeat' first
   | (with_reducible apply ih0)
   | (with_reducible apply ih1)
   | (with_reducible apply ih2)
   | (with_reducible apply ih3)
   | (with_reducible apply ih4)
   | (with_reducible apply ih5)
   | (with_reducible apply ih6)
   | (with_reducible apply bytes_Get.mono)
   | (with_reducible apply cellarlaw8_rows.mono)
   | (with_reducible apply cellarlaw8_wakes.mono)
   | (with_reducible apply cellarref0_CopyBytes.mono)
   | (with_reducible apply cellarref0_EqBytes.mono)
   | (with_reducible apply cellarref1_Size.mono)
   | (with_reducible apply cellarref7_Bytes.mono)
   | (with_reducible apply cellarref7_Get.mono)
   | (with_reducible apply LeO.refl)
   | (with_reducible apply LeO.none)
   | (with_reducible refine LeO.ite ?_ ?_)
   | (with_reducible refine LeO.bind ?_ (fun _ => ?_))
theorem cellarlaw8_BytesGet.mono : ∀ a0 a1 a2 k, LeO (cellarlaw8_BytesGet.f k a0 a1 a2) (cellarlaw8_BytesGet.f (k + 1) a0 a1 a2) := by
 intro a0 a1 a2 k
 obtain ⟨ih0, ih1, ih2, ih3, ih4, ih5, ih6⟩ := cellarlaw8_BytesGet.mono_l k
 unfold cellarlaw8_BytesGet.f
 repeat' first
   | (with_reducible apply ih0)
   | (with_reducible apply ih1)
   | (with_reducible apply ih2)
   | (with_reducible apply ih3)
   | (with_reducible apply ih4)
   | (with_reducible apply ih5)
   | (with_reducible apply ih6)
   | (with_reducible apply bytes_Get.mono)
   | (with_reducible apply cellarlaw8_rows.mono)
   | (with_reducible apply cellarlaw8_wakes.mono)
   | (with_reducible apply cellarref0_CopyBytes.mono)
   | (with_reducible apply cellarref0_EqBytes.mono)
   | (with_reducible apply cellarref1_Size.mono)
   | (with_reducible apply cellarref7_Bytes.mono)
   | (with_reducible apply cellarref7_Get.mono)
   | (with_reducible apply LeO.refl)
   | (with_reducible apply LeO.none)
   | (with_reducible refine LeO.ite ?_ ?_)
   | (with_reducible refine LeO.bind ?_ (fun _ => ?_))
set_option maxHeartbeats 8000000 in
set_option maxRecDepth 100000 in
theorem cellarlaw8_BytesGet.calls (k : Nat) (A0_0 : Option Addr) (c0_0 : Nat) (l0_0 : List (S38)) (A0_1 : Option Addr) (c0_1 : Nat) (l0_1 : List (S33)) (A0_2 : Option Addr) (c0_2 : Nat) (l0_2 : List (S51)) (r : Bool) (w : World) (hr0_0 : Kd.C k38 w A0_0 l0_0.length l0_0) (hc0_0 : l0_0.length ≤ c0_0) (hr0_1 : Kd.C k33 w A0_1 l0_1.length l0_1) (hc0_1 : l0_1.length ≤ c0_1) (hr0_2 : Kd.C k51 w A0_2 l0_2.length l0_2) (hc0_2 : l0_2.length ≤ c0_2) (h : cellarlaw8_BytesGet.f k l0_0 l0_1 l0_2 = some r) :
  Calls Try.prog 3 #[.agg #[.slice A0_0 l0_0.length c0_0, .slice A0_1 l0_1.length c0_1, .slice A0_2 l0_2.length c0_2]] w fun e w' => e = .returned (.bool r) ∧ Below w.heap.size w w' := by
 have hu26 := Try.underlying26
 have hu38 := Try.underlying38
 have hu33 := Try.underlying33
 have HR0_0 := Aside0.mk hr0_0
 have HC0_0 := Aside0.mk hc0_0
 clear hr0_0 hc0_0
 have HR0_1 := Aside0.mk hr0_1
 have HC0_1 := Aside0.mk hc0_1
 clear hr0_1 hc0_1
 have HR0_2 := Aside0.mk hr0_2
 have HC0_2 := Aside0.mk hc0_2
 clear hr0_2 hc0_2
 have HB := Aside0.mk (Below.refl w.heap.size w)
 have H : ((cellarlaw8_Heavy.f l0_0 l0_1 l0_2).bind fun t288 => (if t288 = true then (some true) else ((cellarlaw8_Machines.f l0_0).bind fun t289 => (cellarlaw8_BytesGet.l0 k t289 1 l0_0 l0_1 l0_2)))) = some r := h
 clear h
 replace H := Option.bind_eq_some_iff.mp H
 obtain ⟨t288, A20, H⟩ := H
 replace H : (if t288 = true then (some true) else ((cellarlaw8_Machines.f l0_0).bind fun t289 => (cellarlaw8_BytesGet.l0 k t289 1 l0_0 l0_1 l0_2))) = some r := H
 have A2 := Aside0.mk A20
 clear A20
 by_cases c3 : t288 = true
 ·subst c3
  have H1 : (some true) = some r := by rw [if_pos rfl] at H; exact H
  clear H
  have H := H1
  clear H1
  obtain rfl := Option.some.inj H
  go_enter Try.func3, Try.ntmps3
  go_wp2_with (first | ((with_reducible refine gate_dst (N := 1) rfl ?_); (try (refine gate_guard (by rfl) ?_; dsimp only)); refine zbox (N := 1) (cs := #[.slice A0_0 l0_0.length c0_0, .slice A0_1 l0_1.length c0_1, .slice A0_2 l0_2.length c0_2]) (t := 26) ?_; intro gb287 hg w4 hbox hb; have n0_ := Aside0.mk (below_step (zw0 HB.out) hb); have BK287 := Aside0.mk (hbox); have GW287 := Aside0.mk (zg hg (below_size (zw0 HB.out))); have GE287 := GW287; clear HB; have HB := n0_; clear n0_; clear hb hbox hg; have hcz5_0 := zc BK287.out 0; have hcz5_1 := zc BK287.out 1; have hcz5_2 := zc BK287.out 2; have hfz5_0 := blk_frozen BK287.out 0; have hfz5_1 := blk_frozen BK287.out 1; have hfz5_2 := blk_frozen BK287.out 2) | ((with_reducible refine gate_callee (f := 13) rfl ?_); refine zgo (some 17) Try.func13 #[.agg #[.slice A0_0 l0_0.length c0_0, .slice A0_1 l0_1.length c0_1, .slice A0_2 l0_2.length c0_2]] ?_; (with_reducible refine (cellarlaw8_Heavy.calls _ _ l0_0 _ _ l0_1 _ _ l0_2 true _ ?side1 ?side2 ?side3 ?side4 ?side5 ?side6 A2.out).mono ?_); (case side1 => repeat (first | exact (Kd.C_below HR0_0.out HB.out) | (with_reducible refine Kd.C_alloc ?_ _) | (with_reducible refine Kd.C_drewN ?_ _) | (with_reducible refine Kd.C_drew ?_))); (case side2 => exact HC0_0.out); (case side3 => repeat (first | exact (Kd.C_below HR0_1.out HB.out) | (with_reducible refine Kd.C_alloc ?_ _) | (with_reducible refine Kd.C_drewN ?_ _) | (with_reducible refine Kd.C_drew ?_))); (case side4 => exact HC0_1.out); (case side5 => repeat (first | exact (Kd.C_below HR0_2.out HB.out) | (with_reducible refine Kd.C_alloc ?_ _) | (with_reducible refine Kd.C_drewN ?_ _) | (with_reducible refine Kd.C_drew ?_))); (case side6 => exact HC0_2.out); rintro e w6 ⟨rfl, hb⟩; refine ⟨_, rfl, ?_⟩; have n0_ := Aside0.mk (zbb BK287.out hb); have n1_ := Aside0.mk (below_step (zw1 HB.out GE287.out) hb); clear BK287 HB; have BK287 := n0_; have HB := n1_; clear n0_ n1_; (try clear hb); (try clear hb2); (try clear hk); (try clear hi)))
  go_ret
  exact ⟨ze, zw1 HB.out GE287.out⟩
 ·replace c3 := Bool.eq_false_iff.mpr c3
  subst c3
  have H1 : ((cellarlaw8_Machines.f l0_0).bind fun t289 => (cellarlaw8_BytesGet.l0 k t289 1 l0_0 l0_1 l0_2)) = some r := by rw [if_neg (show ¬ (false = true) by decide)] at H; exact H
  clear H
  have H := H1
  clear H1
  replace H := Option.bind_eq_some_iff.mp H
  obtain ⟨t289, A70, H⟩ := H
  replace H : (cellarlaw8_BytesGet.l0 k t289 1 l0_0 l0_1 l0_2) = some r := H
  have A7 := Aside0.mk A70
  clear A70
  have H' := Aside0.mk H
  clear H
  go_enter Try.func3, Try.ntmps3
  go_wp2_with (first | ((with_reducible refine gate_dst (N := 1) rfl ?_); (try (refine gate_guard (by rfl) ?_; dsimp only)); refine zbox (N := 1) (cs := #[.slice A0_0 l0_0.length c0_0, .slice A0_1 l0_1.length c0_1, .slice A0_2 l0_2.length c0_2]) (t := 26) ?_; intro gb287 hg w8 hbox hb; have n0_ := Aside0.mk (below_step (zw0 HB.out) hb); have BK287 := Aside0.mk (hbox); have GW287 := Aside0.mk (zg hg (below_size (zw0 HB.out))); have GE287 := GW287; clear HB; have HB := n0_; clear n0_; clear hb hbox hg; have hcz9_0 := zc BK287.out 0; have hcz9_1 := zc BK287.out 1; have hcz9_2 := zc BK287.out 2; have hfz9_0 := blk_frozen BK287.out 0; have hfz9_1 := blk_frozen BK287.out 1; have hfz9_2 := blk_frozen BK287.out 2) | ((with_reducible refine gate_callee (f := 13) rfl ?_); refine zgo (some 17) Try.func13 #[.agg #[.slice A0_0 l0_0.length c0_0, .slice A0_1 l0_1.length c0_1, .slice A0_2 l0_2.length c0_2]] ?_; (with_reducible refine (cellarlaw8_Heavy.calls _ _ l0_0 _ _ l0_1 _ _ l0_2 false _ ?side1 ?side2 ?side3 ?side4 ?side5 ?side6 A2.out).mono ?_); (case side1 => repeat (first | exact (Kd.C_below HR0_0.out HB.out) | (with_reducible refine Kd.C_alloc ?_ _) | (with_reducible refine Kd.C_drewN ?_ _) | (with_reducible refine Kd.C_drew ?_))); (case side2 => exact HC0_0.out); (case side3 => repeat (first | exact (Kd.C_below HR0_1.out HB.out) | (with_reducible refine Kd.C_alloc ?_ _) | (with_reducible refine Kd.C_drewN ?_ _) | (with_reducible refine Kd.C_drew ?_))); (case side4 => exact HC0_1.out); (case side5 => repeat (first | exact (Kd.C_below HR0_2.out HB.out) | (with_reducible refine Kd.C_alloc ?_ _) | (with_reducible refine Kd.C_drewN ?_ _) | (with_reducible refine Kd.C_drew ?_))); (case side6 => exact HC0_2.out); rintro e w10 ⟨rfl, hb⟩; refine ⟨_, rfl, ?_⟩; have n0_ := Aside0.mk (zbb BK287.out hb); have n1_ := Aside0.mk (below_step (zw1 HB.out GE287.out) hb); clear BK287 HB; have BK287 := n0_; have HB := n1_; clear n0_ n1_; (try clear hb); (try clear hb2); (try clear hk); (try clear hi); have hcz11_0 := zc BK287.out 0; have hcz11_1 := zc BK287.out 1; have hcz11_2 := zc BK287.out 2; have hfz11_0 := blk_frozen BK287.out 0; have hfz11_1 := blk_frozen BK287.out 1; have hfz11_2 := blk_frozen BK287.out 2) | ((with_reducible refine gate_callee (f := 14) rfl ?_); refine zgo (some 20) Try.func14 #[.slice A0_0 l0_0.length c0_0] ?_; (with_reducible refine (cellarlaw8_Machines.calls _ _ l0_0 t289 _ ?side1 ?side2 A7.out).mono ?_); (case side1 => repeat (first | exact (Kd.C_below HR0_0.out HB.out) | (with_reducible refine Kd.C_alloc ?_ _) | (with_reducible refine Kd.C_drewN ?_ _) | (with_reducible refine Kd.C_drew ?_))); (case side2 => exact HC0_0.out); rintro e w12 ⟨v290, rfl, ho0, hb⟩; refine ⟨_, rfl, ?_⟩; have HO291 := Aside0.mk (Kd.R_lower ho0 (below_size (zw1 HB.out GE287.out))); have n1_ := Aside0.mk (zbb BK287.out hb); have n2_ := Aside0.mk (below_step (zw1 HB.out GE287.out) hb); clear BK287 HB; have BK287 := n1_; have HB := n2_; clear n1_ n2_; (try clear hb); (try clear hb2); (try clear hk); (try clear hi); (try clear ho0)))
  go_loopg [4] k (fun kq v4 w' => ∃ (x4_1 : Int), v4 = .int .i64 x4_1 ∧ Aside0 (cellarlaw8_BytesGet.l0 kq t289 x4_1 l0_0 l0_1 l0_2 = some r) ∧ Aside0 (kq ≤ k) ∧ Aside0 (Kd.R k38 38 w' w.heap.size (fun _ => True) v290 t289) ∧ Aside0 (w'.heap[gb287]? = some (.cells #[(.slice A0_0 l0_0.length c0_0), (.slice A0_1 l0_1.length c0_1), (.slice A0_2 l0_2.length c0_2)] 26 (0, 0))) ∧ Aside0 (Below w.heap.size w w'))
  case atStart => exact ⟨(1), (zr), H', ⟨Nat.le_refl _⟩, ⟨by (with_reducible repeat (first | apply Kd.R_alloc | apply Kd.R_drewN | apply Kd.R_drew)); exact HO291.out⟩, ⟨zb BK287.out⟩, ⟨zw1 HB.out GE287.out⟩⟩
  case round =>
   clear H'
   try clear c1; try clear p2; try clear c3
   obtain ⟨x4_1, rfl, HA, HK1, HO_3, BK287, HB⟩ := hrel
   cases gk with
   | zero => exact absurd HA.out (by simp [cellarlaw8_BytesGet.l0])
   | succ k1 =>
    have H := HA.out
    clear HA
    simp only [cellarlaw8_BytesGet.l0] at H
    by_cases c13 : x4_1 ≤ 4
    ·rw [if_pos c13] at H
     have c13b0 : decide (x4_1 ≤ 4) = true := decide_eq_true c13
     clear c13
     replace H := Option.bind_eq_some_iff.mp H
     obtain ⟨t293, A140, H⟩ := H
     replace H : (cellarlaw8_BytesGet.l1 k1 t289 x4_1 t293 0 l0_0 l0_1 l0_2) = some r := H
     have A14 := Aside0.mk A140
     clear A140
     have H' := Aside0.mk H
     clear H
     have hcz15_0 := zc BK287.out 0
     have hcz15_1 := zc BK287.out 1
     have hcz15_2 := zc BK287.out 2
     have hfz15_0 := blk_frozen BK287.out 0
     have hfz15_1 := blk_frozen BK287.out 1
     have hfz15_2 := blk_frozen BK287.out 2
     obtain ⟨Ao16, co16, eo16⟩ := Kd.R_slice HO_3.out
     subst eo16
     go_wp2_with (first | ((with_reducible refine gate_callee (f := 15) rfl ?_); refine zgo (some 28) Try.func15 #[.agg #[.slice A0_0 l0_0.length c0_0, .slice A0_1 l0_1.length c0_1, .slice A0_2 l0_2.length c0_2], .int .i64 x4_1, .slice Ao16 t289.length co16] ?_; (with_reducible refine (cellarlaw8_rows.calls k1 _ _ l0_0 _ _ l0_1 (fun k_ => k_ < w.heap.size) _ _ l0_2 x4_1 _ _ t289 t293 _ ?side1 ?side2 ?side3 ?side4 ?side5 ?side6 ?side7 A14.out).mono ?_); (case side1 => repeat (first | exact (Kd.C_below HR0_0.out HB.out) | (with_reducible refine Kd.C_alloc ?_ _) | (with_reducible refine Kd.C_drewN ?_ _) | (with_reducible refine Kd.C_drew ?_))); (case side2 => exact HC0_0.out); (case side3 => repeat (first | exact (Kd.C_below HR0_1.out HB.out) | (with_reducible refine Kd.C_alloc ?_ _) | (with_reducible refine Kd.C_drewN ?_ _) | (with_reducible refine Kd.C_drew ?_))); (case side4 => exact HC0_1.out); (case side5 => exact Kd.V_mk HC0_2.out (Kd.F_below (Kd.C_F k51_heap HR0_2.out) (zw1 HB.out GE287.out))); (case side6 => repeat (first | exact (Kd.R_reads' HO_3.out).2.2 | (with_reducible refine Kd.C_alloc ?_ _) | (with_reducible refine Kd.C_drewN ?_ _) | (with_reducible refine Kd.C_drew ?_))); (case side7 => exact (Kd.R_reads' HO_3.out).2.1); rintro e w17 ⟨v294, rfl, ho0, hb⟩; refine ⟨_, rfl, ?_⟩; have n0_ := Aside0.mk (Kd.R_below (by (with_reducible repeat (first | apply Kd.R_alloc | apply Kd.R_drewN | apply Kd.R_drew)); exact HO_3.out) hb); have HO295 := Aside0.mk (Kd.N_lower (Kd.N_mono (ok' := fun k_ => some k_ ≠ (.slice Ao16 t289.length co16 : Value).ownBlock ∧ k_ ≠ gb287) ho0 (fun k_ hk_ => ⟨Or.elim hk_ (fun hs_ => fun e_ => Nat.not_le.2 hs_ (Kd.R_base HO_3.out k_ e_.symm)) (fun hn_ => (Kd.fresh' (Kd.R_lt (by (with_reducible repeat (first | apply Kd.R_alloc | apply Kd.R_drewN | apply Kd.R_drew)); exact HO_3.out)) k_ hn_)), Or.elim hk_ (fun hs_ => fun e_ => Nat.not_le.2 hs_ (by rw [e_]; exact GW287.out)) (fun hn_ => (Kd.freshB (g := gb287) (o := .cells #[.slice A0_0 l0_0.length c0_0, .slice A0_1 l0_1.length c0_1, .slice A0_2 l0_2.length c0_2] 26 (0, 0)) (zb BK287.out) k_ hn_))⟩)) (below_size (zw1 HB.out GE287.out))); have n2_ := Aside0.mk (zbb BK287.out hb); have n3_ := Aside0.mk (below_step (zw1 HB.out GE287.out) hb); clear HO_3 BK287 HB; have HO_3 := n0_; have BK287 := n2_; have HB := n3_; clear n0_ n2_ n3_; (try clear hb); (try clear hb2); (try clear hk); (try clear hi); (try clear ho0)))
     go_loopg [6] k1 (fun kq v6 w' => ∃ (x6_2 : Int), v6 = .int .i64 x6_2 ∧ Aside0 (cellarlaw8_BytesGet.l1 kq t289 x4_1 t293 x6_2 l0_0 l0_1 l0_2 = some r) ∧ Aside0 (kq ≤ k1) ∧ Aside0 (Kd.R k38 38 w' w.heap.size (fun _ => True) (.slice Ao16 t289.length co16) t289) ∧ Aside0 (Kd.N (Kd.slice 51 k51) 24 w' w.heap.size (fun k_ => some k_ ≠ ((.slice Ao16 t289.length co16) : Value).ownBlock ∧ k_ ≠ gb287) v294 t293) ∧ Aside0 (w'.heap[gb287]? = some (.cells #[(.slice A0_0 l0_0.length c0_0), (.slice A0_1 l0_1.length c0_1), (.slice A0_2 l0_2.length c0_2)] 26 (0, 0))) ∧ Aside0 (Below w.heap.size w w'))
     case atStart => exact ⟨(0), (zr), H', ⟨Nat.le_refl _⟩, ⟨by (with_reducible repeat (first | apply Kd.R_alloc | apply Kd.R_drewN | apply Kd.R_drew)); exact HO_3.out⟩, ⟨by (with_reducible repeat (first | apply Kd.N_alloc | apply Kd.N_drewN | apply Kd.N_drew)); exact HO295.out⟩, ⟨zb BK287.out⟩, ⟨zw1 HB.out GE287.out⟩⟩
     case round =>
      clear H'
      try clear c1; try clear p2; try clear c3; try clear c13; try clear c13b0; try clear c14; try clear c15; try clear p2
      obtain ⟨x6_2, rfl, HA, HK2, HO_3, HO_5, BK287, HB⟩ := hrel
      cases gk with
      | zero => exact absurd HA.out (by simp [cellarlaw8_BytesGet.l1])
      | succ k2 =>
       have H := HA.out
       clear HA
       simp only [cellarlaw8_BytesGet.l1] at H
       have HC18 := Aside0.mk H
       clear H
       go_upto_region 9 with (fail)
       go_cut [36] (fun v36 wc => ∃ (kq : Nat) (x36_17 : Bool), v36 = .bool x36_17 ∧ Aside0 (cellarlaw8_BytesGet.j2 kq t289 x4_1 t293 x6_2 x36_17 l0_0 l0_1 l0_2 = some r) ∧ Aside0 (kq ≤ k2) ∧ Aside0 (Kd.R k38 38 wc w.heap.size (fun _ => True) (.slice Ao16 t289.length co16) t289) ∧ Aside0 (Kd.N (Kd.slice 51 k51) 24 wc w.heap.size (fun k_ => some k_ ≠ ((.slice Ao16 t289.length co16) : Value).ownBlock ∧ k_ ≠ gb287) v294 t293) ∧ Aside0 (wc.heap[gb287]? = some (.cells #[(.slice A0_0 l0_0.length c0_0), (.slice A0_1 l0_1.length c0_1), (.slice A0_2 l0_2.length c0_2)] 26 (0, 0))) ∧ Aside0 (Below w.heap.size w wc))
       case first =>
        have H := HC18.out
        clear HC18
        by_cases c19 : x6_2 < (t293.length : Int)
        rotate_left
        ·rw [if_neg c19] at H
         have c19b0 : decide (x6_2 < (t293.length : Int)) = false := decide_eq_false c19
         clear c19
         (first | rw [c19b0] | (simp only [i64_w, i32_w]; rw [c19b0]) | skip)
         have H' := Aside0.mk H
         clear H
         obtain ⟨Ao21, co21, eo21⟩ := Kd.N_slice HO_5.out
         subst eo21
         go_wp2
         go_meet
         case rel => exact ⟨_, (false), (zr), H', ⟨by have := HK1.out; have := HK2.out; first | omega | exact Nat.le_refl _⟩, ⟨by (with_reducible repeat (first | apply Kd.R_alloc | apply Kd.R_drewN | apply Kd.R_drew)); exact HO_3.out⟩, ⟨by (with_reducible repeat (first | apply Kd.N_alloc | apply Kd.N_drewN | apply Kd.N_drew)); exact HO_5.out⟩, ⟨zb BK287.out⟩, ⟨zw1 HB.out GE287.out⟩⟩
        rw [if_pos c19] at H
        have c19b0 : decide (x6_2 < (t293.length : Int)) = true := decide_eq_true c19
        clear c19
        (first | rw [c19b0] | (simp only [i64_w, i32_w]; rw [c19b0]) | skip)
        have H' := Aside0.mk H
        clear H
        obtain ⟨Ao20, co20, eo20⟩ := Kd.N_slice HO_5.out
        subst eo20
        go_wp2
        go_meet
        case rel => exact ⟨_, (decide (x6_2 < 60)), (zr), H', ⟨by have := HK1.out; have := HK2.out; first | omega | exact Nat.le_refl _⟩, ⟨by (with_reducible repeat (first | apply Kd.R_alloc | apply Kd.R_drewN | apply Kd.R_drew)); exact HO_3.out⟩, ⟨by (with_reducible repeat (first | apply Kd.N_alloc | apply Kd.N_drewN | apply Kd.N_drew)); exact HO_5.out⟩, ⟨zb BK287.out⟩, ⟨zw1 HB.out GE287.out⟩⟩
       case rest =>
        clear HC18
        try clear c1; try clear p2; try clear c3; try clear c13; try clear c13b0; try clear c14; try clear c15; try clear c19; try clear c19b0; try clear p2
        obtain ⟨kq, x36_17, rfl, HA, HJ17, HO_3, HO_5, BK287, HB⟩ := hcut
        cases kq with
        | zero => exact absurd HA.out (by simp [cellarlaw8_BytesGet.j2])
        | succ kj17 =>
         have H := HA.out
         clear HA
         simp only [cellarlaw8_BytesGet.j2] at H
         by_cases c22 : x36_17 = true
         rotate_left
         ·replace c22 := Bool.eq_false_iff.mpr c22
          subst c22
          have H1 : (cellarlaw8_BytesGet.l0 kj17 t289 (wrap64 (x4_1 * 2)) l0_0 l0_1 l0_2) = some r := by rw [if_neg (show ¬ (false = true) by decide)] at H; exact H
          clear H
          have H := H1
          clear H1
          have H' := Aside0.mk H
          clear H
          go_wp2
          go_roundg kj17
          case measure => have := HK1.out; have := HK2.out; have := HJ17.out; omega
          case rel => exact ⟨(wrap64 (x4_1 * 2)), (zr), H', ⟨by have := HK1.out; have := HK2.out; have := HJ17.out; omega⟩, ⟨by (with_reducible repeat (first | apply Kd.R_alloc | apply Kd.R_drewN | apply Kd.R_drew)); exact HO_3.out⟩, ⟨zb BK287.out⟩, ⟨zw1 HB.out GE287.out⟩⟩
         subst c22
         have H1 : (if 0 ≤ x6_2 then (if x6_2 < (t293.length : Int) then ((cellarref0_CopyBytes.f kj17 (rd_L5 t293 x6_2)).bind fun t297 => (cellarlaw8_BytesGet.l2 kj17 t289 x4_1 t293 x6_2 t297 0 l0_0 l0_1 l0_2)) else (none)) else (none)) = some r := by rw [if_pos rfl] at H; exact H
         clear H
         have H := H1
         clear H1
         by_cases c23 : 0 ≤ x6_2
         rotate_left
         ·rw [if_neg c23] at H
          exact absurd H (by simp)
         rw [if_pos c23] at H
         have c23b0 : decide (0 ≤ x6_2) = true := decide_eq_true c23
         clear c23
         by_cases c24 : x6_2 < (t293.length : Int)
         rotate_left
         ·rw [if_neg c24] at H
          exact absurd H (by simp)
         rw [if_pos c24] at H
         have c24b0 : decide (x6_2 < (t293.length : Int)) = true := decide_eq_true c24
         clear c24
         replace H := Option.bind_eq_some_iff.mp H
         obtain ⟨t297, A250, H⟩ := H
         replace H : (cellarlaw8_BytesGet.l2 kj17 t289 x4_1 t293 x6_2 t297 0 l0_0 l0_1 l0_2) = some r := H
         have A25 := Aside0.mk A250
         clear A250
         have H' := Aside0.mk H
         clear H
         obtain ⟨Ao26, co26, eo26⟩ := Kd.N_slice HO_5.out
         subst eo26
         have p296 : 0 ≤ (x6_2 : Int) := zdec
         have q296 : x6_2 < (t293.length : Int) := zdec
         obtain ⟨ad296, A296_0, c296_0, e296, hx296_0, hl296_0, hi296_0⟩ := at_L5 (Kd.N_reads' HO_5.out).2.2 x6_2 p296 q296
         cases e296
         obtain ⟨ce296, hce296, hMe296, hcc296⟩ := Kd.N_get HO_5.out [] x6_2 p296 (by first | exact q296 | exact zdec | (have e_ := (Kd.N_reads' HO_5.out).1; omega))
         obtain ⟨ua296_0, uc296_0, rfl, ul296_0, ge296_0⟩ := Kd.FK_slice_open hMe296
         have hv296_0 := hcc296 0 _ rfl
         rw [Nat.add_zero, show ((Kd.slice 51 k51)).sz = 1 from rfl, Nat.mul_one] at hv296_0
         replace hv296_0 := Option.some.inj (hv296_0.symm.trans hx296_0)
         injection hv296_0 with hva_ hvn_ hvc_
         rw [hva_] at ge296_0
         rw [hvc_] at ul296_0
         have HL296_0 := Aside0.mk (show Kd.V k51 51 _ w.heap.size _ _ (rd_L5 t293 x6_2) from Kd.V_mk ul296_0 ge296_0)
         clear hva_ hvn_ hvc_ ge296_0 ul296_0
         clear hcc296 hce296
         have HR296_0 := Aside0.mk hi296_0
         have HC296_0 := Aside0.mk hl296_0
         clear hi296_0 hl296_0
         replace p296 := eq_true p296
         replace q296 := eq_true q296
         go_wp2_with (first | ((with_reducible refine gate_callee (f := 16) rfl ?_); refine zgo (some 43) Try.func16 #[.slice A296_0 (rd_L5 t293 x6_2).length c296_0] ?_; (with_reducible refine (cellarref0_CopyBytes.calls kj17 _ _ (rd_L5 t293 x6_2) t297 _ ?side1 ?side2 A25.out).mono ?_); (case side1 => repeat (first | exact (by repeat (first | (with_reducible exact HR296_0.out) | (with_reducible refine Kd.C_alloc ?_ _) | (with_reducible refine Kd.C_drewN ?_ _) | (with_reducible refine Kd.C_drew ?_) | exact HR296_0.out)) | (with_reducible refine Kd.C_alloc ?_ _) | (with_reducible refine Kd.C_drewN ?_ _) | (with_reducible refine Kd.C_drew ?_))); (case side2 => exact HC296_0.out); rintro e w27 ⟨v298, rfl, ho0, hb⟩; refine ⟨_, rfl, ?_⟩; have n0_ := Aside0.mk (Kd.R_below (by (with_reducible repeat (first | apply Kd.R_alloc | apply Kd.R_drewN | apply Kd.R_drew)); exact HO_3.out) hb); have n1_ := Aside0.mk (Kd.N_elder' (by (with_reducible repeat (first | apply Kd.N_alloc | apply Kd.N_drewN | apply Kd.N_drew)); exact HO_5.out) (Kd.R_base ho0) hb); have n2_ := Aside0.mk (Kd.V_elder' (by (with_reducible repeat (first | apply Kd.V_alloc | apply Kd.V_drewN | apply Kd.V_drew)); exact HL296_0.out) (Kd.R_base ho0) hb); have HO299 := Aside0.mk (Kd.R_lower ho0 (below_size (zw1 HB.out GE287.out))); have n4_ := Aside0.mk (zbb BK287.out hb); have n5_ := Aside0.mk (Kd.C_below (by repeat (first | (with_reducible exact HR296_0.out) | (with_reducible refine Kd.C_alloc ?_ _) | (with_reducible refine Kd.C_drewN ?_ _) | (with_reducible refine Kd.C_drew ?_) | exact HR296_0.out)) hb); have n6_ := Aside0.mk (below_step (zw1 HB.out GE287.out) hb); clear HO_3 HO_5 HL296_0 BK287 HR296_0 HB; have HO_3 := n0_; have HO_5 := n1_; have HL296_0 := n2_; have BK287 := n4_; have HR296_0 := n5_; have HB := n6_; clear n0_ n1_ n2_ n4_ n5_ n6_; (try clear hb); (try clear hb2); (try clear hk); (try clear hi); (try clear ho0)))
         go_loopg [8] kj17 (fun kq v8 w' => ∃ (x8_4 : Int), v8 = .int .i64 x8_4 ∧ Aside0 (cellarlaw8_BytesGet.l2 kq t289 x4_1 t293 x6_2 t297 x8_4 l0_0 l0_1 l0_2 = some r) ∧ Aside0 (kq ≤ kj17) ∧ Aside0 (Kd.R k38 38 w' w.heap.size (fun _ => True) (.slice Ao16 t289.length co16) t289) ∧ Aside0 (Kd.N (Kd.slice 51 k51) 24 w' w.heap.size (fun k_ => some k_ ≠ ((.slice Ao16 t289.length co16) : Value).ownBlock ∧ some k_ ≠ (v298 : Value).ownBlock ∧ k_ ≠ gb287) (.slice (some ad296) t293.length co26) t293) ∧ Aside0 (Kd.R k51 51 w' w.heap.size (fun _ => True) v298 t297) ∧ Aside0 (w'.heap[gb287]? = some (.cells #[(.slice A0_0 l0_0.length c0_0), (.slice A0_1 l0_1.length c0_1), (.slice A0_2 l0_2.length c0_2)] 26 (0, 0))) ∧ Aside0 (Below w.heap.size w w'))
         case atStart => exact ⟨(0), (zr), H', ⟨Nat.le_refl _⟩, ⟨by (with_reducible repeat (first | apply Kd.R_alloc | apply Kd.R_drewN | apply Kd.R_drew)); exact HO_3.out⟩, ⟨by (with_reducible repeat (first | apply Kd.N_alloc | apply Kd.N_drewN | apply Kd.N_drew)); exact Kd.N_mono HO_5.out (fun _ hk => ⟨hk.1.1, ⟨hk.2, hk.1.2⟩⟩)⟩, ⟨by (with_reducible repeat (first | apply Kd.R_alloc | apply Kd.R_drewN | apply Kd.R_drew)); exact HO299.out⟩, ⟨zb BK287.out⟩, ⟨zw1 HB.out GE287.out⟩⟩
         case round =>
          clear H'
          try clear c1; try clear c2; try clear p2; try clear q2; try clear c3; try clear c13; try clear c13b0; try clear c14; try clear c15; try clear c16; try clear c19; try clear c19b0; try clear c22; try clear c23; try clear c23b0; try clear c24; try clear c24b0; try clear p2; try clear p296; try clear q296
          obtain ⟨x8_4, rfl, HA, HK4, HO_3, HO_5, HO_7, BK287, HB⟩ := hrel
          cases gk with
          | zero => exact absurd HA.out (by simp [cellarlaw8_BytesGet.l2])
          | succ k4 =>
           have H := HA.out
           clear HA
           simp only [cellarlaw8_BytesGet.l2] at H
           by_cases c28 : x8_4 ≤ 11
           rotate_left
           ·rw [if_neg c28] at H
            have c28b0 : decide (x8_4 ≤ 11) = false := decide_eq_false c28
            clear c28
            have H' := Aside0.mk H
            clear H
            go_wp2
            go_roundg k4
            case measure => have := HK1.out; have := HK2.out; have := HJ17.out; have := HK4.out; omega
            case rel => exact ⟨(wrap64 (x6_2 + 1)), (zr), H', ⟨by have := HK1.out; have := HK2.out; have := HJ17.out; have := HK4.out; omega⟩, ⟨by (with_reducible repeat (first | apply Kd.R_alloc | apply Kd.R_drewN | apply Kd.R_drew)); exact HO_3.out⟩, ⟨by (with_reducible repeat (first | apply Kd.N_alloc | apply Kd.N_drewN | apply Kd.N_drew)); exact Kd.N_mono HO_5.out (fun _ hk => ⟨hk.1, hk.2.2⟩)⟩, ⟨zb BK287.out⟩, ⟨zw1 HB.out GE287.out⟩⟩
           rw [if_pos c28] at H
           have c28b0 : decide (x8_4 ≤ 11) = true := decide_eq_true c28
           clear c28
           have H' := Aside0.mk H
           clear H
           go_wp2
           go_loopg [9] k4 (fun kq v9 w' => ∃ (x9_5 : Int), v9 = .int .i64 x9_5 ∧ Aside0 (cellarlaw8_BytesGet.l3 kq t289 x4_1 t293 x6_2 t297 x8_4 x9_5 l0_0 l0_1 l0_2 = some r) ∧ Aside0 (kq ≤ k4) ∧ Aside0 (Kd.R k38 38 w' w.heap.size (fun _ => True) (.slice Ao16 t289.length co16) t289) ∧ Aside0 (Kd.N (Kd.slice 51 k51) 24 w' w.heap.size (fun k_ => some k_ ≠ ((.slice Ao16 t289.length co16) : Value).ownBlock ∧ some k_ ≠ (v298 : Value).ownBlock ∧ k_ ≠ gb287) (.slice (some ad296) t293.length co26) t293) ∧ Aside0 (Kd.R k51 51 w' w.heap.size (fun _ => True) v298 t297) ∧ Aside0 (w'.heap[gb287]? = some (.cells #[(.slice A0_0 l0_0.length c0_0), (.slice A0_1 l0_1.length c0_1), (.slice A0_2 l0_2.length c0_2)] 26 (0, 0))) ∧ Aside0 (Below w.heap.size w w'))
           case atStart => exact ⟨(0), (zr), H', ⟨Nat.le_refl _⟩, ⟨by (with_reducible repeat (first | apply Kd.R_alloc | apply Kd.R_drewN | apply Kd.R_drew)); exact HO_3.out⟩, ⟨by (with_reducible repeat (first | apply Kd.N_alloc | apply Kd.N_drewN | apply Kd.N_drew)); exact HO_5.out⟩, ⟨by (with_reducible repeat (first | apply Kd.R_alloc | apply Kd.R_drewN | apply Kd.R_drew)); exact HO_7.out⟩, ⟨zb BK287.out⟩, ⟨zw1 HB.out GE287.out⟩⟩
           case round =>
            clear H'
            try clear c1; try clear c2; try clear p2; try clear q2; try clear c3; try clear c13; try clear c13b0; try clear c14; try clear c15; try clear c16; try clear c19; try clear c19b0; try clear c22; try clear c23; try clear c23b0; try clear c24; try clear c24b0; try clear c28; try clear c28b0; try clear p2; try clear p296; try clear q2; try clear q296
            obtain ⟨x9_5, rfl, HA, HK5, HO_3, HO_5, HO_7, BK287, HB⟩ := hrel
            cases gk with
            | zero => exact absurd HA.out (by simp [cellarlaw8_BytesGet.l3])
            | succ k5 =>
             have H := HA.out
             clear HA
             simp only [cellarlaw8_BytesGet.l3] at H
             by_cases c29 : x9_5 < (t289.length : Int)
             rotate_left
             ·rw [if_neg c29] at H
              have c29b0 : decide (x9_5 < (t289.length : Int)) = false := decide_eq_false c29
              clear c29
              have H' := Aside0.mk H
              clear H
              go_wp2
              go_roundg k5
              case measure => have := HK1.out; have := HK2.out; have := HJ17.out; have := HK4.out; have := HK5.out; omega
              case rel => exact ⟨(wrap64 (x8_4 + 1)), (zr), H', ⟨by have := HK1.out; have := HK2.out; have := HJ17.out; have := HK4.out; have := HK5.out; omega⟩, ⟨by (with_reducible repeat (first | apply Kd.R_alloc | apply Kd.R_drewN | apply Kd.R_drew)); exact HO_3.out⟩, ⟨by (with_reducible repeat (first | apply Kd.N_alloc | apply Kd.N_drewN | apply Kd.N_drew)); exact HO_5.out⟩, ⟨by (with_reducible repeat (first | apply Kd.R_alloc | apply Kd.R_drewN | apply Kd.R_drew)); exact HO_7.out⟩, ⟨zb BK287.out⟩, ⟨zw1 HB.out GE287.out⟩⟩
             rw [if_pos c29] at H
             have c29b0 : decide (x9_5 < (t289.length : Int)) = true := decide_eq_true c29
             clear c29
             by_cases c30 : 0 ≤ x9_5
             rotate_left
             ·rw [if_neg c30] at H
              exact absurd H (by simp)
             rw [if_pos c30] at H
             have c30b0 : decide (0 ≤ x9_5) = true := decide_eq_true c30
             clear c30
             replace H := Option.bind_eq_some_iff.mp H
             obtain ⟨⟨t301, t302, t303, t304, t305, t306⟩, A310, H⟩ := H
             replace H : ((cellarref1_Abi.f ((rd_T38 t289 x9_5).f0) ((rd_T38 t289 x9_5).f1)).bind fun t310 => (if t310 = true then ((cellarref1_Kind.f x8_4).bind fun t311 => (if t311 = true then ((cellarref1_Size.f k5 ((rd_T38 t289 x9_5).f0) ((rd_T38 t289 x9_5).f1) x8_4).bind fun t313 => (if (t297.length : Int) = t313 then ((cellarref7_Bytes.f k5 t297).bind fun t314 => (cellarlaw8_BytesGet.j5 k5 t289 x4_1 t293 x6_2 t297 x8_4 x9_5 t305 t306 1 0 t314 l0_0 l0_1 l0_2 t301 t302 t303 t304 false 0 0 0)) else (cellarlaw8_BytesGet.j5 k5 t289 x4_1 t293 x6_2 t297 x8_4 x9_5 t305 t306 1 0 false l0_0 l0_1 l0_2 t301 t302 t303 t304 false 0 0 0))) else (cellarlaw8_BytesGet.j5 k5 t289 x4_1 t293 x6_2 t297 x8_4 x9_5 t305 t306 1 0 false l0_0 l0_1 l0_2 t301 t302 t303 t304 false 0 0 0))) else (cellarlaw8_BytesGet.j5 k5 t289 x4_1 t293 x6_2 t297 x8_4 x9_5 t305 t306 1 0 false l0_0 l0_1 l0_2 t301 t302 t303 t304 false 0 0 0))) = some r := H
             have A31 := Aside0.mk A310
             clear A310
             have HC32 := Aside0.mk H
             clear H
             have p300 : 0 ≤ (x9_5 : Int) := zdec
             have q300 : x9_5 < (t289.length : Int) := zdec
             obtain ⟨ad300, e300, hx300_0, hx300_1⟩ := at_T38 (Kd.R_reads' HO_3.out).2.2 x9_5 p300 q300
             cases e300
             replace p300 := eq_true p300
             replace q300 := eq_true q300
             obtain ⟨Ao33, co33, eo33⟩ := Kd.R_slice HO_7.out
             subst eo33
             go_upto_region 20 with (first | ((with_reducible refine gate_callee (f := 17) rfl ?_); refine zgo (some 61) Try.func17 #[.agg #[.bool ((rd_T38 t289 x9_5).f0), .int .i64 ((rd_T38 t289 x9_5).f1)], .int .i64 x8_4, .slice Ao33 t297.length co33] ?_; (with_reducible refine (bytes_Get.calls k5 ((rd_T38 t289 x9_5).f0) ((rd_T38 t289 x9_5).f1) x8_4 _ _ t297 t301 t302 t303 t304 t305 t306 _ ?side1 ?side2 A31.out).mono ?_); (case side1 => repeat (first | exact (Kd.R_reads' HO_7.out).2.2 | (with_reducible refine Kd.C_alloc ?_ _) | (with_reducible refine Kd.C_drewN ?_ _) | (with_reducible refine Kd.C_drew ?_))); (case side2 => exact (Kd.R_reads' HO_7.out).2.1); rintro e w34 ⟨rfl, hb⟩; refine ⟨_, rfl, ?_⟩; have n0_ := Aside0.mk (Kd.R_below (by (with_reducible repeat (first | apply Kd.R_alloc | apply Kd.R_drewN | apply Kd.R_drew)); exact HO_3.out) hb); have n1_ := Aside0.mk (Kd.N_below (by (with_reducible repeat (first | apply Kd.N_alloc | apply Kd.N_drewN | apply Kd.N_drew)); exact HO_5.out) hb); have n2_ := Aside0.mk (Kd.R_below (by (with_reducible repeat (first | apply Kd.R_alloc | apply Kd.R_drewN | apply Kd.R_drew)); exact HO_7.out) hb); have n3_ := Aside0.mk (zbb BK287.out hb); have n4_ := Aside0.mk (below_step (zw1 HB.out GE287.out) hb); clear HO_3 HO_5 HO_7 BK287 HB; have HO_3 := n0_; have HO_5 := n1_; have HO_7 := n2_; have BK287 := n3_; have HB := n4_; clear n0_ n1_ n2_ n3_ n4_; (try clear hb); (try clear hb2); (try clear hk); (try clear hi)) | ((with_reducible refine gate_dst (N := 10) rfl ?_); (try (refine gate_guard (by rfl) ?_; dsimp only)); refine zbox (N := 10) (cs := #[.bool false, .int .i64 0, .int .i64 0, .int .i64 0]) (t := 33) ?_; intro gb307 hg w35 hbox hb; have n0_ := Aside0.mk (Kd.R_below (by (with_reducible repeat (first | apply Kd.R_alloc | apply Kd.R_drewN | apply Kd.R_drew)); exact HO_3.out) hb); have n1_ := Aside0.mk (Kd.N_below (Kd.N_elderB (by (with_reducible repeat (first | apply Kd.N_alloc | apply Kd.N_drewN | apply Kd.N_drew)); exact HO_5.out) gb307 (Nat.le_of_eq hg.symm)) hb); have n2_ := Aside0.mk (Kd.R_below (by (with_reducible repeat (first | apply Kd.R_alloc | apply Kd.R_drewN | apply Kd.R_drew)); exact HO_7.out) hb); have n3_ := Aside0.mk (zbb BK287.out hb); have n4_ := Aside0.mk (below_step (zw1 HB.out GE287.out) hb); have BK307 := Aside0.mk (hbox); have GW307 := Aside0.mk (zg hg (below_size (zw1 HB.out GE287.out))); have GE307 := GW307; have NB287_307 := Aside0.mk (zlt hg BK287.out); have NB307_287 := Aside0.mk (zgt hg BK287.out); clear HO_3 HO_5 HO_7 BK287 HB; have HO_3 := n0_; have HO_5 := n1_; have HO_7 := n2_; have BK287 := n3_; have HB := n4_; clear n0_ n1_ n2_ n3_ n4_; clear hb hbox hg; have hnb36 := NB307_287.out; have hnc36 := NB287_307.out; have hcz37_0 := zc BK307.out 0; have hcz37_1 := zc BK307.out 1; have hcz37_2 := zc BK307.out 2; have hcz37_3 := zc BK307.out 3; have hfz37_0 := blk_frozen BK307.out 0; have hfz37_1 := blk_frozen BK307.out 1; have hfz37_2 := blk_frozen BK307.out 2; have hfz37_3 := blk_frozen BK307.out 3) | ((with_reducible refine gate_dst (N := 14) rfl ?_); (try (refine gate_guard (by rfl) ?_; dsimp only)); refine zbox (N := 14) (cs := #[.bool false, .int .i64 0, .int .i64 0, .int .i64 0]) (t := 33) ?_; intro gb308 hg w38 hbox hb; have n0_ := Aside0.mk (Kd.R_below (by (with_reducible repeat (first | apply Kd.R_alloc | apply Kd.R_drewN | apply Kd.R_drew)); exact (Kd.R_mono (Kd.R_far (p := ⟨gb307, 3, none⟩) (Kd.R_far (p := ⟨gb307, 2, none⟩) (Kd.R_far (p := ⟨gb307, 1, none⟩) (Kd.R_far (p := ⟨gb307, 0, none⟩) (Kd.R_types HO_3.out BK307.out (by decide)) (fun _ hk => hk.2) (.bool t301)) (fun _ hk => hk.2) (.int .i64 t302)) (fun _ hk => hk.2) (.int .i64 t303)) (fun _ hk => hk.2) (.int .i64 t304)) (fun _ h_ => h_.1))) hb); have n1_ := Aside0.mk (Kd.N_below (Kd.N_elderB (by (with_reducible repeat (first | apply Kd.N_alloc | apply Kd.N_drewN | apply Kd.N_drew)); exact (Kd.N_mono (Kd.N_far (p := ⟨gb307, 3, none⟩) (Kd.N_far (p := ⟨gb307, 2, none⟩) (Kd.N_far (p := ⟨gb307, 1, none⟩) (Kd.N_far (p := ⟨gb307, 0, none⟩) (Kd.N_mono HO_5.out (fun k_ hk => (⟨hk, hk.2⟩ : _ ∧ k_ ≠ gb307))) (fun _ hk => hk.2) (.bool t301)) (fun _ hk => hk.2) (.int .i64 t302)) (fun _ hk => hk.2) (.int .i64 t303)) (fun _ hk => hk.2) (.int .i64 t304)) (fun _ h_ => h_.1))) gb308 (Nat.le_of_eq hg.symm)) hb); have n2_ := Aside0.mk (Kd.R_below (by (with_reducible repeat (first | apply Kd.R_alloc | apply Kd.R_drewN | apply Kd.R_drew)); exact (Kd.R_mono (Kd.R_far (p := ⟨gb307, 3, none⟩) (Kd.R_far (p := ⟨gb307, 2, none⟩) (Kd.R_far (p := ⟨gb307, 1, none⟩) (Kd.R_far (p := ⟨gb307, 0, none⟩) (Kd.R_types HO_7.out BK307.out (by decide)) (fun _ hk => hk.2) (.bool t301)) (fun _ hk => hk.2) (.int .i64 t302)) (fun _ hk => hk.2) (.int .i64 t303)) (fun _ hk => hk.2) (.int .i64 t304)) (fun _ h_ => h_.1))) hb); have n3_ := Aside0.mk (blk_below (g := gb287) (o := .cells #[.slice A0_0 l0_0.length c0_0, .slice A0_1 l0_1.length c0_1, .slice A0_2 l0_2.length c0_2] 26 (0, 0)) (zf1 BK287.out NB287_307.out) hb); have n4_ := Aside0.mk (blk_below (g := gb307) (o := .cells #[.bool t301, .int .i64 t302, .int .i64 t303, .int .i64 t304] 33 (0, 0)) (by (with_reducible repeat (first | refine blk_drewN ?_ _ | refine blk_drew ?_ | refine blk_alloc ?_ _)); refine blk_put (cs := #[.bool t301, .int .i64 t302, .int .i64 t303, .int .i64 0]) ?_ 3 _ rfl; (with_reducible repeat (first | refine blk_drewN ?_ _ | refine blk_drew ?_ | refine blk_alloc ?_ _)); refine blk_put (cs := #[.bool t301, .int .i64 t302, .int .i64 0, .int .i64 0]) ?_ 2 _ rfl; (with_reducible repeat (first | refine blk_drewN ?_ _ | refine blk_drew ?_ | refine blk_alloc ?_ _)); refine blk_put (cs := #[.bool t301, .int .i64 0, .int .i64 0, .int .i64 0]) ?_ 1 _ rfl; (with_reducible repeat (first | refine blk_drewN ?_ _ | refine blk_drew ?_ | refine blk_alloc ?_ _)); refine blk_put (cs := #[.bool false, .int .i64 0, .int .i64 0, .int .i64 0]) ?_ 0 _ rfl; (with_reducible repeat (first | refine blk_drewN ?_ _ | refine blk_drew ?_ | refine blk_alloc ?_ _)); exact BK307.out) hb); have n5_ := Aside0.mk (below_step (zw2 HB.out GE287.out GE307.out) hb); have BK308 := Aside0.mk (hbox); have GW308 := Aside0.mk (zg hg (below_size (zw2 HB.out GE287.out GE307.out))); have GE308 := GW308; have NB287_308 := Aside0.mk ((by rw [hg]; exact Nat.ne_of_lt (blk_lt (g := gb287) (o := .cells #[.slice A0_0 l0_0.length c0_0, .slice A0_1 l0_1.length c0_1, .slice A0_2 l0_2.length c0_2] 26 (0, 0)) (zf1 BK287.out NB287_307.out)) : gb287 ≠ gb308)); have NB308_287 := Aside0.mk ((by rw [hg]; exact Nat.ne_of_gt (blk_lt (g := gb287) (o := .cells #[.slice A0_0 l0_0.length c0_0, .slice A0_1 l0_1.length c0_1, .slice A0_2 l0_2.length c0_2] 26 (0, 0)) (zf1 BK287.out NB287_307.out)) : gb308 ≠ gb287)); have NB307_308 := Aside0.mk ((by rw [hg]; exact Nat.ne_of_lt (blk_lt (g := gb307) (o := .cells #[.bool t301, .int .i64 t302, .int .i64 t303, .int .i64 t304] 33 (0, 0)) (by (with_reducible repeat (first | refine blk_drewN ?_ _ | refine blk_drew ?_ | refine blk_alloc ?_ _)); refine blk_put (cs := #[.bool t301, .int .i64 t302, .int .i64 t303, .int .i64 0]) ?_ 3 _ rfl; (with_reducible repeat (first | refine blk_drewN ?_ _ | refine blk_drew ?_ | refine blk_alloc ?_ _)); refine blk_put (cs := #[.bool t301, .int .i64 t302, .int .i64 0, .int .i64 0]) ?_ 2 _ rfl; (with_reducible repeat (first | refine blk_drewN ?_ _ | refine blk_drew ?_ | refine blk_alloc ?_ _)); refine blk_put (cs := #[.bool t301, .int .i64 0, .int .i64 0, .int .i64 0]) ?_ 1 _ rfl; (with_reducible repeat (first | refine blk_drewN ?_ _ | refine blk_drew ?_ | refine blk_alloc ?_ _)); refine blk_put (cs := #[.bool false, .int .i64 0, .int .i64 0, .int .i64 0]) ?_ 0 _ rfl; (with_reducible repeat (first | refine blk_drewN ?_ _ | refine blk_drew ?_ | refine blk_alloc ?_ _)); exact BK307.out)) : gb307 ≠ gb308)); have NB308_307 := Aside0.mk ((by rw [hg]; exact Nat.ne_of_gt (blk_lt (g := gb307) (o := .cells #[.bool t301, .int .i64 t302, .int .i64 t303, .int .i64 t304] 33 (0, 0)) (by (with_reducible repeat (first | refine blk_drewN ?_ _ | refine blk_drew ?_ | refine blk_alloc ?_ _)); refine blk_put (cs := #[.bool t301, .int .i64 t302, .int .i64 t303, .int .i64 0]) ?_ 3 _ rfl; (with_reducible repeat (first | refine blk_drewN ?_ _ | refine blk_drew ?_ | refine blk_alloc ?_ _)); refine blk_put (cs := #[.bool t301, .int .i64 t302, .int .i64 0, .int .i64 0]) ?_ 2 _ rfl; (with_reducible repeat (first | refine blk_drewN ?_ _ | refine blk_drew ?_ | refine blk_alloc ?_ _)); refine blk_put (cs := #[.bool t301, .int .i64 0, .int .i64 0, .int .i64 0]) ?_ 1 _ rfl; (with_reducible repeat (first | refine blk_drewN ?_ _ | refine blk_drew ?_ | refine blk_alloc ?_ _)); refine blk_put (cs := #[.bool false, .int .i64 0, .int .i64 0, .int .i64 0]) ?_ 0 _ rfl; (with_reducible repeat (first | refine blk_drewN ?_ _ | refine blk_drew ?_ | refine blk_alloc ?_ _)); exact BK307.out)) : gb308 ≠ gb307)); clear HO_3 HO_5 HO_7 BK287 BK307 HB; have HO_3 := n0_; have HO_5 := n1_; have HO_7 := n2_; have BK287 := n3_; have BK307 := n4_; have HB := n5_; clear n0_ n1_ n2_ n3_ n4_ n5_; clear hb hbox hg; have hnb39 := NB308_287.out; have hnc39 := NB287_308.out; have hnb40 := NB308_307.out; have hnc40 := NB307_308.out; have hcz41_0 := zc BK308.out 0; have hcz41_1 := zc BK308.out 1; have hcz41_2 := zc BK308.out 2; have hcz41_3 := zc BK308.out 3; have hfz41_0 := blk_frozen BK308.out 0; have hfz41_1 := blk_frozen BK308.out 1; have hfz41_2 := blk_frozen BK308.out 2; have hfz41_3 := blk_frozen BK308.out 3))
             (try simp only [Act.put, List.setIfInBounds_toArray, List.set_cons_zero, List.set_cons_succ])
             go_cut [89] (fun v89 wc => ∃ (kq : Nat) (x89_31 : Bool), v89 = .bool x89_31 ∧ Aside0 (cellarlaw8_BytesGet.j5 kq t289 x4_1 t293 x6_2 t297 x8_4 x9_5 t305 t306 1 0 x89_31 l0_0 l0_1 l0_2 t301 t302 t303 t304 false 0 0 0 = some r) ∧ Aside0 (kq ≤ k5) ∧ Aside0 (Kd.R k38 38 wc w.heap.size (fun _ => True) (.slice (some ad300) t289.length co16) t289) ∧ Aside0 (Kd.N (Kd.slice 51 k51) 24 wc w.heap.size (fun k_ => some k_ ≠ ((.slice (some ad300) t289.length co16) : Value).ownBlock ∧ some k_ ≠ ((.slice Ao33 t297.length co33) : Value).ownBlock ∧ k_ ≠ gb287 ∧ k_ ≠ gb307 ∧ k_ ≠ gb308) (.slice (some ad296) t293.length co26) t293) ∧ Aside0 (Kd.R k51 51 wc w.heap.size (fun _ => True) (.slice Ao33 t297.length co33) t297) ∧ Aside0 (wc.heap[gb287]? = some (.cells #[(.slice A0_0 l0_0.length c0_0), (.slice A0_1 l0_1.length c0_1), (.slice A0_2 l0_2.length c0_2)] 26 (0, 0))) ∧ Aside0 (wc.heap[gb307]? = some (.cells #[.bool t301, .int .i64 t302, .int .i64 t303, .int .i64 t304] 33 (0, 0))) ∧ Aside0 (wc.heap[gb308]? = some (.cells #[.bool false, .int .i64 0, .int .i64 0, .int .i64 0] 33 (0, 0))) ∧ Aside0 (Below w.heap.size w wc))
             case first =>
              have H := HC32.out
              clear HC32
              replace H := Option.bind_eq_some_iff.mp H
              obtain ⟨t310, A420, H⟩ := H
              replace H : (if t310 = true then ((cellarref1_Kind.f x8_4).bind fun t311 => (if t311 = true then ((cellarref1_Size.f k5 ((rd_T38 t289 x9_5).f0) ((rd_T38 t289 x9_5).f1) x8_4).bind fun t313 => (if (t297.length : Int) = t313 then ((cellarref7_Bytes.f k5 t297).bind fun t314 => (cellarlaw8_BytesGet.j5 k5 t289 x4_1 t293 x6_2 t297 x8_4 x9_5 t305 t306 1 0 t314 l0_0 l0_1 l0_2 t301 t302 t303 t304 false 0 0 0)) else (cellarlaw8_BytesGet.j5 k5 t289 x4_1 t293 x6_2 t297 x8_4 x9_5 t305 t306 1 0 false l0_0 l0_1 l0_2 t301 t302 t303 t304 false 0 0 0))) else (cellarlaw8_BytesGet.j5 k5 t289 x4_1 t293 x6_2 t297 x8_4 x9_5 t305 t306 1 0 false l0_0 l0_1 l0_2 t301 t302 t303 t304 false 0 0 0))) else (cellarlaw8_BytesGet.j5 k5 t289 x4_1 t293 x6_2 t297 x8_4 x9_5 t305 t306 1 0 false l0_0 l0_1 l0_2 t301 t302 t303 t304 false 0 0 0)) = some r := H
              have A42 := Aside0.mk A420
              clear A420
              by_cases c43 : t310 = true
              rotate_left
              ·replace c43 := Bool.eq_false_iff.mpr c43
               subst c43
               have H1 : (cellarlaw8_BytesGet.j5 k5 t289 x4_1 t293 x6_2 t297 x8_4 x9_5 t305 t306 1 0 false l0_0 l0_1 l0_2 t301 t302 t303 t304 false 0 0 0) = some r := by rw [if_neg (show ¬ (false = true) by decide)] at H; exact H
               clear H
               have H := H1
               clear H1
               have H' := Aside0.mk H
               clear H
               have p309 : 0 ≤ (x9_5 : Int) := zdec
               have q309 : x9_5 < (t289.length : Int) := zdec
               obtain ⟨ad309, e309, hx309_0, hx309_1⟩ := at_T38 (Kd.R_reads' HO_3.out).2.2 x9_5 p309 q309
               obtain rfl : ad300 = ad309 := (by injection e309)
               have hn309_0 : ad300.block ≠ gb308 := Kd.own_blk (Kd.R_ne HO_3.out BK308.out (by decide))
               have hn309_1 : ad300.block ≠ gb308 := Kd.own_blk (Kd.R_ne HO_3.out BK308.out (by decide))
               have hn309_2 : ad300.block ≠ gb308 := Kd.own_blk (Kd.R_ne HO_3.out BK308.out (by decide))
               have hn309_3 : ad300.block ≠ gb308 := Kd.own_blk (Kd.R_ne HO_3.out BK308.out (by decide))
               replace hx309_0 := (cell_far (p := ⟨gb308, 0, none⟩) (zy hn309_0) (.bool false)).trans hx309_0
               replace hx309_1 := (cell_far (p := ⟨gb308, 0, none⟩) (zy hn309_0) (.bool false)).trans hx309_1
               replace hx309_0 := (cell_far (p := ⟨gb308, 1, none⟩) (zy hn309_1) (.int .i64 0)).trans hx309_0
               replace hx309_1 := (cell_far (p := ⟨gb308, 1, none⟩) (zy hn309_1) (.int .i64 0)).trans hx309_1
               replace hx309_0 := (cell_far (p := ⟨gb308, 2, none⟩) (zy hn309_2) (.int .i64 0)).trans hx309_0
               replace hx309_1 := (cell_far (p := ⟨gb308, 2, none⟩) (zy hn309_2) (.int .i64 0)).trans hx309_1
               replace hx309_0 := (cell_far (p := ⟨gb308, 3, none⟩) (zy hn309_3) (.int .i64 0)).trans hx309_0
               replace hx309_1 := (cell_far (p := ⟨gb308, 3, none⟩) (zy hn309_3) (.int .i64 0)).trans hx309_1
               clear hn309_0
               clear hn309_1
               clear hn309_2
               clear hn309_3
               replace p309 := eq_true p309
               replace q309 := eq_true q309
               go_wp2_with (first | ((with_reducible refine gate_callee (f := 18) rfl ?_); refine zgo (some 70) Try.func18 #[.agg #[.bool ((rd_T38 t289 x9_5).f0), .int .i64 ((rd_T38 t289 x9_5).f1)]] ?_; (with_reducible refine (cellarref1_Abi.calls ((rd_T38 t289 x9_5).f0) ((rd_T38 t289 x9_5).f1) false _ A42.out).mono ?_); rintro e w55 ⟨rfl, hb⟩; refine ⟨_, rfl, ?_⟩; have n0_ := Aside0.mk (Kd.R_below (by (with_reducible repeat (first | apply Kd.R_alloc | apply Kd.R_drewN | apply Kd.R_drew)); exact (Kd.R_mono (Kd.R_far (p := ⟨gb308, 3, none⟩) (Kd.R_far (p := ⟨gb308, 2, none⟩) (Kd.R_far (p := ⟨gb308, 1, none⟩) (Kd.R_far (p := ⟨gb308, 0, none⟩) (Kd.R_types HO_3.out BK308.out (by decide)) (fun _ hk => hk.2) (.bool false)) (fun _ hk => hk.2) (.int .i64 0)) (fun _ hk => hk.2) (.int .i64 0)) (fun _ hk => hk.2) (.int .i64 0)) (fun _ h_ => h_.1))) hb); have n1_ := Aside0.mk (Kd.N_below (by (with_reducible repeat (first | apply Kd.N_alloc | apply Kd.N_drewN | apply Kd.N_drew)); exact (Kd.N_mono (Kd.N_far (p := ⟨gb308, 3, none⟩) (Kd.N_far (p := ⟨gb308, 2, none⟩) (Kd.N_far (p := ⟨gb308, 1, none⟩) (Kd.N_far (p := ⟨gb308, 0, none⟩) (Kd.N_mono HO_5.out (fun k_ hk => (⟨hk, hk.2⟩ : _ ∧ k_ ≠ gb308))) (fun _ hk => hk.2) (.bool false)) (fun _ hk => hk.2) (.int .i64 0)) (fun _ hk => hk.2) (.int .i64 0)) (fun _ hk => hk.2) (.int .i64 0)) (fun _ h_ => h_.1))) hb); have n2_ := Aside0.mk (Kd.R_below (by (with_reducible repeat (first | apply Kd.R_alloc | apply Kd.R_drewN | apply Kd.R_drew)); exact (Kd.R_mono (Kd.R_far (p := ⟨gb308, 3, none⟩) (Kd.R_far (p := ⟨gb308, 2, none⟩) (Kd.R_far (p := ⟨gb308, 1, none⟩) (Kd.R_far (p := ⟨gb308, 0, none⟩) (Kd.R_types HO_7.out BK308.out (by decide)) (fun _ hk => hk.2) (.bool false)) (fun _ hk => hk.2) (.int .i64 0)) (fun _ hk => hk.2) (.int .i64 0)) (fun _ hk => hk.2) (.int .i64 0)) (fun _ h_ => h_.1))) hb); have n3_ := Aside0.mk (blk_below (g := gb287) (o := .cells #[.slice A0_0 l0_0.length c0_0, .slice A0_1 l0_1.length c0_1, .slice A0_2 l0_2.length c0_2] 26 (0, 0)) (zf1 BK287.out NB287_308.out) hb); have n4_ := Aside0.mk (blk_below (g := gb307) (o := .cells #[.bool t301, .int .i64 t302, .int .i64 t303, .int .i64 t304] 33 (0, 0)) (zf1 BK307.out NB307_308.out) hb); have n5_ := Aside0.mk (blk_below (g := gb308) (o := .cells #[.bool false, .int .i64 0, .int .i64 0, .int .i64 0] 33 (0, 0)) (by (with_reducible repeat (first | refine blk_drewN ?_ _ | refine blk_drew ?_ | refine blk_alloc ?_ _)); refine blk_put (cs := #[.bool false, .int .i64 0, .int .i64 0, .int .i64 0]) ?_ 3 _ rfl; (with_reducible repeat (first | refine blk_drewN ?_ _ | refine blk_drew ?_ | refine blk_alloc ?_ _)); refine blk_put (cs := #[.bool false, .int .i64 0, .int .i64 0, .int .i64 0]) ?_ 2 _ rfl; (with_reducible repeat (first | refine blk_drewN ?_ _ | refine blk_drew ?_ | refine blk_alloc ?_ _)); refine blk_put (cs := #[.bool false, .int .i64 0, .int .i64 0, .int .i64 0]) ?_ 1 _ rfl; (with_reducible repeat (first | refine blk_drewN ?_ _ | refine blk_drew ?_ | refine blk_alloc ?_ _)); refine blk_put (cs := #[.bool false, .int .i64 0, .int .i64 0, .int .i64 0]) ?_ 0 _ rfl; (with_reducible repeat (first | refine blk_drewN ?_ _ | refine blk_drew ?_ | refine blk_alloc ?_ _)); exact BK308.out) hb); have n6_ := Aside0.mk (below_step (zw3 HB.out GE287.out GE307.out GE308.out) hb); clear HO_3 HO_5 HO_7 BK287 BK307 BK308 HB; have HO_3 := n0_; have HO_5 := n1_; have HO_7 := n2_; have BK287 := n3_; have BK307 := n4_; have BK308 := n5_; have HB := n6_; clear n0_ n1_ n2_ n3_ n4_ n5_ n6_; (try clear hb); (try clear hb2); (try clear hk); (try clear hi)))
               go_meet
               case rel => exact ⟨_, (false), (zr), H', ⟨by have := HK1.out; have := HK2.out; have := HJ17.out; have := HK4.out; have := HK5.out; first | omega | exact Nat.le_refl _⟩, ⟨by (with_reducible repeat (first | apply Kd.R_alloc | apply Kd.R_drewN | apply Kd.R_drew)); exact HO_3.out⟩, ⟨by (with_reducible repeat (first | apply Kd.N_alloc | apply Kd.N_drewN | apply Kd.N_drew)); exact Kd.N_mono HO_5.out (fun _ hk => ⟨hk.1.1.1, ⟨hk.1.1.2.1, ⟨hk.1.1.2.2, ⟨hk.1.2, hk.2⟩⟩⟩⟩)⟩, ⟨by (with_reducible repeat (first | apply Kd.R_alloc | apply Kd.R_drewN | apply Kd.R_drew)); exact HO_7.out⟩, ⟨zb BK287.out⟩, ⟨zb BK307.out⟩, ⟨zb BK308.out⟩, ⟨zw3 HB.out GE287.out GE307.out GE308.out⟩⟩
              subst c43
              have H1 : ((cellarref1_Kind.f x8_4).bind fun t311 => (if t311 = true then ((cellarref1_Size.f k5 ((rd_T38 t289 x9_5).f0) ((rd_T38 t289 x9_5).f1) x8_4).bind fun t313 => (if (t297.length : Int) = t313 then ((cellarref7_Bytes.f k5 t297).bind fun t314 => (cellarlaw8_BytesGet.j5 k5 t289 x4_1 t293 x6_2 t297 x8_4 x9_5 t305 t306 1 0 t314 l0_0 l0_1 l0_2 t301 t302 t303 t304 false 0 0 0)) else (cellarlaw8_BytesGet.j5 k5 t289 x4_1 t293 x6_2 t297 x8_4 x9_5 t305 t306 1 0 false l0_0 l0_1 l0_2 t301 t302 t303 t304 false 0 0 0))) else (cellarlaw8_BytesGet.j5 k5 t289 x4_1 t293 x6_2 t297 x8_4 x9_5 t305 t306 1 0 false l0_0 l0_1 l0_2 t301 t302 t303 t304 false 0 0 0))) = some r := by rw [if_pos rfl] at H; exact H
              clear H
              have H := H1
              clear H1
              replace H := Option.bind_eq_some_iff.mp H
              obtain ⟨t311, A440, H⟩ := H
              replace H : (if t311 = true then ((cellarref1_Size.f k5 ((rd_T38 t289 x9_5).f0) ((rd_T38 t289 x9_5).f1) x8_4).bind fun t313 => (if (t297.length : Int) = t313 then ((cellarref7_Bytes.f k5 t297).bind fun t314 => (cellarlaw8_BytesGet.j5 k5 t289 x4_1 t293 x6_2 t297 x8_4 x9_5 t305 t306 1 0 t314 l0_0 l0_1 l0_2 t301 t302 t303 t304 false 0 0 0)) else (cellarlaw8_BytesGet.j5 k5 t289 x4_1 t293 x6_2 t297 x8_4 x9_5 t305 t306 1 0 false l0_0 l0_1 l0_2 t301 t302 t303 t304 false 0 0 0))) else (cellarlaw8_BytesGet.j5 k5 t289 x4_1 t293 x6_2 t297 x8_4 x9_5 t305 t306 1 0 false l0_0 l0_1 l0_2 t301 t302 t303 t304 false 0 0 0)) = some r := H
              have A44 := Aside0.mk A440
              clear A440
              by_cases c45 : t311 = true
              rotate_left
              ·replace c45 := Bool.eq_false_iff.mpr c45
               subst c45
               have H1 : (cellarlaw8_BytesGet.j5 k5 t289 x4_1 t293 x6_2 t297 x8_4 x9_5 t305 t306 1 0 false l0_0 l0_1 l0_2 t301 t302 t303 t304 false 0 0 0) = some r := by rw [if_neg (show ¬ (false = true) by decide)] at H; exact H
               clear H
               have H := H1
               clear H1
               have H' := Aside0.mk H
               clear H
               have p309 : 0 ≤ (x9_5 : Int) := zdec
               have q309 : x9_5 < (t289.length : Int) := zdec
               obtain ⟨ad309, e309, hx309_0, hx309_1⟩ := at_T38 (Kd.R_reads' HO_3.out).2.2 x9_5 p309 q309
               obtain rfl : ad300 = ad309 := (by injection e309)
               have hn309_0 : ad300.block ≠ gb308 := Kd.own_blk (Kd.R_ne HO_3.out BK308.out (by decide))
               have hn309_1 : ad300.block ≠ gb308 := Kd.own_blk (Kd.R_ne HO_3.out BK308.out (by decide))
               have hn309_2 : ad300.block ≠ gb308 := Kd.own_blk (Kd.R_ne HO_3.out BK308.out (by decide))
               have hn309_3 : ad300.block ≠ gb308 := Kd.own_blk (Kd.R_ne HO_3.out BK308.out (by decide))
               replace hx309_0 := (cell_far (p := ⟨gb308, 0, none⟩) (zy hn309_0) (.bool false)).trans hx309_0
               replace hx309_1 := (cell_far (p := ⟨gb308, 0, none⟩) (zy hn309_0) (.bool false)).trans hx309_1
               replace hx309_0 := (cell_far (p := ⟨gb308, 1, none⟩) (zy hn309_1) (.int .i64 0)).trans hx309_0
               replace hx309_1 := (cell_far (p := ⟨gb308, 1, none⟩) (zy hn309_1) (.int .i64 0)).trans hx309_1
               replace hx309_0 := (cell_far (p := ⟨gb308, 2, none⟩) (zy hn309_2) (.int .i64 0)).trans hx309_0
               replace hx309_1 := (cell_far (p := ⟨gb308, 2, none⟩) (zy hn309_2) (.int .i64 0)).trans hx309_1
               replace hx309_0 := (cell_far (p := ⟨gb308, 3, none⟩) (zy hn309_3) (.int .i64 0)).trans hx309_0
               replace hx309_1 := (cell_far (p := ⟨gb308, 3, none⟩) (zy hn309_3) (.int .i64 0)).trans hx309_1
               clear hn309_0
               clear hn309_1
               clear hn309_2
               clear hn309_3
               replace p309 := eq_true p309
               replace q309 := eq_true q309
               go_wp2_with (first | ((with_reducible refine gate_callee (f := 18) rfl ?_); refine zgo (some 70) Try.func18 #[.agg #[.bool ((rd_T38 t289 x9_5).f0), .int .i64 ((rd_T38 t289 x9_5).f1)]] ?_; (with_reducible refine (cellarref1_Abi.calls ((rd_T38 t289 x9_5).f0) ((rd_T38 t289 x9_5).f1) true _ A42.out).mono ?_); rintro e w54 ⟨rfl, hb⟩; refine ⟨_, rfl, ?_⟩; have n0_ := Aside0.mk (Kd.R_below (by (with_reducible repeat (first | apply Kd.R_alloc | apply Kd.R_drewN | apply Kd.R_drew)); exact (Kd.R_mono (Kd.R_far (p := ⟨gb308, 3, none⟩) (Kd.R_far (p := ⟨gb308, 2, none⟩) (Kd.R_far (p := ⟨gb308, 1, none⟩) (Kd.R_far (p := ⟨gb308, 0, none⟩) (Kd.R_types HO_3.out BK308.out (by decide)) (fun _ hk => hk.2) (.bool false)) (fun _ hk => hk.2) (.int .i64 0)) (fun _ hk => hk.2) (.int .i64 0)) (fun _ hk => hk.2) (.int .i64 0)) (fun _ h_ => h_.1))) hb); have n1_ := Aside0.mk (Kd.N_below (by (with_reducible repeat (first | apply Kd.N_alloc | apply Kd.N_drewN | apply Kd.N_drew)); exact (Kd.N_mono (Kd.N_far (p := ⟨gb308, 3, none⟩) (Kd.N_far (p := ⟨gb308, 2, none⟩) (Kd.N_far (p := ⟨gb308, 1, none⟩) (Kd.N_far (p := ⟨gb308, 0, none⟩) (Kd.N_mono HO_5.out (fun k_ hk => (⟨hk, hk.2⟩ : _ ∧ k_ ≠ gb308))) (fun _ hk => hk.2) (.bool false)) (fun _ hk => hk.2) (.int .i64 0)) (fun _ hk => hk.2) (.int .i64 0)) (fun _ hk => hk.2) (.int .i64 0)) (fun _ h_ => h_.1))) hb); have n2_ := Aside0.mk (Kd.R_below (by (with_reducible repeat (first | apply Kd.R_alloc | apply Kd.R_drewN | apply Kd.R_drew)); exact (Kd.R_mono (Kd.R_far (p := ⟨gb308, 3, none⟩) (Kd.R_far (p := ⟨gb308, 2, none⟩) (Kd.R_far (p := ⟨gb308, 1, none⟩) (Kd.R_far (p := ⟨gb308, 0, none⟩) (Kd.R_types HO_7.out BK308.out (by decide)) (fun _ hk => hk.2) (.bool false)) (fun _ hk => hk.2) (.int .i64 0)) (fun _ hk => hk.2) (.int .i64 0)) (fun _ hk => hk.2) (.int .i64 0)) (fun _ h_ => h_.1))) hb); have n3_ := Aside0.mk (blk_below (g := gb287) (o := .cells #[.slice A0_0 l0_0.length c0_0, .slice A0_1 l0_1.length c0_1, .slice A0_2 l0_2.length c0_2] 26 (0, 0)) (zf1 BK287.out NB287_308.out) hb); have n4_ := Aside0.mk (blk_below (g := gb307) (o := .cells #[.bool t301, .int .i64 t302, .int .i64 t303, .int .i64 t304] 33 (0, 0)) (zf1 BK307.out NB307_308.out) hb); have n5_ := Aside0.mk (blk_below (g := gb308) (o := .cells #[.bool false, .int .i64 0, .int .i64 0, .int .i64 0] 33 (0, 0)) (by (with_reducible repeat (first | refine blk_drewN ?_ _ | refine blk_drew ?_ | refine blk_alloc ?_ _)); refine blk_put (cs := #[.bool false, .int .i64 0, .int .i64 0, .int .i64 0]) ?_ 3 _ rfl; (with_reducible repeat (first | refine blk_drewN ?_ _ | refine blk_drew ?_ | refine blk_alloc ?_ _)); refine blk_put (cs := #[.bool false, .int .i64 0, .int .i64 0, .int .i64 0]) ?_ 2 _ rfl; (with_reducible repeat (first | refine blk_drewN ?_ _ | refine blk_drew ?_ | refine blk_alloc ?_ _)); refine blk_put (cs := #[.bool false, .int .i64 0, .int .i64 0, .int .i64 0]) ?_ 1 _ rfl; (with_reducible repeat (first | refine blk_drewN ?_ _ | refine blk_drew ?_ | refine blk_alloc ?_ _)); refine blk_put (cs := #[.bool false, .int .i64 0, .int .i64 0, .int .i64 0]) ?_ 0 _ rfl; (with_reducible repeat (first | refine blk_drewN ?_ _ | refine blk_drew ?_ | refine blk_alloc ?_ _)); exact BK308.out) hb); have n6_ := Aside0.mk (below_step (zw3 HB.out GE287.out GE307.out GE308.out) hb); clear HO_3 HO_5 HO_7 BK287 BK307 BK308 HB; have HO_3 := n0_; have HO_5 := n1_; have HO_7 := n2_; have BK287 := n3_; have BK307 := n4_; have BK308 := n5_; have HB := n6_; clear n0_ n1_ n2_ n3_ n4_ n5_ n6_; (try clear hb); (try clear hb2); (try clear hk); (try clear hi)) | (go_at_call 19; (with_reducible refine (cellarref1_Kind.calls x8_4 false _ A44.out).mono ?_); rintro e w' ⟨rfl, ⟨nd, rfl⟩⟩))
               go_meet
               case rel => exact ⟨_, (false), (zr), H', ⟨by have := HK1.out; have := HK2.out; have := HJ17.out; have := HK4.out; have := HK5.out; first | omega | exact Nat.le_refl _⟩, ⟨by (with_reducible repeat (first | apply Kd.R_alloc | apply Kd.R_drewN | apply Kd.R_drew)); exact HO_3.out⟩, ⟨by (with_reducible repeat (first | apply Kd.N_alloc | apply Kd.N_drewN | apply Kd.N_drew)); exact Kd.N_mono HO_5.out (fun _ hk => ⟨hk.1.1.1, ⟨hk.1.1.2.1, ⟨hk.1.1.2.2, ⟨hk.1.2, hk.2⟩⟩⟩⟩)⟩, ⟨by (with_reducible repeat (first | apply Kd.R_alloc | apply Kd.R_drewN | apply Kd.R_drew)); exact HO_7.out⟩, ⟨zb BK287.out⟩, ⟨zb BK307.out⟩, ⟨zb BK308.out⟩, ⟨zw3 HB.out GE287.out GE307.out GE308.out⟩⟩
              subst c45
              have H1 : ((cellarref1_Size.f k5 ((rd_T38 t289 x9_5).f0) ((rd_T38 t289 x9_5).f1) x8_4).bind fun t313 => (if (t297.length : Int) = t313 then ((cellarref7_Bytes.f k5 t297).bind fun t314 => (cellarlaw8_BytesGet.j5 k5 t289 x4_1 t293 x6_2 t297 x8_4 x9_5 t305 t306 1 0 t314 l0_0 l0_1 l0_2 t301 t302 t303 t304 false 0 0 0)) else (cellarlaw8_BytesGet.j5 k5 t289 x4_1 t293 x6_2 t297 x8_4 x9_5 t305 t306 1 0 false l0_0 l0_1 l0_2 t301 t302 t303 t304 false 0 0 0))) = some r := by rw [if_pos rfl] at H; exact H
              clear H
              have H := H1
              clear H1
              replace H := Option.bind_eq_some_iff.mp H
              obtain ⟨t313, A460, H⟩ := H
              replace H : (if (t297.length : Int) = t313 then ((cellarref7_Bytes.f k5 t297).bind fun t314 => (cellarlaw8_BytesGet.j5 k5 t289 x4_1 t293 x6_2 t297 x8_4 x9_5 t305 t306 1 0 t314 l0_0 l0_1 l0_2 t301 t302 t303 t304 false 0 0 0)) else (cellarlaw8_BytesGet.j5 k5 t289 x4_1 t293 x6_2 t297 x8_4 x9_5 t305 t306 1 0 false l0_0 l0_1 l0_2 t301 t302 t303 t304 false 0 0 0)) = some r := H
              have A46 := Aside0.mk A460
              clear A460
              by_cases c47 : (t297.length : Int) = t313
              rotate_left
              ·rw [if_neg c47] at H
               have c47b0 : ((t297.length : Int) == t313) = false := beq_eq_false_iff_ne.mpr c47
               have c47b1 : ((t297.length : Int) != t313) = true := bne_iff_ne.mpr c47
               (first | rw [c47b0] | (simp only [i64_w, i32_w]; rw [c47b0]) | skip)
               have H' := Aside0.mk H
               clear H
               have p309 : 0 ≤ (x9_5 : Int) := zdec
               have q309 : x9_5 < (t289.length : Int) := zdec
               obtain ⟨ad309, e309, hx309_0, hx309_1⟩ := at_T38 (Kd.R_reads' HO_3.out).2.2 x9_5 p309 q309
               obtain rfl : ad300 = ad309 := (by injection e309)
               have hn309_0 : ad300.block ≠ gb308 := Kd.own_blk (Kd.R_ne HO_3.out BK308.out (by decide))
               have hn309_1 : ad300.block ≠ gb308 := Kd.own_blk (Kd.R_ne HO_3.out BK308.out (by decide))
               have hn309_2 : ad300.block ≠ gb308 := Kd.own_blk (Kd.R_ne HO_3.out BK308.out (by decide))
               have hn309_3 : ad300.block ≠ gb308 := Kd.own_blk (Kd.R_ne HO_3.out BK308.out (by decide))
               replace hx309_0 := (cell_far (p := ⟨gb308, 0, none⟩) (zy hn309_0) (.bool false)).trans hx309_0
               replace hx309_1 := (cell_far (p := ⟨gb308, 0, none⟩) (zy hn309_0) (.bool false)).trans hx309_1
               replace hx309_0 := (cell_far (p := ⟨gb308, 1, none⟩) (zy hn309_1) (.int .i64 0)).trans hx309_0
               replace hx309_1 := (cell_far (p := ⟨gb308, 1, none⟩) (zy hn309_1) (.int .i64 0)).trans hx309_1
               replace hx309_0 := (cell_far (p := ⟨gb308, 2, none⟩) (zy hn309_2) (.int .i64 0)).trans hx309_0
               replace hx309_1 := (cell_far (p := ⟨gb308, 2, none⟩) (zy hn309_2) (.int .i64 0)).trans hx309_1
               replace hx309_0 := (cell_far (p := ⟨gb308, 3, none⟩) (zy hn309_3) (.int .i64 0)).trans hx309_0
               replace hx309_1 := (cell_far (p := ⟨gb308, 3, none⟩) (zy hn309_3) (.int .i64 0)).trans hx309_1
               clear hn309_0
               clear hn309_1
               clear hn309_2
               clear hn309_3
               replace p309 := eq_true p309
               replace q309 := eq_true q309
               go_wp2_with (first | ((with_reducible refine gate_callee (f := 18) rfl ?_); refine zgo (some 70) Try.func18 #[.agg #[.bool ((rd_T38 t289 x9_5).f0), .int .i64 ((rd_T38 t289 x9_5).f1)]] ?_; (with_reducible refine (cellarref1_Abi.calls ((rd_T38 t289 x9_5).f0) ((rd_T38 t289 x9_5).f1) true _ A42.out).mono ?_); rintro e w52 ⟨rfl, hb⟩; refine ⟨_, rfl, ?_⟩; have n0_ := Aside0.mk (Kd.R_below (by (with_reducible repeat (first | apply Kd.R_alloc | apply Kd.R_drewN | apply Kd.R_drew)); exact (Kd.R_mono (Kd.R_far (p := ⟨gb308, 3, none⟩) (Kd.R_far (p := ⟨gb308, 2, none⟩) (Kd.R_far (p := ⟨gb308, 1, none⟩) (Kd.R_far (p := ⟨gb308, 0, none⟩) (Kd.R_types HO_3.out BK308.out (by decide)) (fun _ hk => hk.2) (.bool false)) (fun _ hk => hk.2) (.int .i64 0)) (fun _ hk => hk.2) (.int .i64 0)) (fun _ hk => hk.2) (.int .i64 0)) (fun _ h_ => h_.1))) hb); have n1_ := Aside0.mk (Kd.N_below (by (with_reducible repeat (first | apply Kd.N_alloc | apply Kd.N_drewN | apply Kd.N_drew)); exact (Kd.N_mono (Kd.N_far (p := ⟨gb308, 3, none⟩) (Kd.N_far (p := ⟨gb308, 2, none⟩) (Kd.N_far (p := ⟨gb308, 1, none⟩) (Kd.N_far (p := ⟨gb308, 0, none⟩) (Kd.N_mono HO_5.out (fun k_ hk => (⟨hk, hk.2⟩ : _ ∧ k_ ≠ gb308))) (fun _ hk => hk.2) (.bool false)) (fun _ hk => hk.2) (.int .i64 0)) (fun _ hk => hk.2) (.int .i64 0)) (fun _ hk => hk.2) (.int .i64 0)) (fun _ h_ => h_.1))) hb); have n2_ := Aside0.mk (Kd.R_below (by (with_reducible repeat (first | apply Kd.R_alloc | apply Kd.R_drewN | apply Kd.R_drew)); exact (Kd.R_mono (Kd.R_far (p := ⟨gb308, 3, none⟩) (Kd.R_far (p := ⟨gb308, 2, none⟩) (Kd.R_far (p := ⟨gb308, 1, none⟩) (Kd.R_far (p := ⟨gb308, 0, none⟩) (Kd.R_types HO_7.out BK308.out (by decide)) (fun _ hk => hk.2) (.bool false)) (fun _ hk => hk.2) (.int .i64 0)) (fun _ hk => hk.2) (.int .i64 0)) (fun _ hk => hk.2) (.int .i64 0)) (fun _ h_ => h_.1))) hb); have n3_ := Aside0.mk (blk_below (g := gb287) (o := .cells #[.slice A0_0 l0_0.length c0_0, .slice A0_1 l0_1.length c0_1, .slice A0_2 l0_2.length c0_2] 26 (0, 0)) (zf1 BK287.out NB287_308.out) hb); have n4_ := Aside0.mk (blk_below (g := gb307) (o := .cells #[.bool t301, .int .i64 t302, .int .i64 t303, .int .i64 t304] 33 (0, 0)) (zf1 BK307.out NB307_308.out) hb); have n5_ := Aside0.mk (blk_below (g := gb308) (o := .cells #[.bool false, .int .i64 0, .int .i64 0, .int .i64 0] 33 (0, 0)) (by (with_reducible repeat (first | refine blk_drewN ?_ _ | refine blk_drew ?_ | refine blk_alloc ?_ _)); refine blk_put (cs := #[.bool false, .int .i64 0, .int .i64 0, .int .i64 0]) ?_ 3 _ rfl; (with_reducible repeat (first | refine blk_drewN ?_ _ | refine blk_drew ?_ | refine blk_alloc ?_ _)); refine blk_put (cs := #[.bool false, .int .i64 0, .int .i64 0, .int .i64 0]) ?_ 2 _ rfl; (with_reducible repeat (first | refine blk_drewN ?_ _ | refine blk_drew ?_ | refine blk_alloc ?_ _)); refine blk_put (cs := #[.bool false, .int .i64 0, .int .i64 0, .int .i64 0]) ?_ 1 _ rfl; (with_reducible repeat (first | refine blk_drewN ?_ _ | refine blk_drew ?_ | refine blk_alloc ?_ _)); refine blk_put (cs := #[.bool false, .int .i64 0, .int .i64 0, .int .i64 0]) ?_ 0 _ rfl; (with_reducible repeat (first | refine blk_drewN ?_ _ | refine blk_drew ?_ | refine blk_alloc ?_ _)); exact BK308.out) hb); have n6_ := Aside0.mk (below_step (zw3 HB.out GE287.out GE307.out GE308.out) hb); clear HO_3 HO_5 HO_7 BK287 BK307 BK308 HB; have HO_3 := n0_; have HO_5 := n1_; have HO_7 := n2_; have BK287 := n3_; have BK307 := n4_; have BK308 := n5_; have HB := n6_; clear n0_ n1_ n2_ n3_ n4_ n5_ n6_; (try clear hb); (try clear hb2); (try clear hk); (try clear hi)) | (go_at_call 19; (with_reducible refine (cellarref1_Kind.calls x8_4 true _ A44.out).mono ?_); rintro e w' ⟨rfl, ⟨nd, rfl⟩⟩; have p312 : 0 ≤ (x9_5 : Int) := zdec; have q312 : x9_5 < (t289.length : Int) := zdec; obtain ⟨ad312, e312, hx312_0, hx312_1⟩ := at_T38 (Kd.R_reads' HO_3.out).2.2 x9_5 p312 q312; obtain rfl : ad300 = ad312 := (by injection e312); replace p312 := eq_true p312; replace q312 := eq_true q312) | (go_at_call 20; (with_reducible refine (cellarref1_Size.calls k5 ((rd_T38 t289 x9_5).f0) ((rd_T38 t289 x9_5).f1) x8_4 t313 _ A46.out).mono ?_); rintro e w53 ⟨rfl, hb⟩; have n0_ := Aside0.mk (Kd.R_below (by (with_reducible repeat (first | apply Kd.R_alloc | apply Kd.R_drewN | apply Kd.R_drew)); exact HO_3.out) hb); have n1_ := Aside0.mk (Kd.N_below (by (with_reducible repeat (first | apply Kd.N_alloc | apply Kd.N_drewN | apply Kd.N_drew)); exact HO_5.out) hb); have n2_ := Aside0.mk (Kd.R_below (by (with_reducible repeat (first | apply Kd.R_alloc | apply Kd.R_drewN | apply Kd.R_drew)); exact HO_7.out) hb); have n3_ := Aside0.mk (zbb BK287.out hb); have n4_ := Aside0.mk (zbb BK307.out hb); have n5_ := Aside0.mk (zbb BK308.out hb); have n6_ := Aside0.mk (below_step (zw3 HB.out GE287.out GE307.out GE308.out) hb); clear HO_3 HO_5 HO_7 BK287 BK307 BK308 HB; have HO_3 := n0_; have HO_5 := n1_; have HO_7 := n2_; have BK287 := n3_; have BK307 := n4_; have BK308 := n5_; have HB := n6_; clear n0_ n1_ n2_ n3_ n4_ n5_ n6_; (try clear hb); (try clear hb2); (try clear hk); (try clear hi)))
               go_meet
               case rel => exact ⟨_, (false), (zr), H', ⟨by have := HK1.out; have := HK2.out; have := HJ17.out; have := HK4.out; have := HK5.out; first | omega | exact Nat.le_refl _⟩, ⟨by (with_reducible repeat (first | apply Kd.R_alloc | apply Kd.R_drewN | apply Kd.R_drew)); exact HO_3.out⟩, ⟨by (with_reducible repeat (first | apply Kd.N_alloc | apply Kd.N_drewN | apply Kd.N_drew)); exact Kd.N_mono HO_5.out (fun _ hk => ⟨hk.1.1.1, ⟨hk.1.1.2.1, ⟨hk.1.1.2.2, ⟨hk.1.2, hk.2⟩⟩⟩⟩)⟩, ⟨by (with_reducible repeat (first | apply Kd.R_alloc | apply Kd.R_drewN | apply Kd.R_drew)); exact HO_7.out⟩, ⟨zb BK287.out⟩, ⟨zb BK307.out⟩, ⟨zb BK308.out⟩, ⟨zw3 HB.out GE287.out GE307.out GE308.out⟩⟩
              rw [if_pos c47] at H
              have c47b0 : ((t297.length : Int) == t313) = true := beq_iff_eq.mpr c47
              have c47b1 : ((t297.length : Int) != t313) = false := bne_eq_false_iff_eq.mpr c47
              clear c47
              (first | rw [c47b0] | (simp only [i64_w, i32_w]; rw [c47b0]) | skip)
              replace H := Option.bind_eq_some_iff.mp H
              obtain ⟨t314, A480, H⟩ := H
              replace H : (cellarlaw8_BytesGet.j5 k5 t289 x4_1 t293 x6_2 t297 x8_4 x9_5 t305 t306 1 0 t314 l0_0 l0_1 l0_2 t301 t302 t303 t304 false 0 0 0) = some r := H
              have A48 := Aside0.mk A480
              clear A480
              have H' := Aside0.mk H
              clear H
              have p309 : 0 ≤ (x9_5 : Int) := zdec
              have q309 : x9_5 < (t289.length : Int) := zdec
              obtain ⟨ad309, e309, hx309_0, hx309_1⟩ := at_T38 (Kd.R_reads' HO_3.out).2.2 x9_5 p309 q309
              obtain rfl : ad300 = ad309 := (by injection e309)
              have hn309_0 : ad300.block ≠ gb308 := Kd.own_blk (Kd.R_ne HO_3.out BK308.out (by decide))
              have hn309_1 : ad300.block ≠ gb308 := Kd.own_blk (Kd.R_ne HO_3.out BK308.out (by decide))
              have hn309_2 : ad300.block ≠ gb308 := Kd.own_blk (Kd.R_ne HO_3.out BK308.out (by decide))
              have hn309_3 : ad300.block ≠ gb308 := Kd.own_blk (Kd.R_ne HO_3.out BK308.out (by decide))
              replace hx309_0 := (cell_far (p := ⟨gb308, 0, none⟩) (zy hn309_0) (.bool false)).trans hx309_0
              replace hx309_1 := (cell_far (p := ⟨gb308, 0, none⟩) (zy hn309_0) (.bool false)).trans hx309_1
              replace hx309_0 := (cell_far (p := ⟨gb308, 1, none⟩) (zy hn309_1) (.int .i64 0)).trans hx309_0
              replace hx309_1 := (cell_far (p := ⟨gb308, 1, none⟩) (zy hn309_1) (.int .i64 0)).trans hx309_1
              replace hx309_0 := (cell_far (p := ⟨gb308, 2, none⟩) (zy hn309_2) (.int .i64 0)).trans hx309_0
              replace hx309_1 := (cell_far (p := ⟨gb308, 2, none⟩) (zy hn309_2) (.int .i64 0)).trans hx309_1
              replace hx309_0 := (cell_far (p := ⟨gb308, 3, none⟩) (zy hn309_3) (.int .i64 0)).trans hx309_0
              replace hx309_1 := (cell_far (p := ⟨gb308, 3, none⟩) (zy hn309_3) (.int .i64 0)).trans hx309_1
              clear hn309_0
              clear hn309_1
              clear hn309_2
              clear hn309_3
              replace p309 := eq_true p309
              replace q309 := eq_true q309
              go_wp2_with (first | ((with_reducible refine gate_callee (f := 18) rfl ?_); refine zgo (some 70) Try.func18 #[.agg #[.bool ((rd_T38 t289 x9_5).f0), .int .i64 ((rd_T38 t289 x9_5).f1)]] ?_; (with_reducible refine (cellarref1_Abi.calls ((rd_T38 t289 x9_5).f0) ((rd_T38 t289 x9_5).f1) true _ A42.out).mono ?_); rintro e w49 ⟨rfl, hb⟩; refine ⟨_, rfl, ?_⟩; have n0_ := Aside0.mk (Kd.R_below (by (with_reducible repeat (first | apply Kd.R_alloc | apply Kd.R_drewN | apply Kd.R_drew)); exact (Kd.R_mono (Kd.R_far (p := ⟨gb308, 3, none⟩) (Kd.R_far (p := ⟨gb308, 2, none⟩) (Kd.R_far (p := ⟨gb308, 1, none⟩) (Kd.R_far (p := ⟨gb308, 0, none⟩) (Kd.R_types HO_3.out BK308.out (by decide)) (fun _ hk => hk.2) (.bool false)) (fun _ hk => hk.2) (.int .i64 0)) (fun _ hk => hk.2) (.int .i64 0)) (fun _ hk => hk.2) (.int .i64 0)) (fun _ h_ => h_.1))) hb); have n1_ := Aside0.mk (Kd.N_below (by (with_reducible repeat (first | apply Kd.N_alloc | apply Kd.N_drewN | apply Kd.N_drew)); exact (Kd.N_mono (Kd.N_far (p := ⟨gb308, 3, none⟩) (Kd.N_far (p := ⟨gb308, 2, none⟩) (Kd.N_far (p := ⟨gb308, 1, none⟩) (Kd.N_far (p := ⟨gb308, 0, none⟩) (Kd.N_mono HO_5.out (fun k_ hk => (⟨hk, hk.2⟩ : _ ∧ k_ ≠ gb308))) (fun _ hk => hk.2) (.bool false)) (fun _ hk => hk.2) (.int .i64 0)) (fun _ hk => hk.2) (.int .i64 0)) (fun _ hk => hk.2) (.int .i64 0)) (fun _ h_ => h_.1))) hb); have n2_ := Aside0.mk (Kd.R_below (by (with_reducible repeat (first | apply Kd.R_alloc | apply Kd.R_drewN | apply Kd.R_drew)); exact (Kd.R_mono (Kd.R_far (p := ⟨gb308, 3, none⟩) (Kd.R_far (p := ⟨gb308, 2, none⟩) (Kd.R_far (p := ⟨gb308, 1, none⟩) (Kd.R_far (p := ⟨gb308, 0, none⟩) (Kd.R_types HO_7.out BK308.out (by decide)) (fun _ hk => hk.2) (.bool false)) (fun _ hk => hk.2) (.int .i64 0)) (fun _ hk => hk.2) (.int .i64 0)) (fun _ hk => hk.2) (.int .i64 0)) (fun _ h_ => h_.1))) hb); have n3_ := Aside0.mk (blk_below (g := gb287) (o := .cells #[.slice A0_0 l0_0.length c0_0, .slice A0_1 l0_1.length c0_1, .slice A0_2 l0_2.length c0_2] 26 (0, 0)) (zf1 BK287.out NB287_308.out) hb); have n4_ := Aside0.mk (blk_below (g := gb307) (o := .cells #[.bool t301, .int .i64 t302, .int .i64 t303, .int .i64 t304] 33 (0, 0)) (zf1 BK307.out NB307_308.out) hb); have n5_ := Aside0.mk (blk_below (g := gb308) (o := .cells #[.bool false, .int .i64 0, .int .i64 0, .int .i64 0] 33 (0, 0)) (by (with_reducible repeat (first | refine blk_drewN ?_ _ | refine blk_drew ?_ | refine blk_alloc ?_ _)); refine blk_put (cs := #[.bool false, .int .i64 0, .int .i64 0, .int .i64 0]) ?_ 3 _ rfl; (with_reducible repeat (first | refine blk_drewN ?_ _ | refine blk_drew ?_ | refine blk_alloc ?_ _)); refine blk_put (cs := #[.bool false, .int .i64 0, .int .i64 0, .int .i64 0]) ?_ 2 _ rfl; (with_reducible repeat (first | refine blk_drewN ?_ _ | refine blk_drew ?_ | refine blk_alloc ?_ _)); refine blk_put (cs := #[.bool false, .int .i64 0, .int .i64 0, .int .i64 0]) ?_ 1 _ rfl; (with_reducible repeat (first | refine blk_drewN ?_ _ | refine blk_drew ?_ | refine blk_alloc ?_ _)); refine blk_put (cs := #[.bool false, .int .i64 0, .int .i64 0, .int .i64 0]) ?_ 0 _ rfl; (with_reducible repeat (first | refine blk_drewN ?_ _ | refine blk_drew ?_ | refine blk_alloc ?_ _)); exact BK308.out) hb); have n6_ := Aside0.mk (below_step (zw3 HB.out GE287.out GE307.out GE308.out) hb); clear HO_3 HO_5 HO_7 BK287 BK307 BK308 HB; have HO_3 := n0_; have HO_5 := n1_; have HO_7 := n2_; have BK287 := n3_; have BK307 := n4_; have BK308 := n5_; have HB := n6_; clear n0_ n1_ n2_ n3_ n4_ n5_ n6_; (try clear hb); (try clear hb2); (try clear hk); (try clear hi)) | (go_at_call 19; (with_reducible refine (cellarref1_Kind.calls x8_4 true _ A44.out).mono ?_); rintro e w' ⟨rfl, ⟨nd, rfl⟩⟩; have p312 : 0 ≤ (x9_5 : Int) := zdec; have q312 : x9_5 < (t289.length : Int) := zdec; obtain ⟨ad312, e312, hx312_0, hx312_1⟩ := at_T38 (Kd.R_reads' HO_3.out).2.2 x9_5 p312 q312; obtain rfl : ad300 = ad312 := (by injection e312); replace p312 := eq_true p312; replace q312 := eq_true q312) | (go_at_call 20; (with_reducible refine (cellarref1_Size.calls k5 ((rd_T38 t289 x9_5).f0) ((rd_T38 t289 x9_5).f1) x8_4 t313 _ A46.out).mono ?_); rintro e w50 ⟨rfl, hb⟩; have n0_ := Aside0.mk (Kd.R_below (by (with_reducible repeat (first | apply Kd.R_alloc | apply Kd.R_drewN | apply Kd.R_drew)); exact HO_3.out) hb); have n1_ := Aside0.mk (Kd.N_below (by (with_reducible repeat (first | apply Kd.N_alloc | apply Kd.N_drewN | apply Kd.N_drew)); exact HO_5.out) hb); have n2_ := Aside0.mk (Kd.R_below (by (with_reducible repeat (first | apply Kd.R_alloc | apply Kd.R_drewN | apply Kd.R_drew)); exact HO_7.out) hb); have n3_ := Aside0.mk (zbb BK287.out hb); have n4_ := Aside0.mk (zbb BK307.out hb); have n5_ := Aside0.mk (zbb BK308.out hb); have n6_ := Aside0.mk (below_step (zw3 HB.out GE287.out GE307.out GE308.out) hb); clear HO_3 HO_5 HO_7 BK287 BK307 BK308 HB; have HO_3 := n0_; have HO_5 := n1_; have HO_7 := n2_; have BK287 := n3_; have BK307 := n4_; have BK308 := n5_; have HB := n6_; clear n0_ n1_ n2_ n3_ n4_ n5_ n6_; (try clear hb); (try clear hb2); (try clear hk); (try clear hi)) | (go_at_call 21; (with_reducible refine (cellarref7_Bytes.calls k5 _ _ t297 t314 _ ?side1 ?side2 A48.out).mono ?_); (case side1 => repeat (first | exact (Kd.R_reads' HO_7.out).2.2 | (with_reducible refine Kd.C_alloc ?_ _) | (with_reducible refine Kd.C_drewN ?_ _) | (with_reducible refine Kd.C_drew ?_))); (case side2 => exact (Kd.R_reads' HO_7.out).2.1); rintro e w51 ⟨rfl, hb⟩; have n0_ := Aside0.mk (Kd.R_below (by (with_reducible repeat (first | apply Kd.R_alloc | apply Kd.R_drewN | apply Kd.R_drew)); exact HO_3.out) hb); have n1_ := Aside0.mk (Kd.N_below (by (with_reducible repeat (first | apply Kd.N_alloc | apply Kd.N_drewN | apply Kd.N_drew)); exact HO_5.out) hb); have n2_ := Aside0.mk (Kd.R_below (by (with_reducible repeat (first | apply Kd.R_alloc | apply Kd.R_drewN | apply Kd.R_drew)); exact HO_7.out) hb); have n3_ := Aside0.mk (zbb BK287.out hb); have n4_ := Aside0.mk (zbb BK307.out hb); have n5_ := Aside0.mk (zbb BK308.out hb); have n6_ := Aside0.mk (below_step (zw3 HB.out GE287.out GE307.out GE308.out) hb); clear HO_3 HO_5 HO_7 BK287 BK307 BK308 HB; have HO_3 := n0_; have HO_5 := n1_; have HO_7 := n2_; have BK287 := n3_; have BK307 := n4_; have BK308 := n5_; have HB := n6_; clear n0_ n1_ n2_ n3_ n4_ n5_ n6_; (try clear hb); (try clear hb2); (try clear hk); (try clear hi)))
              go_meet
              case rel => exact ⟨_, (t314), (zr), H', ⟨by have := HK1.out; have := HK2.out; have := HJ17.out; have := HK4.out; have := HK5.out; first | omega | exact Nat.le_refl _⟩, ⟨by (with_reducible repeat (first | apply Kd.R_alloc | apply Kd.R_drewN | apply Kd.R_drew)); exact HO_3.out⟩, ⟨by (with_reducible repeat (first | apply Kd.N_alloc | apply Kd.N_drewN | apply Kd.N_drew)); exact Kd.N_mono HO_5.out (fun _ hk => ⟨hk.1.1.1, ⟨hk.1.1.2.1, ⟨hk.1.1.2.2, ⟨hk.1.2, hk.2⟩⟩⟩⟩)⟩, ⟨by (with_reducible repeat (first | apply Kd.R_alloc | apply Kd.R_drewN | apply Kd.R_drew)); exact HO_7.out⟩, ⟨zb BK287.out⟩, ⟨zb BK307.out⟩, ⟨zb BK308.out⟩, ⟨zw3 HB.out GE287.out GE307.out GE308.out⟩⟩
             case rest =>
              clear HC32
              try clear c1; try clear c2; try clear p2; try clear q2; try clear c3; try clear p3; try clear q3; try clear c4; try clear c13; try clear c13b0; try clear c14; try clear c15; try clear c16; try clear c17; try clear c18; try clear c19; try clear c19b0; try clear c22; try clear c23; try clear c23b0; try clear c24; try clear c24b0; try clear c28; try clear c28b0; try clear c29; try clear c29b0; try clear p29; try clear q29; try clear c30; try clear c30b0; try clear p30; try clear q30; try clear p31; try clear q31; try clear c36; try clear c39; try clear c40; try clear c43; try clear c45; try clear c47; try clear c47b0; try clear c47b1; try clear p2; try clear p296; try clear p300; try clear p309; try clear p312; try clear q2; try clear q296; try clear q300; try clear q309; try clear q312
              obtain ⟨kq, x89_31, rfl, HA, HJ31, HO_3, HO_5, HO_7, BK287, BK307, BK308, HB⟩ := hcut
              cases kq with
              | zero => exact absurd HA.out (by simp [cellarlaw8_BytesGet.j5])
              | succ kj31 =>
               have H := HA.out
               clear HA
               simp only [cellarlaw8_BytesGet.j5] at H
               have HC56 := Aside0.mk H
               clear H
               go_upto_if 89 with (fail)
               go_cut [13, 15] (fun v13 v15 wc => ∃ (kq : Nat) (x13_55 : Int) (x15_55 : Int) (x309000_55 : Bool) (x309001_55 : Int) (x309002_55 : Int) (x309003_55 : Int), v13 = .int .i64 x13_55 ∧ v15 = .int .i64 x15_55 ∧ Aside0 (cellarlaw8_BytesGet.j6 kq t289 x4_1 t293 x6_2 t297 x8_4 x9_5 t305 t306 x13_55 x15_55 l0_0 l0_1 l0_2 t301 t302 t303 t304 x309000_55 x309001_55 x309002_55 x309003_55 = some r) ∧ Aside0 (kq ≤ kj31) ∧ Aside0 (Kd.R k38 38 wc w.heap.size (fun _ => True) (.slice (some ad300) t289.length co16) t289) ∧ Aside0 (Kd.N (Kd.slice 51 k51) 24 wc w.heap.size (fun k_ => some k_ ≠ ((.slice (some ad300) t289.length co16) : Value).ownBlock ∧ some k_ ≠ ((.slice Ao33 t297.length co33) : Value).ownBlock ∧ k_ ≠ gb287 ∧ k_ ≠ gb307 ∧ k_ ≠ gb308) (.slice (some ad296) t293.length co26) t293) ∧ Aside0 (Kd.R k51 51 wc w.heap.size (fun _ => True) (.slice Ao33 t297.length co33) t297) ∧ Aside0 (wc.heap[gb287]? = some (.cells #[(.slice A0_0 l0_0.length c0_0), (.slice A0_1 l0_1.length c0_1), (.slice A0_2 l0_2.length c0_2)] 26 (0, 0))) ∧ Aside0 (wc.heap[gb307]? = some (.cells #[.bool t301, .int .i64 t302, .int .i64 t303, .int .i64 t304] 33 (0, 0))) ∧ Aside0 (wc.heap[gb308]? = some (.cells #[.bool x309000_55, .int .i64 x309001_55, .int .i64 x309002_55, .int .i64 x309003_55] 33 (0, 0))) ∧ Aside0 (Below w.heap.size w wc))
               case first =>
                have H := HC56.out
                clear HC56
                by_cases c57 : x89_31 = true
                rotate_left
                ·replace c57 := Bool.eq_false_iff.mpr c57
                 subst c57
                 have H1 : (cellarlaw8_BytesGet.j6 kj31 t289 x4_1 t293 x6_2 t297 x8_4 x9_5 t305 t306 1 0 l0_0 l0_1 l0_2 t301 t302 t303 t304 false 0 0 0) = some r := by rw [if_neg (show ¬ (false = true) by decide)] at H; exact H
                 clear H
                 have H := H1
                 clear H1
                 have H' := Aside0.mk H
                 clear H
                 go_wp2
                 go_meet
                 case rel => exact ⟨_, (1), (0), (false), (0), (0), (0), (zr), (zr), H', ⟨by have := HK1.out; have := HK2.out; have := HJ17.out; have := HK4.out; have := HK5.out; have := HJ31.out; first | omega | exact Nat.le_refl _⟩, ⟨by (with_reducible repeat (first | apply Kd.R_alloc | apply Kd.R_drewN | apply Kd.R_drew)); exact HO_3.out⟩, ⟨by (with_reducible repeat (first | apply Kd.N_alloc | apply Kd.N_drewN | apply Kd.N_drew)); exact HO_5.out⟩, ⟨by (with_reducible repeat (first | apply Kd.R_alloc | apply Kd.R_drewN | apply Kd.R_drew)); exact HO_7.out⟩, ⟨zb BK287.out⟩, ⟨zb BK307.out⟩, ⟨zb BK308.out⟩, ⟨zw3 HB.out GE287.out GE307.out GE308.out⟩⟩
                subst c57
                have H1 : (if 0 ≤ x9_5 then (if x9_5 < (t289.length : Int) then ((cellarref7_Get.f kj31 ((rd_T38 t289 x9_5).f0) ((rd_T38 t289 x9_5).f1) x8_4 t297).bind fun bt316 => (cellarlaw8_BytesGet.j6 kj31 t289 x4_1 t293 x6_2 t297 x8_4 x9_5 t305 t306 0 bt316.2.2.2.2 l0_0 l0_1 l0_2 t301 t302 t303 t304 bt316.1 bt316.2.1 bt316.2.2.1 bt316.2.2.2.1)) else (none)) else (none)) = some r := by rw [if_pos rfl] at H; exact H
                clear H
                have H := H1
                clear H1
                by_cases c58 : 0 ≤ x9_5
                rotate_left
                ·rw [if_neg c58] at H
                 exact absurd H (by simp)
                rw [if_pos c58] at H
                have c58b0 : decide (0 ≤ x9_5) = true := decide_eq_true c58
                clear c58
                (first | rw [c58b0] | (simp only [i64_w, i32_w]; rw [c58b0]) | skip)
                by_cases c59 : x9_5 < (t289.length : Int)
                rotate_left
                ·rw [if_neg c59] at H
                 exact absurd H (by simp)
                rw [if_pos c59] at H
                have c59b0 : decide (x9_5 < (t289.length : Int)) = true := decide_eq_true c59
                clear c59
                replace H := Option.bind_eq_some_iff.mp H
                obtain ⟨⟨t316, t317, t318, t319, t320⟩, A600, H⟩ := H
                replace H : (cellarlaw8_BytesGet.j6 kj31 t289 x4_1 t293 x6_2 t297 x8_4 x9_5 t305 t306 0 t320 l0_0 l0_1 l0_2 t301 t302 t303 t304 t316 t317 t318 t319) = some r := H
                have A60 := Aside0.mk A600
                clear A600
                have H' := Aside0.mk H
                clear H
                have p315 : 0 ≤ (x9_5 : Int) := zdec
                have q315 : x9_5 < (t289.length : Int) := zdec
                obtain ⟨ad315, e315, hx315_0, hx315_1⟩ := at_T38 (Kd.R_reads' HO_3.out).2.2 x9_5 p315 q315
                obtain rfl : ad300 = ad315 := (by injection e315)
                replace p315 := eq_true p315
                replace q315 := eq_true q315
                go_wp2_with (first | ((with_reducible refine gate_callee (f := 22) rfl ?_); refine zgo (some 97) Try.func22 #[.agg #[.bool ((rd_T38 t289 x9_5).f0), .int .i64 ((rd_T38 t289 x9_5).f1)], .int .i64 x8_4, .slice Ao33 t297.length co33] ?_; (with_reducible refine (cellarref7_Get.calls kj31 ((rd_T38 t289 x9_5).f0) ((rd_T38 t289 x9_5).f1) x8_4 _ _ t297 t316 t317 t318 t319 t320 _ ?side1 ?side2 A60.out).mono ?_); (case side1 => repeat (first | exact (Kd.R_reads' HO_7.out).2.2 | (with_reducible refine Kd.C_alloc ?_ _) | (with_reducible refine Kd.C_drewN ?_ _) | (with_reducible refine Kd.C_drew ?_))); (case side2 => exact (Kd.R_reads' HO_7.out).2.1); rintro e w61 ⟨rfl, hb⟩; refine ⟨_, rfl, ?_⟩; have n0_ := Aside0.mk (Kd.R_below (by (with_reducible repeat (first | apply Kd.R_alloc | apply Kd.R_drewN | apply Kd.R_drew)); exact HO_3.out) hb); have n1_ := Aside0.mk (Kd.N_below (by (with_reducible repeat (first | apply Kd.N_alloc | apply Kd.N_drewN | apply Kd.N_drew)); exact HO_5.out) hb); have n2_ := Aside0.mk (Kd.R_below (by (with_reducible repeat (first | apply Kd.R_alloc | apply Kd.R_drewN | apply Kd.R_drew)); exact HO_7.out) hb); have n3_ := Aside0.mk (zbb BK287.out hb); have n4_ := Aside0.mk (zbb BK307.out hb); have n5_ := Aside0.mk (zbb BK308.out hb); have n6_ := Aside0.mk (below_step (zw3 HB.out GE287.out GE307.out GE308.out) hb); clear HO_3 HO_5 HO_7 BK287 BK307 BK308 HB; have HO_3 := n0_; have HO_5 := n1_; have HO_7 := n2_; have BK287 := n3_; have BK307 := n4_; have BK308 := n5_; have HB := n6_; clear n0_ n1_ n2_ n3_ n4_ n5_ n6_; (try clear hb); (try clear hb2); (try clear hk); (try clear hi); have hnb62 := NB308_287.out; have hnc62 := NB287_308.out; have hnb63 := NB308_307.out; have hnc63 := NB307_308.out; have hcz64_0 := zc BK308.out 0; have hcz64_1 := zc BK308.out 1; have hcz64_2 := zc BK308.out 2; have hcz64_3 := zc BK308.out 3; have hfz64_0 := blk_frozen BK308.out 0; have hfz64_1 := blk_frozen BK308.out 1; have hfz64_2 := blk_frozen BK308.out 2; have hfz64_3 := blk_frozen BK308.out 3))
                go_meet
                case rel => exact ⟨_, (0), (t320), (t316), (t317), (t318), (t319), (zr), (zr), H', ⟨by have := HK1.out; have := HK2.out; have := HJ17.out; have := HK4.out; have := HK5.out; have := HJ31.out; first | omega | exact Nat.le_refl _⟩, ⟨by (with_reducible repeat (first | apply Kd.R_alloc | apply Kd.R_drewN | apply Kd.R_drew)); exact Kd.R_mono (Kd.R_far (p := ⟨gb308, 3, none⟩) (Kd.R_far (p := ⟨gb308, 2, none⟩) (Kd.R_far (p := ⟨gb308, 1, none⟩) (Kd.R_far (p := ⟨gb308, 0, none⟩) (Kd.R_types HO_3.out BK308.out (by decide)) (fun _ hk => hk.2) (.bool t316)) (fun _ hk => hk.2) (.int .i64 t317)) (fun _ hk => hk.2) (.int .i64 t318)) (fun _ hk => hk.2) (.int .i64 t319)) (fun _ hk => trivial)⟩, ⟨by (with_reducible repeat (first | apply Kd.N_alloc | apply Kd.N_drewN | apply Kd.N_drew)); exact Kd.N_mono (Kd.N_far (p := ⟨gb308, 3, none⟩) (Kd.N_far (p := ⟨gb308, 2, none⟩) (Kd.N_far (p := ⟨gb308, 1, none⟩) (Kd.N_far (p := ⟨gb308, 0, none⟩) (Kd.N_mono HO_5.out (fun k_ hk => (⟨hk, hk.2.2.2.2⟩ : _ ∧ k_ ≠ gb308))) (fun _ hk => hk.2) (.bool t316)) (fun _ hk => hk.2) (.int .i64 t317)) (fun _ hk => hk.2) (.int .i64 t318)) (fun _ hk => hk.2) (.int .i64 t319)) (fun _ hk => ⟨hk.1.1, ⟨hk.1.2.1, ⟨hk.1.2.2.1, ⟨hk.1.2.2.2.1, hk.1.2.2.2.2⟩⟩⟩⟩)⟩, ⟨by (with_reducible repeat (first | apply Kd.R_alloc | apply Kd.R_drewN | apply Kd.R_drew)); exact Kd.R_mono (Kd.R_far (p := ⟨gb308, 3, none⟩) (Kd.R_far (p := ⟨gb308, 2, none⟩) (Kd.R_far (p := ⟨gb308, 1, none⟩) (Kd.R_far (p := ⟨gb308, 0, none⟩) (Kd.R_types HO_7.out BK308.out (by decide)) (fun _ hk => hk.2) (.bool t316)) (fun _ hk => hk.2) (.int .i64 t317)) (fun _ hk => hk.2) (.int .i64 t318)) (fun _ hk => hk.2) (.int .i64 t319)) (fun _ hk => trivial)⟩, ⟨zf1 BK287.out NB287_308.out⟩, ⟨zf1 BK307.out NB307_308.out⟩, ⟨by (with_reducible repeat (first | refine blk_drewN ?_ _ | refine blk_drew ?_ | refine blk_alloc ?_ _)); refine blk_put (cs := #[.bool t316, .int .i64 t317, .int .i64 t318, .int .i64 0]) ?_ 3 _ rfl; (with_reducible repeat (first | refine blk_drewN ?_ _ | refine blk_drew ?_ | refine blk_alloc ?_ _)); refine blk_put (cs := #[.bool t316, .int .i64 t317, .int .i64 0, .int .i64 0]) ?_ 2 _ rfl; (with_reducible repeat (first | refine blk_drewN ?_ _ | refine blk_drew ?_ | refine blk_alloc ?_ _)); refine blk_put (cs := #[.bool t316, .int .i64 0, .int .i64 0, .int .i64 0]) ?_ 1 _ rfl; (with_reducible repeat (first | refine blk_drewN ?_ _ | refine blk_drew ?_ | refine blk_alloc ?_ _)); refine blk_put (cs := #[.bool false, .int .i64 0, .int .i64 0, .int .i64 0]) ?_ 0 _ rfl; (with_reducible repeat (first | refine blk_drewN ?_ _ | refine blk_drew ?_ | refine blk_alloc ?_ _)); exact BK308.out⟩, ⟨zw3 HB.out GE287.out GE307.out GE308.out⟩⟩
               case rest =>
                clear HC56
                try clear c1; try clear c2; try clear p2; try clear q2; try clear c3; try clear p3; try clear q3; try clear c4; try clear c5; try clear c6; try clear c13; try clear c13b0; try clear c14; try clear c15; try clear c16; try clear c17; try clear c18; try clear c19; try clear c19b0; try clear c22; try clear c23; try clear c23b0; try clear c24; try clear c24b0; try clear c28; try clear c28b0; try clear c29; try clear c29b0; try clear p29; try clear q29; try clear c30; try clear c30b0; try clear p30; try clear q30; try clear p31; try clear q31; try clear c36; try clear c39; try clear c40; try clear c43; try clear c45; try clear c47; try clear c47b0; try clear c47b1; try clear c57; try clear c58; try clear c58b0; try clear c59; try clear c59b0; try clear c62; try clear c63; try clear p2; try clear p29; try clear p296; try clear p3; try clear p30; try clear p300; try clear p309; try clear p31; try clear p312; try clear p315; try clear q2; try clear q29; try clear q296; try clear q3; try clear q30; try clear q300; try clear q309; try clear q31; try clear q312; try clear q315
                obtain ⟨kq, x13_55, x15_55, x309000_55, x309001_55, x309002_55, x309003_55, rfl, rfl, HA, HJ55, HO_3, HO_5, HO_7, BK287, BK307, BK308, HB⟩ := hcut
                cases kq with
                | zero => exact absurd HA.out (by simp [cellarlaw8_BytesGet.j6])
                | succ kj55 =>
                 have H := HA.out
                 clear HA
                 simp only [cellarlaw8_BytesGet.j6] at H
                 replace H := Option.bind_eq_some_iff.mp H
                 obtain ⟨t321, A650, H⟩ := H
                 replace H : (if t321 = x13_55 then (if (!(t301 == x309000_55) || (!(t302 == x309001_55) || (!(t303 == x309002_55) || (!(t304 == x309003_55))))) = true then (some false) else (if t305 = x15_55 then (if 0 ≤ x6_2 then (if x6_2 < (t293.length : Int) then ((cellarref0_EqBytes.f kj55 t297 (rd_L5 t293 x6_2)).bind fun t323 => (if t323 = true then (cellarlaw8_BytesGet.l3 kj55 t289 x4_1 t293 x6_2 t297 x8_4 (wrap64 (x9_5 + 1)) l0_0 l0_1 l0_2) else (some false))) else (none)) else (none)) else (some false))) else (some false)) = some r := H
                 have A65 := Aside0.mk A650
                 clear A650
                 by_cases c66 : t321 = x13_55
                 rotate_left
                 ·rw [if_neg c66] at H
                  have c66b0 : (t321 == x13_55) = false := beq_eq_false_iff_ne.mpr c66
                  have c66b1 : (t321 != x13_55) = true := bne_iff_ne.mpr c66
                  obtain rfl := Option.some.inj H
                  go_wp2_with (first | ((with_reducible refine gate_callee (f := 23) rfl ?_); refine zgo (some 101) Try.func23 #[.int .i64 t306] ?_; (with_reducible refine (cellarlaw8_num.calls t306 t321 _ A65.out).mono ?_); rintro e w' ⟨rfl, ⟨nd, rfl⟩⟩; refine ⟨_, rfl, ?_⟩))
                  go_ret
                  exact ⟨ze, zw3 HB.out GE287.out GE307.out GE308.out⟩
                 rw [if_pos c66] at H
                 have c66b0 : (t321 == x13_55) = true := beq_iff_eq.mpr c66
                 have c66b1 : (t321 != x13_55) = false := bne_eq_false_iff_eq.mpr c66
                 clear c66
                 by_cases c67 : (!(t301 == x309000_55) || (!(t302 == x309001_55) || (!(t303 == x309002_55) || (!(t304 == x309003_55))))) = true
                 ·rw [if_pos c67] at H
                  have c67b0 : (!(t301 == x309000_55) || (!(t302 == x309001_55) || (!(t303 == x309002_55) || (!(t304 == x309003_55))))) = true := c67
                  clear c67
                  obtain rfl := Option.some.inj H
                  go_wp2_with (first | ((with_reducible refine gate_callee (f := 23) rfl ?_); refine zgo (some 101) Try.func23 #[.int .i64 t306] ?_; (with_reducible refine (cellarlaw8_num.calls t306 t321 _ A65.out).mono ?_); rintro e w' ⟨rfl, ⟨nd, rfl⟩⟩; refine ⟨_, rfl, ?_⟩; have hnb68 := NB307_287.out; have hnc68 := NB287_307.out; have hnb69 := NB307_308.out; have hnc69 := NB308_307.out; have hcz70_0 := zc BK307.out 0; have hcz70_1 := zc BK307.out 1; have hcz70_2 := zc BK307.out 2; have hcz70_3 := zc BK307.out 3; have hfz70_0 := blk_frozen BK307.out 0; have hfz70_1 := blk_frozen BK307.out 1; have hfz70_2 := blk_frozen BK307.out 2; have hfz70_3 := blk_frozen BK307.out 3; have hnb71 := NB308_287.out; have hnc71 := NB287_308.out; have hcz72_0 := zc BK308.out 0; have hcz72_1 := zc BK308.out 1; have hcz72_2 := zc BK308.out 2; have hcz72_3 := zc BK308.out 3; have hfz72_0 := blk_frozen BK308.out 0; have hfz72_1 := blk_frozen BK308.out 1; have hfz72_2 := blk_frozen BK308.out 2; have hfz72_3 := blk_frozen BK308.out 3))
                  go_ret
                  exact ⟨ze, zw3 HB.out GE287.out GE307.out GE308.out⟩
                 rw [if_neg c67] at H
                 have c67b0 : (!(t301 == x309000_55) || (!(t302 == x309001_55) || (!(t303 == x309002_55) || (!(t304 == x309003_55))))) = false := by simpa using c67
                 clear c67
                 by_cases c73 : t305 = x15_55
                 rotate_left
                 ·rw [if_neg c73] at H
                  have c73b0 : (t305 == x15_55) = false := beq_eq_false_iff_ne.mpr c73
                  have c73b1 : (t305 != x15_55) = true := bne_iff_ne.mpr c73
                  obtain rfl := Option.some.inj H
                  go_wp2_with (first | ((with_reducible refine gate_callee (f := 23) rfl ?_); refine zgo (some 101) Try.func23 #[.int .i64 t306] ?_; (with_reducible refine (cellarlaw8_num.calls t306 t321 _ A65.out).mono ?_); rintro e w' ⟨rfl, ⟨nd, rfl⟩⟩; refine ⟨_, rfl, ?_⟩; have hnb88 := NB307_287.out; have hnc88 := NB287_307.out; have hnb89 := NB307_308.out; have hnc89 := NB308_307.out; have hcz90_0 := zc BK307.out 0; have hcz90_1 := zc BK307.out 1; have hcz90_2 := zc BK307.out 2; have hcz90_3 := zc BK307.out 3; have hfz90_0 := blk_frozen BK307.out 0; have hfz90_1 := blk_frozen BK307.out 1; have hfz90_2 := blk_frozen BK307.out 2; have hfz90_3 := blk_frozen BK307.out 3; have hnb91 := NB308_287.out; have hnc91 := NB287_308.out; have hcz92_0 := zc BK308.out 0; have hcz92_1 := zc BK308.out 1; have hcz92_2 := zc BK308.out 2; have hcz92_3 := zc BK308.out 3; have hfz92_0 := blk_frozen BK308.out 0; have hfz92_1 := blk_frozen BK308.out 1; have hfz92_2 := blk_frozen BK308.out 2; have hfz92_3 := blk_frozen BK308.out 3))
                  go_ret
                  exact ⟨ze, zw3 HB.out GE287.out GE307.out GE308.out⟩
                 rw [if_pos c73] at H
                 have c73b0 : (t305 == x15_55) = true := beq_iff_eq.mpr c73
                 have c73b1 : (t305 != x15_55) = false := bne_eq_false_iff_eq.mpr c73
                 clear c73
                 by_cases c74 : 0 ≤ x6_2
                 rotate_left
                 ·rw [if_neg c74] at H
                  exact absurd H (by simp)
                 rw [if_pos c74] at H
                 have c74b0 : decide (0 ≤ x6_2) = true := decide_eq_true c74
                 clear c74
                 by_cases c75 : x6_2 < (t293.length : Int)
                 rotate_left
                 ·rw [if_neg c75] at H
                  exact absurd H (by simp)
                 rw [if_pos c75] at H
                 have c75b0 : decide (x6_2 < (t293.length : Int)) = true := decide_eq_true c75
                 clear c75
                 replace H := Option.bind_eq_some_iff.mp H
                 obtain ⟨t323, A760, H⟩ := H
                 replace H : (if t323 = true then (cellarlaw8_BytesGet.l3 kj55 t289 x4_1 t293 x6_2 t297 x8_4 (wrap64 (x9_5 + 1)) l0_0 l0_1 l0_2) else (some false)) = some r := H
                 have A76 := Aside0.mk A760
                 clear A760
                 by_cases c77 : t323 = true
                 rotate_left
                 ·replace c77 := Bool.eq_false_iff.mpr c77
                  subst c77
                  have H1 : (some false) = some r := by rw [if_neg (show ¬ (false = true) by decide)] at H; exact H
                  clear H
                  have H := H1
                  clear H1
                  obtain rfl := Option.some.inj H
                  go_wp2_with (first | ((with_reducible refine gate_callee (f := 23) rfl ?_); refine zgo (some 101) Try.func23 #[.int .i64 t306] ?_; (with_reducible refine (cellarlaw8_num.calls t306 t321 _ A65.out).mono ?_); rintro e w' ⟨rfl, ⟨nd, rfl⟩⟩; refine ⟨_, rfl, ?_⟩; have hnb83 := NB307_287.out; have hnc83 := NB287_307.out; have hnb84 := NB307_308.out; have hnc84 := NB308_307.out; have hcz85_0 := zc BK307.out 0; have hcz85_1 := zc BK307.out 1; have hcz85_2 := zc BK307.out 2; have hcz85_3 := zc BK307.out 3; have hfz85_0 := blk_frozen BK307.out 0; have hfz85_1 := blk_frozen BK307.out 1; have hfz85_2 := blk_frozen BK307.out 2; have hfz85_3 := blk_frozen BK307.out 3; have hnb86 := NB308_287.out; have hnc86 := NB287_308.out; have hcz87_0 := zc BK308.out 0; have hcz87_1 := zc BK308.out 1; have hcz87_2 := zc BK308.out 2; have hcz87_3 := zc BK308.out 3; have hfz87_0 := blk_frozen BK308.out 0; have hfz87_1 := blk_frozen BK308.out 1; have hfz87_2 := blk_frozen BK308.out 2; have hfz87_3 := blk_frozen BK308.out 3; have p322 : 0 ≤ (x6_2 : Int) := zdec; have q322 : x6_2 < (t293.length : Int) := zdec; obtain ⟨ad322, A322_0, c322_0, e322, hx322_0, hl322_0, hi322_0⟩ := at_L5 (Kd.N_reads' HO_5.out).2.2 x6_2 p322 q322; obtain rfl : ad296 = ad322 := (by injection e322); obtain ⟨ce322, hce322, hMe322, hcc322⟩ := Kd.N_get HO_5.out [] x6_2 p322 (by first | exact q322 | exact zdec | (have e_ := (Kd.N_reads' HO_5.out).1; omega)); obtain ⟨ua322_0, uc322_0, rfl, ul322_0, ge322_0⟩ := Kd.FK_slice_open hMe322; have hv322_0 := hcc322 0 _ rfl; rw [Nat.add_zero, show ((Kd.slice 51 k51)).sz = 1 from rfl, Nat.mul_one] at hv322_0; replace hv322_0 := Option.some.inj (hv322_0.symm.trans hx322_0); injection hv322_0 with hva_ hvn_ hvc_; rw [hva_] at ge322_0; rw [hvc_] at ul322_0; have HL322_0 := Aside0.mk (show Kd.V k51 51 _ w.heap.size _ _ (rd_L5 t293 x6_2) from Kd.V_mk ul322_0 ge322_0); clear hva_ hvn_ hvc_ ge322_0 ul322_0; clear hcc322 hce322; have HR322_0 := Aside0.mk hi322_0; have HC322_0 := Aside0.mk hl322_0; clear hi322_0 hl322_0; replace p322 := eq_true p322; replace q322 := eq_true q322) | (go_at_call 24; (with_reducible refine (cellarref0_EqBytes.calls kj55 _ _ t297 _ _ (rd_L5 t293 x6_2) false _ ?side1 ?side2 ?side3 ?side4 A76.out).mono ?_); (case side1 => repeat (first | exact (Kd.R_reads' HO_7.out).2.2 | (with_reducible refine Kd.C_alloc ?_ _) | (with_reducible refine Kd.C_drewN ?_ _) | (with_reducible refine Kd.C_drew ?_))); (case side2 => exact (Kd.R_reads' HO_7.out).2.1); (case side3 => repeat (first | exact (by repeat (first | (with_reducible exact HR322_0.out) | (with_reducible refine Kd.C_alloc ?_ _) | (with_reducible refine Kd.C_drewN ?_ _) | (with_reducible refine Kd.C_drew ?_) | exact HR322_0.out)) | (with_reducible refine Kd.C_alloc ?_ _) | (with_reducible refine Kd.C_drewN ?_ _) | (with_reducible refine Kd.C_drew ?_))); (case side4 => exact HC322_0.out); rintro e w' ⟨rfl, ⟨nd, rfl⟩⟩))
                  go_ret
                  exact ⟨ze, zw3 HB.out GE287.out GE307.out GE308.out⟩
                 subst c77
                 have H1 : (cellarlaw8_BytesGet.l3 kj55 t289 x4_1 t293 x6_2 t297 x8_4 (wrap64 (x9_5 + 1)) l0_0 l0_1 l0_2) = some r := by rw [if_pos rfl] at H; exact H
                 clear H
                 have H := H1
                 clear H1
                 have H' := Aside0.mk H
                 clear H
                 go_wp2_with (first | ((with_reducible refine gate_callee (f := 23) rfl ?_); refine zgo (some 101) Try.func23 #[.int .i64 t306] ?_; (with_reducible refine (cellarlaw8_num.calls t306 t321 _ A65.out).mono ?_); rintro e w' ⟨rfl, ⟨nd, rfl⟩⟩; refine ⟨_, rfl, ?_⟩; have hnb78 := NB307_287.out; have hnc78 := NB287_307.out; have hnb79 := NB307_308.out; have hnc79 := NB308_307.out; have hcz80_0 := zc BK307.out 0; have hcz80_1 := zc BK307.out 1; have hcz80_2 := zc BK307.out 2; have hcz80_3 := zc BK307.out 3; have hfz80_0 := blk_frozen BK307.out 0; have hfz80_1 := blk_frozen BK307.out 1; have hfz80_2 := blk_frozen BK307.out 2; have hfz80_3 := blk_frozen BK307.out 3; have hnb81 := NB308_287.out; have hnc81 := NB287_308.out; have hcz82_0 := zc BK308.out 0; have hcz82_1 := zc BK308.out 1; have hcz82_2 := zc BK308.out 2; have hcz82_3 := zc BK308.out 3; have hfz82_0 := blk_frozen BK308.out 0; have hfz82_1 := blk_frozen BK308.out 1; have hfz82_2 := blk_frozen BK308.out 2; have hfz82_3 := blk_frozen BK308.out 3; have p322 : 0 ≤ (x6_2 : Int) := zdec; have q322 : x6_2 < (t293.length : Int) := zdec; obtain ⟨ad322, A322_0, c322_0, e322, hx322_0, hl322_0, hi322_0⟩ := at_L5 (Kd.N_reads' HO_5.out).2.2 x6_2 p322 q322; obtain rfl : ad296 = ad322 := (by injection e322); obtain ⟨ce322, hce322, hMe322, hcc322⟩ := Kd.N_get HO_5.out [] x6_2 p322 (by first | exact q322 | exact zdec | (have e_ := (Kd.N_reads' HO_5.out).1; omega)); obtain ⟨ua322_0, uc322_0, rfl, ul322_0, ge322_0⟩ := Kd.FK_slice_open hMe322; have hv322_0 := hcc322 0 _ rfl; rw [Nat.add_zero, show ((Kd.slice 51 k51)).sz = 1 from rfl, Nat.mul_one] at hv322_0; replace hv322_0 := Option.some.inj (hv322_0.symm.trans hx322_0); injection hv322_0 with hva_ hvn_ hvc_; rw [hva_] at ge322_0; rw [hvc_] at ul322_0; have HL322_0 := Aside0.mk (show Kd.V k51 51 _ w.heap.size _ _ (rd_L5 t293 x6_2) from Kd.V_mk ul322_0 ge322_0); clear hva_ hvn_ hvc_ ge322_0 ul322_0; clear hcc322 hce322; have HR322_0 := Aside0.mk hi322_0; have HC322_0 := Aside0.mk hl322_0; clear hi322_0 hl322_0; replace p322 := eq_true p322; replace q322 := eq_true q322) | (go_at_call 24; (with_reducible refine (cellarref0_EqBytes.calls kj55 _ _ t297 _ _ (rd_L5 t293 x6_2) true _ ?side1 ?side2 ?side3 ?side4 A76.out).mono ?_); (case side1 => repeat (first | exact (Kd.R_reads' HO_7.out).2.2 | (with_reducible refine Kd.C_alloc ?_ _) | (with_reducible refine Kd.C_drewN ?_ _) | (with_reducible refine Kd.C_drew ?_))); (case side2 => exact (Kd.R_reads' HO_7.out).2.1); (case side3 => repeat (first | exact (by repeat (first | (with_reducible exact HR322_0.out) | (with_reducible refine Kd.C_alloc ?_ _) | (with_reducible refine Kd.C_drewN ?_ _) | (with_reducible refine Kd.C_drew ?_) | exact HR322_0.out)) | (with_reducible refine Kd.C_alloc ?_ _) | (with_reducible refine Kd.C_drewN ?_ _) | (with_reducible refine Kd.C_drew ?_))); (case side4 => exact HC322_0.out); rintro e w' ⟨rfl, ⟨nd, rfl⟩⟩))
                 go_roundg kj55
                 case measure => have := HK1.out; have := HK2.out; have := HJ17.out; have := HK4.out; have := HK5.out; have := HJ31.out; have := HJ55.out; omega
                 case rel => exact ⟨(wrap64 (x9_5 + 1)), (zr), H', ⟨by have := HK1.out; have := HK2.out; have := HJ17.out; have := HK4.out; have := HK5.out; have := HJ31.out; have := HJ55.out; omega⟩, ⟨by (with_reducible repeat (first | apply Kd.R_alloc | apply Kd.R_drewN | apply Kd.R_drew)); exact HO_3.out⟩, ⟨by (with_reducible repeat (first | apply Kd.N_alloc | apply Kd.N_drewN | apply Kd.N_drew)); exact Kd.N_mono HO_5.out (fun _ hk => ⟨hk.1, ⟨hk.2.1, hk.2.2.1⟩⟩)⟩, ⟨by (with_reducible repeat (first | apply Kd.R_alloc | apply Kd.R_drewN | apply Kd.R_drew)); exact HO_7.out⟩, ⟨zb BK287.out⟩, ⟨zw3 HB.out GE287.out GE307.out GE308.out⟩⟩
    ·rw [if_neg c13] at H
     have c13b0 : decide (x4_1 ≤ 4) = false := decide_eq_false c13
     clear c13
     replace H := Option.bind_eq_some_iff.mp H
     obtain ⟨t292, A930, H⟩ := H
     replace H : (some t292) = some r := H
     have A93 := Aside0.mk A930
     clear A930
     obtain rfl := Option.some.inj H
     go_wp2_with (first | ((with_reducible refine gate_callee (f := 25) rfl ?_); refine zgo (some 123) Try.func25 #[] ?_; (with_reducible refine (cellarlaw8_wakes.calls k1  t292 _ A93.out).mono ?_); rintro e w94 ⟨rfl, hb⟩; refine ⟨_, rfl, ?_⟩; have n0_ := Aside0.mk (Kd.R_below (by (with_reducible repeat (first | apply Kd.R_alloc | apply Kd.R_drewN | apply Kd.R_drew)); exact HO_3.out) hb); have n1_ := Aside0.mk (zbb BK287.out hb); have n2_ := Aside0.mk (below_step (zw1 HB.out GE287.out) hb); clear HO_3 BK287 HB; have HO_3 := n0_; have BK287 := n1_; have HB := n2_; clear n0_ n1_ n2_; (try clear hb); (try clear hb2); (try clear hk); (try clear hi)))
     go_ret
     exact ⟨ze, zw1 HB.out GE287.out⟩

end Go.Proofs.Ythhdmanpjeminaa.H
