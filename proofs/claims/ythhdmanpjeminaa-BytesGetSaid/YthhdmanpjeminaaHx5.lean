-- Written by this session's own edition of the print.
import Derived.Test.YthhdmanpjeminaaHx0
import Derived.Test.YthhdmanpjeminaaHx3
import Derived.Test.YthhdmanpjeminaaHx4
import Derived.Test.YthhdmanpjeminaaSq
import Derived.Test.YthhdmanpjeminaaSq2
import Derived.Test.YthhdmanpjeminaaSq3
namespace Go.Proofs.Ythhdmanpjeminaa.H
open Go.RowKit Go.Proofs.Ythhdmanpjeminaa.Fn Go.Proofs.YthhdmanpjeminaaW.PrintWords Go.Proofs.YthhdmanpjeminaaW.PrintLast Go.Proofs.YthhdmanpjeminaaW.PrintMore
attribute [local go_sem] max2_int min2_int max_two min_two max_three min_three max_four min_four   -- for this text's walks alone
set_option linter.unusedVariables false
set_option linter.unusedSimpArgs false

/-! cellarlaw8_rows -/
theorem cs_ {w : World} {p q : Addr} {x : Value} (h : ∃ v, w.cell? q = some v) : ∃ v, (w.setCell p x).cell? q = some v := h.elim fun _ h => cell?_setCell_some h
mutual
def cellarlaw8_rows.j1 : Nat → Int → List (S38) → List (List (S51)) → List (S38) → List (S33) → List (S51) → Option ((List (List (S51))))
 | 0, _, _, _, _, _, _ => none
 | k + 1, x1, x2, x7, x135000, x135001, x135002 => cellarlaw8_rows.l1 k x1 x2 x7 0 x135000 x135001 x135002
def cellarlaw8_rows.l1 : Nat → Int → List (S38) → List (List (S51)) → Int → List (S38) → List (S33) → List (S51) → Option ((List (List (S51))))
 | 0, _, _, _, _, _, _, _ => none
 | k + 1, x1, x2, x7, x9, x135000, x135001, x135002 => if x9 < (x135001.length : Int) then (cellarlaw8_rows.j3 k x1 x2 x7 x9 (decide (x9 < 10)) x135000 x135001 x135002) else (cellarlaw8_rows.j3 k x1 x2 x7 x9 false x135000 x135001 x135002)
def cellarlaw8_rows.j3 : Nat → Int → List (S38) → List (List (S51)) → Int → Bool → List (S38) → List (S33) → List (S51) → Option ((List (List (S51))))
 | 0, _, _, _, _, _, _, _, _ => none
 | k + 1, x1, x2, x7, x9, x46, x135000, x135001, x135002 => if x46 = true then (cellarlaw8_rows.l2 k x1 x2 x7 x9 1 x135000 x135001 x135002) else (if 0 ≤ x1 then (if (x1 : Int).toNat ≤ 7036874417766 then ((some (([[], (List.replicate (x1 : Int).toNat z51)] : List (List (S51))) : List (List (S51)))).bind fun y146 => (if x7.length + y146.length < 5864062014805 then (some (x7 ++ y146)) else (none))) else (none)) else (none))
def cellarlaw8_rows.l2 : Nat → Int → List (S38) → List (List (S51)) → Int → Int → List (S38) → List (S33) → List (S51) → Option ((List (List (S51))))
 | 0, _, _, _, _, _, _, _, _ => none
 | k + 1, x1, x2, x7, x9, x10, x135000, x135001, x135002 => if x10 ≤ 7 then (cellarlaw8_rows.l3 k x1 x2 x7 x9 x10 0 x135000 x135001 x135002) else (cellarlaw8_rows.l1 k x1 x2 x7 (wrap64 (x9 + 1)) x135000 x135001 x135002)
def cellarlaw8_rows.l3 : Nat → Int → List (S38) → List (List (S51)) → Int → Int → Int → List (S38) → List (S33) → List (S51) → Option ((List (List (S51))))
 | 0, _, _, _, _, _, _, _, _, _ => none
 | k + 1, x1, x2, x7, x9, x10, x11, x135000, x135001, x135002 => if x11 < (x2.length : Int) then (if 0 ≤ x11 then ((cellarref1_Abi.f ((rd_T38 x2 x11).f0) ((rd_T38 x2 x11).f1)).bind fun t153 => (if t153 = true then ((cellarref1_Size.f k ((rd_T38 x2 x11).f0) ((rd_T38 x2 x11).f1) x10).bind fun t155 => (if t155 = x1 then (if 0 ≤ x9 then (if x9 < (x135001.length : Int) then ((cellarref7_Scalar.f k x10 ((rd_T33 x135001 x9).f0) ((rd_T33 x135001 x9).f1) ((rd_T33 x135001 x9).f2) ((rd_T33 x135001 x9).f3)).bind fun t157 => (cellarlaw8_rows.j6 k x1 x2 x7 x9 x10 x11 (!t157) x135000 x135001 x135002)) else (none)) else (none)) else (cellarlaw8_rows.j6 k x1 x2 x7 x9 x10 x11 true x135000 x135001 x135002))) else (cellarlaw8_rows.j6 k x1 x2 x7 x9 x10 x11 true x135000 x135001 x135002))) else (none)) else (cellarlaw8_rows.l2 k x1 x2 x7 x9 (wrap64 (x10 + 1)) x135000 x135001 x135002)
def cellarlaw8_rows.j6 : Nat → Int → List (S38) → List (List (S51)) → Int → Int → Int → Bool → List (S38) → List (S33) → List (S51) → Option ((List (List (S51))))
 | 0, _, _, _, _, _, _, _, _, _, _ => none
 | k + 1, x1, x2, x7, x9, x10, x11, x84, x135000, x135001, x135002 => if x84 = true then (cellarlaw8_rows.l3 k x1 x2 x7 x9 x10 (wrap64 (x11 + 1)) x135000 x135001 x135002) else (if 0 ≤ x11 then (if x11 < (x2.length : Int) then (if 0 ≤ x9 then (if x9 < (x135001.length : Int) then ((cellarref7_Put.f k ((rd_T38 x2 x11).f0) ((rd_T38 x2 x11).f1) x10 ((rd_T33 x135001 x9).f0) ((rd_T33 x135001 x9).f1) ((rd_T33 x135001 x9).f2) ((rd_T33 x135001 x9).f3)).bind fun t160 => ((cellarref0_CopyBytes.f k t160).bind fun t163 => (if (x135002.length : Int) > 0 then (if x1 = 0 then (none) else (if (x135002.length : Int) = 0 then (none) else (if 0 ≤ (Int.tmod x9 (x135002.length : Int)) then (if (Int.tmod x9 (x135002.length : Int)) < (x135002.length : Int) then (if 0 ≤ (Int.tmod (wrap64 (x9 + x11)) x1) then (if (Int.tmod (wrap64 (x9 + x11)) x1) < (t163.length : Int) then (cellarlaw8_rows.j7 k x1 x2 x7 x9 x10 x11 t160 (t163.set ((Int.tmod (wrap64 (x9 + x11)) x1) : Int).toNat (⟨(rd_T51 x135002 (Int.tmod x9 (x135002.length : Int))).f0, (rd_T51 x135002 (Int.tmod x9 (x135002.length : Int))).f1, (rd_T51 x135002 (Int.tmod x9 (x135002.length : Int))).f2, (rd_T51 x135002 (Int.tmod x9 (x135002.length : Int))).f3, (rd_T51 x135002 (Int.tmod x9 (x135002.length : Int))).f4⟩ : S51)) x135000 x135001 x135002) else (none)) else (none)) else (none)) else (none)))) else (cellarlaw8_rows.j7 k x1 x2 x7 x9 x10 x11 t160 t163 x135000 x135001 x135002)))) else (none)) else (none)) else (none)) else (none))
def cellarlaw8_rows.j7 : Nat → Int → List (S38) → List (List (S51)) → Int → Int → Int → List (S51) → List (S51) → List (S38) → List (S33) → List (S51) → Option ((List (List (S51))))
 | 0, _, _, _, _, _, _, _, _, _, _, _ => none
 | k + 1, x1, x2, x7, x9, x10, x11, x12, x13, x135000, x135001, x135002 => (cellarref0_CopyBytes.f k x12).bind fun t168 => (if 0 ≤ (wrap64 (x1 - 1)) then (if (wrap64 (x1 - 1)) < (t168.length : Int) then (if 0 < (t168.length : Int) then ((some (([x12, x13, ((t168.set (0 : Int).toNat (⟨(rd_T51 t168 (wrap64 (x1 - 1))).f0, (rd_T51 t168 (wrap64 (x1 - 1))).f1, (rd_T51 t168 (wrap64 (x1 - 1))).f2, (rd_T51 t168 (wrap64 (x1 - 1))).f3, (rd_T51 t168 (wrap64 (x1 - 1))).f4⟩ : S51)).set ((wrap64 (x1 - 1)) : Int).toNat (⟨(rd_T51 t168 0).f0, (rd_T51 t168 0).f1, (rd_T51 t168 0).f2, (rd_T51 t168 0).f3, (rd_T51 t168 0).f4⟩ : S51))] : List (List (S51))) : List (List (S51)))).bind fun y175 => (if x7.length + y175.length < 5864062014805 then (cellarlaw8_rows.l3 k x1 x2 (x7 ++ y175) x9 x10 (wrap64 (x11 + 1)) x135000 x135001 x135002) else (none))) else (none)) else (none)) else (none))
def cellarlaw8_rows.l0 : Nat → Int → List (S38) → List (List (S51)) → Int → List (S38) → List (S33) → List (S51) → Option ((List (List (S51))))
 | 0, _, _, _, _, _, _, _ => none
 | k + 1, x1, x2, x7, x8, x135000, x135001, x135002 => if (wrap64 (x8 + x1)) ≤ (x135002.length : Int) then (if x8 < 10 then (if 0 ≤ x8 then (if x8 ≤ (wrap64 (x8 + x1)) then (if x7.length < 5864062014805 then (cellarlaw8_rows.l0 k x1 x2 (x7 ++ [((x135002.take ((wrap64 (x8 + x1)) : Int).toNat).drop (x8 : Int).toNat)]) (wrap64 (x8 + 1)) x135000 x135001 x135002) else (none)) else (none)) else (none)) else (cellarlaw8_rows.j1 k x1 x2 x7 x135000 x135001 x135002)) else (cellarlaw8_rows.j1 k x1 x2 x7 x135000 x135001 x135002)
end
def cellarlaw8_rows.f (k : Nat) (l0_0 : List (S38)) (l0_1 : List (S33)) (l0_2 : List (S51)) (a1 : Int) (l2 : List (S38)) : Option ((List (List (S51)))) := cellarlaw8_rows.l0 k a1 l2 ([] : List (List (S51))) 0 l0_0 l0_1 l0_2
theorem cellarlaw8_rows.mono_l : ∀ k, (∀ y0 y1 y2 y3 y4 y5, LeO (cellarlaw8_rows.j1 k y0 y1 y2 y3 y4 y5) (cellarlaw8_rows.j1 (k + 1) y0 y1 y2 y3 y4 y5)) ∧ (∀ y0 y1 y2 y3 y4 y5 y6, LeO (cellarlaw8_rows.l1 k y0 y1 y2 y3 y4 y5 y6) (cellarlaw8_rows.l1 (k + 1) y0 y1 y2 y3 y4 y5 y6)) ∧ (∀ y0 y1 y2 y3 y4 y5 y6 y7, LeO (cellarlaw8_rows.j3 k y0 y1 y2 y3 y4 y5 y6 y7) (cellarlaw8_rows.j3 (k + 1) y0 y1 y2 y3 y4 y5 y6 y7)) ∧ (∀ y0 y1 y2 y3 y4 y5 y6 y7, LeO (cellarlaw8_rows.l2 k y0 y1 y2 y3 y4 y5 y6 y7) (cellarlaw8_rows.l2 (k + 1) y0 y1 y2 y3 y4 y5 y6 y7)) ∧ (∀ y0 y1 y2 y3 y4 y5 y6 y7 y8, LeO (cellarlaw8_rows.l3 k y0 y1 y2 y3 y4 y5 y6 y7 y8) (cellarlaw8_rows.l3 (k + 1) y0 y1 y2 y3 y4 y5 y6 y7 y8)) ∧ (∀ y0 y1 y2 y3 y4 y5 y6 y7 y8 y9, LeO (cellarlaw8_rows.j6 k y0 y1 y2 y3 y4 y5 y6 y7 y8 y9) (cellarlaw8_rows.j6 (k + 1) y0 y1 y2 y3 y4 y5 y6 y7 y8 y9)) ∧ (∀ y0 y1 y2 y3 y4 y5 y6 y7 y8 y9 y10, LeO (cellarlaw8_rows.j7 k y0 y1 y2 y3 y4 y5 y6 y7 y8 y9 y10) (cellarlaw8_rows.j7 (k + 1) y0 y1 y2 y3 y4 y5 y6 y7 y8 y9 y10)) ∧ (∀ y0 y1 y2 y3 y4 y5 y6, LeO (cellarlaw8_rows.l0 k y0 y1 y2 y3 y4 y5 y6) (cellarlaw8_rows.l0 (k + 1) y0 y1 y2 y3 y4 y5 y6))
 | 0 => ⟨fun _ _ _ _ _ _ r h => by simp [cellarlaw8_rows.j1] at h, fun _ _ _ _ _ _ _ r h => by simp [cellarlaw8_rows.l1] at h, fun _ _ _ _ _ _ _ _ r h => by simp [cellarlaw8_rows.j3] at h, fun _ _ _ _ _ _ _ _ r h => by simp [cellarlaw8_rows.l2] at h, fun _ _ _ _ _ _ _ _ _ r h => by simp [cellarlaw8_rows.l3] at h, fun _ _ _ _ _ _ _ _ _ _ r h => by simp [cellarlaw8_rows.j6] at h, fun _ _ _ _ _ _ _ _ _ _ _ r h => by simp [cellarlaw8_rows.j7] at h, fun _ _ _ _ _ _ _ r h => by simp [cellarlaw8_rows.l0] at h⟩
 | k + 1 => by
  obtain ⟨ih0, ih1, ih2, ih3, ih4, ih5, ih6, ih7⟩ := cellarlaw8_rows.mono_l k
  refine ⟨?_, ?_, ?_, ?_, ?_, ?_, ?_, ?_⟩
  ·intro y0 y1 y2 y3 y4 y5
   unfold cellarlaw8_rows.j1
   repeat' first
   | (with_reducible apply ih0)
   | (with_reducible apply ih1)
   | (with_reducible apply ih2)
   | (with_reducible apply ih3)
   | (with_reducible apply ih4)
   | (with_reducible apply ih5)
   | (with_reducible apply ih6)
   | (with_reducible apply ih7)
   | (with_reducible apply cellarref0_CopyBytes.mono)
   | (with_reducible apply cellarref1_Size.mono)
   | (with_reducible apply cellarref7_Put.mono)
   | (with_reducible apply cellarref7_Scalar.mono)
   | (with_reducible apply LeO.refl)
   | (with_reducible apply LeO.none)
   | (with_reducible refine LeO.ite ?_ ?_)
   | (with_reducible refine LeO.bind ?_ (fun _ => ?_))
  ·intro y0 y1 y2 y3 y4 y5 y6
   unfold cellarlaw8_rows.l1
   repeat' first
   | (with_reducible apply ih0)
   | (with_reducible apply ih1)
   | (with_reducible apply ih2)
   | (with_reducible apply ih3)
   | (with_reducible apply ih4)
   | (with_reducible apply ih5)
   | (with_reducible apply ih6)
   | (with_reducible apply ih7)
   | (with_reducible apply cellarref0_CopyBytes.mono)
   | (with_reducible apply cellarref1_Size.mono)
   | (with_reducible apply cellarref7_Put.mono)
   | (with_reducible apply cellarref7_Scalar.mono)
   | (with_reducible apply LeO.refl)
   | (with_reducible apply LeO.none)
   | (with_reducible refine LeO.ite ?_ ?_)
   | (with_reducible refine LeO.bind ?_ (fun _ => ?_))
  ·intro y0 y1 y2 y3 y4 y5 y6 y7
   unfold cellarlaw8_rows.j3
   repeat' first
   | (with_reducible apply ih0)
   | (with_reducible apply ih1)
   | (with_reducible apply ih2)
   | (with_reducible apply ih3)
   | (with_reducible apply ih4)
   | (with_reducible apply ih5)
   | (with_reducible apply ih6)
   | (with_reducible apply ih7)
   | (with_reducible apply cellarref0_CopyBytes.mono)
   | (with_reducible apply cellarref1_Size.mono)
   | (with_reducible apply cellarref7_Put.mono)
   | (with_reducible apply cellarref7_Scalar.mono)
   | (with_reducible apply LeO.refl)
   | (with_reducible apply LeO.none)
   | (with_reducible refine LeO.ite ?_ ?_)
   | (with_reducible refine LeO.bind ?_ (fun _ => ?_))
  ·intro y0 y1 y2 y3 y4 y5 y6 y7
   unfold cellarlaw8_rows.l2
   repeat' first
   | (with_reducible apply ih0)
   | (with_reducible apply ih1)
   | (with_reducible apply ih2)
   | (with_reducible apply ih3)
   | (with_reducible apply ih4)
   | (with_reducible apply ih5)
   | (with_reducible apply ih6)
   | (with_reducible apply ih7)
   | (with_reducible apply cellarref0_CopyBytes.mono)
   | (with_reducible apply cellarref1_Size.mono)
   | (with_reducible apply cellarref7_Put.mono)
   | (with_reducible apply cellarref7_Scalar.mono)
   | (with_reducible apply LeO.refl)
   | (with_reducible apply LeO.none)
   | (with_reducible refine LeO.ite ?_ ?_)
   | (with_reducible refine LeO.bind ?_ (fun _ => ?_))
  ·intro y0 y1 y2 y3 y4 y5 y6 y7 y8
   unfold cellarlaw8_rows.l3
   repeat' first
   | (with_reducible apply ih0)
   | (with_reducible apply ih1)
   | (with_reducible apply ih2)
   | (with_reducible apply ih3)
   | (with_reducible apply ih4)
   | (with_reducible apply ih5)
   | (with_reducible apply ih6)
   | (with_reducible apply ih7)
   | (with_reducible apply cellarref0_CopyBytes.mono)
   | (with_reducible apply cellarref1_Size.mono)
   | (with_reducible apply cellarref7_Put.mono)
   | (with_reducible apply cellarref7_Scalar.mono)
   | (with_reducible apply LeO.refl)
   | (with_reducible apply LeO.none)
   | (with_reducible refine LeO.ite ?_ ?_)
   | (with_reducible refine LeO.bind ?_ (fun _ => ?_))
  ·intro y0 y1 y2 y3 y4 y5 y6 y7 y8 y9
   unfold cellarlaw8_rows.j6
   repeat' first
   | (with_reducible apply ih0)
   | (with_reducible apply ih1)
   | (with_reducible apply ih2)
   | (with_reducible apply ih3)
   | (with_reducible apply ih4)
   | (with_reducible apply ih5)
   | (with_reducible apply ih6)
   | (with_reducible apply ih7)
   | (with_reducible apply cellarref0_CopyBytes.mono)
   | (with_reducible apply cellarref1_Size.mono)
   | (with_reducible apply cellarref7_Put.mono)
   | (with_reducible apply cellarref7_Scalar.mono)
   | (with_reducible apply LeO.refl)
   | (with_reducible apply LeO.none)
   | (with_reducible refine LeO.ite ?_ ?_)
   | (with_reducible refine LeO.bind ?_ (fun _ => ?_))
  ·intro y0 y1 y2 y3 y4 y5 y6 y7 y8 y9 y10
   unfold cellarlaw8_rows.j7
   repeat' first
   | (with_reducible apply ih0)
   | (with_reducible apply ih1)
   | (with_reducible apply ih2)
   | (with_reducible apply ih3)
   | (with_reducible apply ih4)
   | (with_reducible apply ih5)
   | (with_reducible apply ih6)
   | (with_reducible apply ih7)
   | (with_reducible apply cellarref0_CopyBytes.mono)
   | (with_reducible apply cellarref1_Size.mono)
   | (with_reducible apply cellarref7_Put.mono)
   | (with_reducible apply cellarref7_Scalar.mono)
   | (with_reducible apply LeO.refl)
   | (with_reducible apply LeO.none)
   | (with_reducible refine LeO.ite ?_ ?_)
   | (with_reducible refine LeO.bind ?_ (fun _ => ?_))
  ·intro y0 y1 y2 y3 y4 y5 y6
   unfold cellarlaw8_rows.l0
   repeat' first
   | (with_reducible apply ih0)
   | (with_reducible apply ih1)
   | (with_reducible apply ih2)
   | (with_reducible apply ih3)
   | (with_reducible apply ih4)
   | (with_reducible apply ih5)
   | (with_reducible apply ih6)
   | (with_reducible apply ih7)
   | (with_reducible apply cellarref0_CopyBytes.mono)
   | (with_reducible apply cellarref1_Size.mono)
   | (with_reducible apply cellarref7_Put.mono)
   | (with_reducible apply cellarref7_Scalar.mono)
   | (with_reducible apply LeO.refl)
   | (with_reducible apply LeO.none)
   | (with_reducible refine LeO.ite ?_ ?_)
   | (with_reducible refine LeO.bind ?_ (fun _ => ?_))
theorem cellarlaw8_rows.mono : ∀ a0 a1 a2 a3 a4 k, LeO (cellarlaw8_rows.f k a0 a1 a2 a3 a4) (cellarlaw8_rows.f (k + 1) a0 a1 a2 a3 a4) := by
 intro a0 a1 a2 a3 a4 k
 obtain ⟨ih0, ih1, ih2, ih3, ih4, ih5, ih6, ih7⟩ := cellarlaw8_rows.mono_l k
 unfold cellarlaw8_rows.f
 repeat' first
   | (with_reducible apply ih0)
   | (with_reducible apply ih1)
   | (with_reducible apply ih2)
   | (with_reducible apply ih3)
   | (with_reducible apply ih4)
   | (with_reducible apply ih5)
   | (with_reducible apply ih6)
   | (with_reducible apply ih7)
   | (with_reducible apply cellarref0_CopyBytes.mono)
   | (with_reducible apply cellarref1_Size.mono)
   | (with_reducible apply cellarref7_Put.mono)
   | (with_reducible apply cellarref7_Scalar.mono)
   | (with_reducible apply LeO.refl)
   | (with_reducible apply LeO.none)
   | (with_reducible refine LeO.ite ?_ ?_)
   | (with_reducible refine LeO.bind ?_ (fun _ => ?_))
def cellarlaw8_rows.T16 : Bool × List (List Nat × List Nat) := (true, [([], []), ([], []), ([0, 1], [0, 1]), ([2], [2]), ([], []), ([], []), ([5], [5]), ([], []), ([6, 7], [6, 7]), ([8], [8]), ([3, 4, 9], [3, 4, 9]), ([10, 10, 0, 1, 2, 3, 4, 5, 6, 7, 8, 9, 10], [10])])
def cellarlaw8_rows.B16 : List Nat := [0, 0, 3, 7, 0, 0, 32, 0, 224, 480, 1023, 2047]
theorem cellarlaw8_rows.tab16 : rtab .any (opsOf Try.f15 16) = cellarlaw8_rows.T16 := by kernel_rfl
theorem cellarlaw8_rows.bits16 : waitsOk cellarlaw8_rows.T16.2 cellarlaw8_rows.B16 = true := by kernel_rfl
def cellarlaw8_rows.T19 : Bool × List (List Nat × List Nat) := (true, [([], []), ([], []), ([], []), ([1, 2], [1, 2]), ([], []), ([3, 4], [3, 4]), ([], []), ([6], [6]), ([], []), ([], []), ([9], [9]), ([10], [10]), ([8, 11], [8, 11]), ([7, 12], [7, 12]), ([13], [13]), ([0, 5, 0, 1, 2, 3, 4, 5, 6, 7, 8, 9, 10, 11, 12, 13, 14], [0, 5]), ([15, 14, 0, 1, 2, 3, 4, 5, 6, 7, 8, 9, 10, 11, 12, 13, 14], [14, 15])])
def cellarlaw8_rows.B19 : List Nat := [0, 0, 0, 6, 0, 30, 0, 64, 0, 0, 512, 1536, 3840, 8128, 16320, 32767, 65535]
theorem cellarlaw8_rows.tab19 : rtab .any (opsOf Try.f15 19) = cellarlaw8_rows.T19 := by kernel_rfl
theorem cellarlaw8_rows.bits19 : waitsOk cellarlaw8_rows.T19.2 cellarlaw8_rows.B19 = true := by kernel_rfl
def cellarlaw8_rows.T21 : Bool × List (List Nat × List Nat) := (true, [([], []), ([], []), ([], []), ([2], [2]), ([], []), ([], []), ([5], [5]), ([4, 6], [4, 6]), ([7], [7]), ([], []), ([9], [9]), ([10], [10]), ([0, 0, 4, 5, 6, 7, 8, 11], [0]), ([12, 8, 0, 4, 5, 6, 7, 8, 11], [8, 12]), ([1, 3, 0, 1, 2, 3, 4, 5, 6, 7, 8, 9, 10, 11, 12, 13], [1, 3]), ([14, 11, 13, 0, 1, 2, 3, 4, 5, 6, 7, 8, 9, 10, 11, 12, 13], [11, 14])])
def cellarlaw8_rows.B21 : List Nat := [0, 0, 0, 4, 0, 0, 32, 112, 240, 0, 512, 1536, 4081, 8177, 16383, 32767]
theorem cellarlaw8_rows.tab21 : rtab .any (opsOf Try.f15 21) = cellarlaw8_rows.T21 := by kernel_rfl
theorem cellarlaw8_rows.bits21 : waitsOk cellarlaw8_rows.T21.2 cellarlaw8_rows.B21 = true := by kernel_rfl
set_option maxHeartbeats 60000000 in
set_option maxRecDepth 100000 in
theorem cellarlaw8_rows.calls (k : Nat) (A0_0 : Option Addr) (c0_0 : Nat) (l0_0 : List (S38)) (A0_1 : Option Addr) (c0_1 : Nat) (l0_1 : List (S33)) (P0_2_ : Nat → Prop) (A0_2 : Option Addr) (c0_2 : Nat) (l0_2 : List (S51)) (a1 : Int) (A2 : Option Addr) (c2 : Nat) (l2 : List (S38)) (r : List (List (S51))) (w : World) (hr0_0 : Kd.C k38 w A0_0 l0_0.length l0_0) (hc0_0 : l0_0.length ≤ c0_0) (hr0_1 : Kd.C k33 w A0_1 l0_1.length l0_1) (hc0_1 : l0_1.length ≤ c0_1) (hs0_2 : Kd.V k51 51 w w.heap.size (fun k_ => P0_2_ k_) (.slice A0_2 l0_2.length c0_2) l0_2) (hr2 : Kd.C k38 w A2 l2.length l2) (hc2 : l2.length ≤ c2) (h : cellarlaw8_rows.f k l0_0 l0_1 l0_2 a1 l2 = some r) :
  Calls Try.prog 15 #[.agg #[.slice A0_0 l0_0.length c0_0, .slice A0_1 l0_1.length c0_1, .slice A0_2 l0_2.length c0_2], .int .i64 a1, .slice A2 l2.length c2] w fun e w' => ∃ v0_ : Value, e = .returned (v0_) ∧ Kd.N (Kd.slice 51 k51) 24 w' w.heap.size (fun k_ => (P0_2_ k_ ∨ w.heap.size ≤ k_)) v0_ r ∧ Below w.heap.size w w' := by
 have hu26 := Try.underlying26
 have hu38 := Try.underlying38
 have hu33 := Try.underlying33
 have hu51 := Try.underlying51
 have HR0_0 := Aside0.mk hr0_0
 have HC0_0 := Aside0.mk hc0_0
 clear hr0_0 hc0_0
 have HR0_1 := Aside0.mk hr0_1
 have HC0_1 := Aside0.mk hc0_1
 clear hr0_1 hc0_1
 have HO0_2 := Aside0.mk (show Kd.V k51 51 w w.heap.size (fun k_ => (P0_2_ k_ ∨ w.heap.size ≤ k_)) (.slice A0_2 l0_2.length c0_2) l0_2 from Kd.V_mono hs0_2 (fun k_ hk => .inl hk))
 have HR2 := Aside0.mk hr2
 have HC2 := Aside0.mk hc2
 clear hr2 hc2
 have HB := Aside0.mk (Below.refl w.heap.size w)
 have H : (cellarlaw8_rows.l0 k a1 l2 ([] : List (List (S51))) 0 l0_0 l0_1 l0_2) = some r := h
 clear h
 have HC4 := Aside0.mk H
 clear H
 go_enter Try.func15, Try.ntmps15
 go_upto_block 0 with (first | ((with_reducible refine gate_dst (N := 3) rfl ?_); refine zbox (N := 3) (cs := #[.slice A0_0 l0_0.length c0_0, .slice A0_1 l0_1.length c0_1, .slice A0_2 l0_2.length c0_2]) (t := 26) ?_; intro gb134 hg w5 hbox hb; have n0_ := Aside0.mk (Kd.V_below (Kd.V_elderB (by (with_reducible repeat (first | apply Kd.V_alloc | apply Kd.V_drewN | apply Kd.V_drew)); exact HO0_2.out) gb134 (Nat.le_of_eq hg.symm)) hb); have n1_ := Aside0.mk (below_step (zw0 HB.out) hb); have BK134 := Aside0.mk (hbox); have GW134 := Aside0.mk (zg hg (below_size (zw0 HB.out))); have GE134 := GW134; clear HO0_2 HB; have HO0_2 := n0_; have HB := n1_; clear n0_ n1_; clear hb hbox hg))
 (try simp only [Act.put, List.setIfInBounds_toArray, List.set_cons_zero, List.set_cons_succ])
 go_cut [7] (fun v7 wc => ∃ (kq : Nat) (x7_3 : List (List (S51))), Aside0 (cellarlaw8_rows.j1 kq a1 l2 x7_3 l0_0 l0_1 l0_2 = some r) ∧ Aside0 (kq ≤ k) ∧ Aside0 (Kd.N (Kd.slice 51 k51) 24 wc w.heap.size (fun k_ => (P0_2_ k_ ∨ w.heap.size ≤ k_) ∧ k_ ≠ gb134) v7 x7_3) ∧ Aside0 (Kd.V k51 51 wc w.heap.size (fun k_ => (P0_2_ k_ ∨ w.heap.size ≤ k_) ∧ some k_ ≠ (v7 : Value).ownBlock ∧ k_ ≠ gb134) (.slice A0_2 l0_2.length c0_2) l0_2) ∧ Aside0 (wc.heap[gb134]? = some (.cells #[(.slice A0_0 l0_0.length c0_0), (.slice A0_1 l0_1.length c0_1), (.slice A0_2 l0_2.length c0_2)] 26 (0, 0))) ∧ Aside0 (Below w.heap.size w wc))
 case first =>
  have H := HC4.out
  clear HC4
  have H' := Aside0.mk H
  clear H
  go_wp2
  go_loopg [7, 8] k (fun kq v7 v8 w' => ∃ (x7_1 : List (List (S51))) (x8_1 : Int), v8 = .int .i64 x8_1 ∧ Aside0 (cellarlaw8_rows.l0 kq a1 l2 x7_1 x8_1 l0_0 l0_1 l0_2 = some r) ∧ Aside0 (kq ≤ k) ∧ Aside0 (Kd.N (Kd.slice 51 k51) 24 w' w.heap.size (fun k_ => (P0_2_ k_ ∨ w.heap.size ≤ k_) ∧ k_ ≠ gb134) v7 x7_1) ∧ Aside0 (Kd.V k51 51 w' w.heap.size (fun k_ => (P0_2_ k_ ∨ w.heap.size ≤ k_) ∧ some k_ ≠ (v7 : Value).ownBlock ∧ k_ ≠ gb134) (.slice A0_2 l0_2.length c0_2) l0_2) ∧ Aside0 (w'.heap[gb134]? = some (.cells #[(.slice A0_0 l0_0.length c0_0), (.slice A0_1 l0_1.length c0_1), (.slice A0_2 l0_2.length c0_2)] 26 (0, 0))) ∧ Aside0 (Below w.heap.size w w'))
  case atStart => exact ⟨(([] : List (List (S51)))), (0), (zr), H', ⟨Nat.le_refl _⟩, ⟨by first | exact Kd.S_nil _ _ _ _ _ | exact Kd.N_nil _ _ _ _ _ | exact Kd.V_nil _ _ _ _ _ | exact Kd.Q_nil _ _ _ _ _ | exact Kd.R_nil _ _ _ _ _⟩, ⟨by (with_reducible repeat (first | apply Kd.V_alloc | apply Kd.V_drewN | apply Kd.V_drew)); exact Kd.V_mono HO0_2.out (fun _ hk => ⟨hk.1, ⟨(by simp [Value.ownBlock]), hk.2⟩⟩)⟩, ⟨zb BK134.out⟩, ⟨zw1 HB.out GE134.out⟩⟩
  case round =>
   clear H'
   try clear c1; try clear c2; try clear p2
   obtain ⟨x7_1, x8_1, rfl, HA, HK1, HO_7, HO_135002, BK134, HB⟩ := hrel
   cases gk with
   | zero => exact absurd HA.out (by simp [cellarlaw8_rows.l0])
   | succ k1 =>
    have H := HA.out
    clear HA
    simp only [cellarlaw8_rows.l0] at H
    by_cases c6 : (wrap64 (x8_1 + a1)) ≤ (l0_2.length : Int)
    rotate_left
    ·rw [if_neg c6] at H
     have c6b0 : decide ((wrap64 (x8_1 + a1)) ≤ (l0_2.length : Int)) = false := decide_eq_false c6
     clear c6
     (first | rw [c6b0] | (simp only [i64_w, i32_w]; rw [c6b0]) | skip)
     have H' := Aside0.mk H
     clear H
     have hcz16_0 := zc BK134.out 0
     have hcz16_1 := zc BK134.out 1
     have hcz16_2 := zc BK134.out 2
     have hfz16_0 := blk_frozen BK134.out 0
     have hfz16_1 := blk_frozen BK134.out 1
     have hfz16_2 := blk_frozen BK134.out 2
     go_wp2
     go_meet
     case rel => exact ⟨_, (x7_1), H', ⟨by have := HK1.out; first | omega | exact Nat.le_refl _⟩, ⟨by (with_reducible repeat (first | apply Kd.N_alloc | apply Kd.N_drewN | apply Kd.N_drew)); exact HO_7.out⟩, ⟨by (with_reducible repeat (first | apply Kd.V_alloc | apply Kd.V_drewN | apply Kd.V_drew)); exact HO_135002.out⟩, ⟨zb BK134.out⟩, ⟨zw1 HB.out GE134.out⟩⟩
    rw [if_pos c6] at H
    have c6b0 : decide ((wrap64 (x8_1 + a1)) ≤ (l0_2.length : Int)) = true := decide_eq_true c6
    clear c6
    (first | rw [c6b0] | (simp only [i64_w, i32_w]; rw [c6b0]) | skip)
    by_cases c7 : x8_1 < 10
    rotate_left
    ·rw [if_neg c7] at H
     have c7b0 : decide (x8_1 < 10) = false := decide_eq_false c7
     clear c7
     have H' := Aside0.mk H
     clear H
     have hcz15_0 := zc BK134.out 0
     have hcz15_1 := zc BK134.out 1
     have hcz15_2 := zc BK134.out 2
     have hfz15_0 := blk_frozen BK134.out 0
     have hfz15_1 := blk_frozen BK134.out 1
     have hfz15_2 := blk_frozen BK134.out 2
     go_wp2
     go_meet
     case rel => exact ⟨_, (x7_1), H', ⟨by have := HK1.out; first | omega | exact Nat.le_refl _⟩, ⟨by (with_reducible repeat (first | apply Kd.N_alloc | apply Kd.N_drewN | apply Kd.N_drew)); exact HO_7.out⟩, ⟨by (with_reducible repeat (first | apply Kd.V_alloc | apply Kd.V_drewN | apply Kd.V_drew)); exact HO_135002.out⟩, ⟨zb BK134.out⟩, ⟨zw1 HB.out GE134.out⟩⟩
    rw [if_pos c7] at H
    have c7b0 : decide (x8_1 < 10) = true := decide_eq_true c7
    clear c7
    by_cases c8 : 0 ≤ x8_1
    rotate_left
    ·rw [if_neg c8] at H
     exact absurd H (by simp)
    rw [if_pos c8] at H
    have c8b0 := eq_true c8
    have c8b1 : decide (0 ≤ x8_1) = true := decide_eq_true c8
    clear c8
    by_cases c9 : x8_1 ≤ (wrap64 (x8_1 + a1))
    rotate_left
    ·rw [if_neg c9] at H
     exact absurd H (by simp)
    rw [if_pos c9] at H
    have c9b0 := eq_true c9
    have c9b1 : decide (x8_1 ≤ (wrap64 (x8_1 + a1))) = true := decide_eq_true c9
    have c10b0 := eq_true (zdec : (wrap64 (x8_1 + a1)) ≤ (l0_2.length : Int))
    obtain ⟨y135, hy135⟩ : ∃ y_ : List (S51), y_ = ((l0_2.take ((wrap64 (x8_1 + a1)) : Int).toNat).drop (x8_1 : Int).toNat) := ⟨_, rfl⟩
    replace H : (if x7_1.length < 5864062014805 then (cellarlaw8_rows.l0 k1 a1 l2 (x7_1 ++ [y135]) (wrap64 (x8_1 + 1)) l0_0 l0_1 l0_2) else (none)) = some r := by first | (rw [hy135]; with_reducible exact H) | (have H2_ := (Option.bind_some _ _).symm.trans H; rw [hy135]; with_reducible exact H2_) | (have H2_ := (Option.bind_some _ _).symm.trans H; with_reducible exact H2_) | with_reducible exact H | (rw [hy135]; exact H) | exact H
    have Ny135 := Aside0.mk hy135
    clear hy135
    by_cases c11 : x7_1.length < 5864062014805
    rotate_left
    ·rw [if_neg c11] at H
     exact absurd H (by simp)
    rw [if_pos c11] at H
    have LMc11 := Aside0.mk c11
    clear c11
    obtain ⟨y140, hy140⟩ : ∃ y_ : List (List (S51)), y_ = (x7_1 ++ [y135]) := ⟨_, rfl⟩
    replace H : (cellarlaw8_rows.l0 k1 a1 l2 y140 (wrap64 (x8_1 + 1)) l0_0 l0_1 l0_2) = some r := by first | (rw [hy140]; with_reducible exact H) | (have H2_ := (Option.bind_some _ _).symm.trans H; rw [hy140]; with_reducible exact H2_) | (have H2_ := (Option.bind_some _ _).symm.trans H; with_reducible exact H2_) | with_reducible exact H | (rw [hy140]; exact H) | exact H
    have Ny140 := Aside0.mk hy140
    clear hy140
    have H' := Aside0.mk H
    clear H
    have hcz12_0 := zc BK134.out 0
    have hcz12_1 := zc BK134.out 1
    have hcz12_2 := zc BK134.out 2
    have hfz12_0 := blk_frozen BK134.out 0
    have hfz12_1 := blk_frozen BK134.out 1
    have hfz12_2 := blk_frozen BK134.out 2
    have q13 : ((wrap64 (x8_1 + a1)) : Int) ≤ ((l0_2.length : Int) : Int) := zdec
    obtain ⟨i013, hi013, _, hsz13, _⟩ := info_parts info51
    have hroom13 : l0_2.length ≤ c0_2 := (Kd.V_reads' HO_135002.out).2.1
    have hC13 : Kd.F k51 _ _ A0_2 l0_2.length l0_2 := (Kd.V_at (base := w.heap.size) HO_135002.out).2.2
    have ql13 : (x8_1 : Int) ≤ ((wrap64 (x8_1 + a1)) : Int) := zdec
    have q013 : (0 : Int) ≤ (x8_1 : Int) := zdec
    have hcut13 := cut_mid (P := Try.prog) 24 51 .i64 .i64 Try.underlying24 hi013 5 hsz13 A0_2 l0_2.length c0_2 x8_1 (wrap64 (x8_1 + a1)) q013 ql13 q13 hroom13
    have hr13 := Kd.F_mid (lo := (x8_1 : Int).toNat) (hi := ((wrap64 (x8_1 + a1)) : Int).toNat) (c := c0_2) hC13 (by omega) (by omega) hroom13
    obtain ⟨A13, hA13⟩ : ∃ A1, A1 = (if c0_2 = (x8_1 : Int).toNat then A0_2 else (A0_2 : Option Addr).map (·.add ((x8_1 : Int).toNat * 5))) := ⟨_, rfl⟩
    obtain ⟨c13, hc13⟩ : ∃ c1, c1 = c0_2 - (x8_1 : Int).toNat := ⟨_, rfl⟩
    have hy13 : y135.length = ((wrap64 (x8_1 + a1)) : Int).toNat - (x8_1 : Int).toNat := (by rw [Ny135.out, List.length_drop, List.length_take] <;> omega)
    rw [show ((l0_2).take ((wrap64 (x8_1 + a1)) : Int).toNat).drop (x8_1 : Int).toNat = y135 from Ny135.out.symm] at hr13
    replace hr13 : Kd.F k51 _ _ A13 y135.length y135 := (by rw [hA13]; exact hr13)
    rw [← hy13, ← hA13, ← hc13] at hcut13
    have HO139 := Aside0.mk (show Kd.V k51 51 _ w.heap.size _ (.slice A13 y135.length c13) y135 from Kd.V_mk (by rw [hy13, hc13]; exact Nat.sub_le_sub_right (Nat.le_trans (by omega) hroom13) _) hr13)
    have HC139 := Aside0.mk (show y135.length ≤ c13 from by rw [hy13, hc13]; exact Nat.sub_le_sub_right (Nat.le_trans (by omega) hroom13) _)
    clear hr13 hC13 hroom13 hi013 hsz13 hc13
    have KY13 := Aside0.mk hy13
    have KA13 := Aside0.mk hA13
    clear hy13 hA13
    replace q13 := eq_true q13
    go_wp2_with (first | ((with_reducible refine gate_builtin (b := .append) (xs := #[.tmp 28, .tmp 36]) rfl ?_); at_builtin; refine Kd.N_append (Kd.slice 51 k51) (w0 := w) w.heap.size rfl (.tmp 28) (.tmp 36) 29 24 (.slice none 0 0) 24 rfl Try.underlying29 info24 rfl (by decide) (by omega) u7 x7_1 y135 [.slice A13 y135.length c13] (fun k_ => (P0_2_ k_ ∨ w.heap.size ≤ k_) ∧ k_ ≠ gb134) (fun k_ => ((fun k_ => (P0_2_ k_ ∨ w.heap.size ≤ k_) ∧ k_ ≠ gb134)) k_ ∧ some k_ ≠ (u7 : Value).ownBlock) rfl rfl ?aP (fun _ hk => hk) ?aF ?aO ?aB ?aS ?aL ?_; (case aP => exact (Kd.FK_slice_mk (Kd.V_reads' (Kd.V_mono (ok' := (fun k_ => ((fun k_ => (P0_2_ k_ ∨ w.heap.size ≤ k_) ∧ k_ ≠ gb134)) k_ ∧ some k_ ≠ (u7 : Value).ownBlock)) (HO139.out) (fun k_ hk => ⟨⟨hk.1, hk.2.2⟩, hk.2.1⟩))).2.1 (Kd.V_F (Kd.V_mono (ok' := (fun k_ => ((fun k_ => (P0_2_ k_ ∨ w.heap.size ≤ k_) ∧ k_ ≠ gb134)) k_ ∧ some k_ ≠ (u7 : Value).ownBlock)) (HO139.out) (fun k_ hk => ⟨⟨hk.1, hk.2.2⟩, hk.2.1⟩))))); (case aB => exact (zw1 HB.out GE134.out)); (case aF => exact (fun k_ hk => ⟨(.inr (Nat.le_trans (below_size (zw1 HB.out GE134.out)) hk)), Kd.freshB (g := gb134) (o := .cells #[.slice A0_0 l0_0.length c0_0, .slice A0_1 l0_1.length c0_1, .slice A0_2 l0_2.length c0_2] 26 (0, 0)) (zb BK134.out) k_ hk⟩)); (case aO => exact (by (with_reducible repeat (first | apply Kd.N_alloc | apply Kd.N_drewN | apply Kd.N_drew)); exact HO_7.out)); (case aS => exact (below_size (zw1 HB.out GE134.out))); (case aL => have := LMc11.out; omega); intro v141 w14 ho hb hg hat; rw [← Ny140.out] at ho; have n0_ := Aside0.mk (Kd.V_afterv (ok := (fun k_ => (P0_2_ k_ ∨ w.heap.size ≤ k_) ∧ k_ ≠ gb134)) (by (with_reducible repeat (first | apply Kd.V_alloc | apply Kd.V_drewN | apply Kd.V_drew)); exact Kd.V_mono HO_135002.out (fun _ hk => ⟨⟨hk.1, hk.2.2⟩, hk.2.1⟩)) hg hat); have n1_ := Aside0.mk (blk_grown (g := gb134) (o := .cells #[.slice A0_0 l0_0.length c0_0, .slice A0_1 l0_1.length c0_1, .slice A0_2 l0_2.length c0_2] 26 (0, 0)) (zb BK134.out) hg (Kd.N_ne HO_7.out BK134.out (by decide))); have n2_ := Aside0.mk (Kd.V_afterv (ok := (fun k_ => (P0_2_ k_ ∨ w.heap.size ≤ k_) ∧ k_ ≠ gb134)) (by (with_reducible repeat (first | apply Kd.V_alloc | apply Kd.V_drewN | apply Kd.V_drew)); exact Kd.V_mono HO139.out (fun _ hk => ⟨⟨hk.1, hk.2.2⟩, hk.2.1⟩)) hg hat); have n3_ := Aside0.mk (hb); have HO142 := Aside0.mk (ho); clear HO_135002 BK134 HO139 HB HO_7; have HO_135002 := n0_; have BK134 := n1_; have HO139 := n2_; have HB := n3_; clear n0_ n1_ n2_ n3_; clear ho hb hg hat))
    go_roundg k1
    case measure => have := HK1.out; omega
    case rel => exact ⟨(y140), (wrap64 (x8_1 + 1)), (zr), H', ⟨by have := HK1.out; omega⟩, ⟨by (with_reducible repeat (first | apply Kd.N_alloc | apply Kd.N_drewN | apply Kd.N_drew)); exact HO142.out⟩, ⟨by (with_reducible repeat (first | apply Kd.V_alloc | apply Kd.V_drewN | apply Kd.V_drew)); exact Kd.V_mono HO_135002.out (fun _ hk => ⟨hk.1.1, ⟨hk.2, hk.1.2⟩⟩)⟩, ⟨zb BK134.out⟩, ⟨zw1 HB.out GE134.out⟩⟩
 case rest =>
  clear HC4
  try clear c1; try clear q1; try clear c2; try clear p2; try clear c6; try clear c6b0; try clear p6; try clear c7; try clear c7b0; try clear c8; try clear c8b0; try clear c8b1; try clear c9; try clear c9b0; try clear c9b1; try clear c10; try clear c10b0; try clear c11; try clear c13; try clear q13; try clear c15; try clear p2; try clear q013; try clear q13
  obtain ⟨kq, x7_3, HA, HJ3, HO_7, HO_135002, BK134, HB⟩ := hcut
  cases kq with
  | zero => exact absurd HA.out (by simp [cellarlaw8_rows.j1])
  | succ kj3 =>
   have H := HA.out
   clear HA
   simp only [cellarlaw8_rows.j1] at H
   have H' := Aside0.mk H
   clear H
   go_wp2
   go_loopg [7, 9] kj3 (fun kq v7 v9 w' => ∃ (x7_2 : List (List (S51))) (x9_2 : Int) (x135002_2 : List (S51)) (u135002 : Value), v9 = .int .i64 x9_2 ∧ Aside0 (cellarlaw8_rows.l1 kq a1 l2 x7_2 x9_2 l0_0 l0_1 x135002_2 = some r) ∧ Aside0 (kq ≤ kj3) ∧ Aside0 (Kd.N (Kd.slice 51 k51) 24 w' w.heap.size (fun k_ => (P0_2_ k_ ∨ w.heap.size ≤ k_) ∧ k_ ≠ gb134) v7 x7_2) ∧ Aside0 (Kd.V k51 51 w' w.heap.size (fun k_ => (P0_2_ k_ ∨ w.heap.size ≤ k_) ∧ some k_ ≠ (v7 : Value).ownBlock ∧ k_ ≠ gb134) u135002 x135002_2) ∧ Aside0 (w'.heap[gb134]? = some (.cells #[(.slice A0_0 l0_0.length c0_0), (.slice A0_1 l0_1.length c0_1), u135002] 26 (0, 0))) ∧ Aside0 (Below w.heap.size w w'))
   case atStart => exact ⟨(x7_3), (0), (l0_2), (.slice A0_2 l0_2.length c0_2), (zr), H', ⟨Nat.le_refl _⟩, ⟨by (with_reducible repeat (first | apply Kd.N_alloc | apply Kd.N_drewN | apply Kd.N_drew)); exact HO_7.out⟩, ⟨by (with_reducible repeat (first | apply Kd.V_alloc | apply Kd.V_drewN | apply Kd.V_drew)); exact HO_135002.out⟩, ⟨zb BK134.out⟩, ⟨zw1 HB.out GE134.out⟩⟩
   case round =>
    clear H'
    try clear c1; try clear q1; try clear c2; try clear p2; try clear c6; try clear c6b0; try clear p6; try clear c7; try clear c7b0; try clear c8; try clear c8b0; try clear c8b1; try clear c9; try clear c9b0; try clear c9b1; try clear c10; try clear c10b0; try clear c11; try clear c13; try clear q13; try clear c15; try clear p2; try clear p6; try clear q013; try clear q1; try clear q13
    obtain ⟨x7_2, x9_2, x135002_2, u135002, rfl, HA, HK2, HO_7, HO_135002, BK134, HB⟩ := hrel
    cases gk with
    | zero => exact absurd HA.out (by simp [cellarlaw8_rows.l1])
    | succ k2 =>
     have H := HA.out
     clear HA
     simp only [cellarlaw8_rows.l1] at H
     have HC17 := Aside0.mk H
     clear H
     go_upto_region 7 with (fail)
     go_cut [46] (fun v46 wc => ∃ (kq : Nat) (x46_16 : Bool), v46 = .bool x46_16 ∧ Aside0 (cellarlaw8_rows.j3 kq a1 l2 x7_2 x9_2 x46_16 l0_0 l0_1 x135002_2 = some r) ∧ Aside0 (kq ≤ k2) ∧ Aside0 (Kd.N (Kd.slice 51 k51) 24 wc w.heap.size (fun k_ => (P0_2_ k_ ∨ w.heap.size ≤ k_) ∧ k_ ≠ gb134) u7 x7_2) ∧ Aside0 (Kd.V k51 51 wc w.heap.size (fun k_ => (P0_2_ k_ ∨ w.heap.size ≤ k_) ∧ some k_ ≠ (u7 : Value).ownBlock ∧ k_ ≠ gb134) u135002 x135002_2) ∧ Aside0 (wc.heap[gb134]? = some (.cells #[(.slice A0_0 l0_0.length c0_0), (.slice A0_1 l0_1.length c0_1), u135002] 26 (0, 0))) ∧ Aside0 (Below w.heap.size w wc))
     case first =>
      have H := HC17.out
      clear HC17
      by_cases c18 : x9_2 < (l0_1.length : Int)
      rotate_left
      ·rw [if_neg c18] at H
       have c18b0 : decide (x9_2 < (l0_1.length : Int)) = false := decide_eq_false c18
       clear c18
       (first | rw [c18b0] | (simp only [i64_w, i32_w]; rw [c18b0]) | skip)
       have H' := Aside0.mk H
       clear H
       have hcz20_0 := zc BK134.out 0
       have hcz20_1 := zc BK134.out 1
       have hcz20_2 := zc BK134.out 2
       have hfz20_0 := blk_frozen BK134.out 0
       have hfz20_1 := blk_frozen BK134.out 1
       have hfz20_2 := blk_frozen BK134.out 2
       go_wp2
       go_meet
       case rel => exact ⟨_, (false), (zr), H', ⟨by have := HJ3.out; have := HK2.out; first | omega | exact Nat.le_refl _⟩, ⟨by (with_reducible repeat (first | apply Kd.N_alloc | apply Kd.N_drewN | apply Kd.N_drew)); exact HO_7.out⟩, ⟨by (with_reducible repeat (first | apply Kd.V_alloc | apply Kd.V_drewN | apply Kd.V_drew)); exact HO_135002.out⟩, ⟨zb BK134.out⟩, ⟨zw1 HB.out GE134.out⟩⟩
      rw [if_pos c18] at H
      have c18b0 : decide (x9_2 < (l0_1.length : Int)) = true := decide_eq_true c18
      clear c18
      (first | rw [c18b0] | (simp only [i64_w, i32_w]; rw [c18b0]) | skip)
      have H' := Aside0.mk H
      clear H
      have hcz19_0 := zc BK134.out 0
      have hcz19_1 := zc BK134.out 1
      have hcz19_2 := zc BK134.out 2
      have hfz19_0 := blk_frozen BK134.out 0
      have hfz19_1 := blk_frozen BK134.out 1
      have hfz19_2 := blk_frozen BK134.out 2
      go_wp2
      go_meet
      case rel => exact ⟨_, (decide (x9_2 < 10)), (zr), H', ⟨by have := HJ3.out; have := HK2.out; first | omega | exact Nat.le_refl _⟩, ⟨by (with_reducible repeat (first | apply Kd.N_alloc | apply Kd.N_drewN | apply Kd.N_drew)); exact HO_7.out⟩, ⟨by (with_reducible repeat (first | apply Kd.V_alloc | apply Kd.V_drewN | apply Kd.V_drew)); exact HO_135002.out⟩, ⟨zb BK134.out⟩, ⟨zw1 HB.out GE134.out⟩⟩
     case rest =>
      clear HC17
      try clear c1; try clear q1; try clear c2; try clear p2; try clear c6; try clear c6b0; try clear p6; try clear c7; try clear c7b0; try clear c8; try clear c8b0; try clear c8b1; try clear c9; try clear c9b0; try clear c9b1; try clear c10; try clear c10b0; try clear c11; try clear c13; try clear q13; try clear c15; try clear c18; try clear c18b0; try clear p2; try clear p6; try clear q013; try clear q1; try clear q13
      obtain ⟨kq, x46_16, rfl, HA, HJ16, HO_7, HO_135002, BK134, HB⟩ := hcut
      cases kq with
      | zero => exact absurd HA.out (by simp [cellarlaw8_rows.j3])
      | succ kj16 =>
       have H := HA.out
       clear HA
       simp only [cellarlaw8_rows.j3] at H
       by_cases c21 : x46_16 = true
       ·subst c21
        have H1 : (cellarlaw8_rows.l2 kj16 a1 l2 x7_2 x9_2 1 l0_0 l0_1 x135002_2) = some r := by rw [if_pos rfl] at H; exact H
        clear H
        have H := H1
        clear H1
        have H' := Aside0.mk H
        clear H
        go_wp2
        go_loopg [7, 10] kj16 (fun kq v7 v10 w' => ∃ (x7_4 : List (List (S51))) (x10_4 : Int) (x135002_4 : List (S51)) (u135002 : Value), v10 = .int .i64 x10_4 ∧ Aside0 (cellarlaw8_rows.l2 kq a1 l2 x7_4 x9_2 x10_4 l0_0 l0_1 x135002_4 = some r) ∧ Aside0 (kq ≤ kj16) ∧ Aside0 (Kd.N (Kd.slice 51 k51) 24 w' w.heap.size (fun k_ => (P0_2_ k_ ∨ w.heap.size ≤ k_) ∧ k_ ≠ gb134) v7 x7_4) ∧ Aside0 (Kd.V k51 51 w' w.heap.size (fun k_ => (P0_2_ k_ ∨ w.heap.size ≤ k_) ∧ some k_ ≠ (v7 : Value).ownBlock ∧ k_ ≠ gb134) u135002 x135002_4) ∧ Aside0 (w'.heap[gb134]? = some (.cells #[(.slice A0_0 l0_0.length c0_0), (.slice A0_1 l0_1.length c0_1), u135002] 26 (0, 0))) ∧ Aside0 (Below w.heap.size w w'))
        case atStart => exact ⟨(x7_2), (1), (x135002_2), (u135002), (zr), H', ⟨Nat.le_refl _⟩, ⟨by (with_reducible repeat (first | apply Kd.N_alloc | apply Kd.N_drewN | apply Kd.N_drew)); exact HO_7.out⟩, ⟨by (with_reducible repeat (first | apply Kd.V_alloc | apply Kd.V_drewN | apply Kd.V_drew)); exact HO_135002.out⟩, ⟨zb BK134.out⟩, ⟨zw1 HB.out GE134.out⟩⟩
        case round =>
         clear H'
         try clear c1; try clear q1; try clear c2; try clear p2; try clear c6; try clear c6b0; try clear p6; try clear c7; try clear c7b0; try clear c8; try clear c8b0; try clear c8b1; try clear c9; try clear c9b0; try clear c9b1; try clear c10; try clear c10b0; try clear c11; try clear c13; try clear q13; try clear c15; try clear c18; try clear c18b0; try clear c21; try clear p2; try clear p6; try clear q013; try clear q1; try clear q13
         obtain ⟨x7_4, x10_4, x135002_4, u135002, rfl, HA, HK4, HO_7, HO_135002, BK134, HB⟩ := hrel
         cases gk with
         | zero => exact absurd HA.out (by simp [cellarlaw8_rows.l2])
         | succ k4 =>
          have H := HA.out
          clear HA
          simp only [cellarlaw8_rows.l2] at H
          by_cases c22 : x10_4 ≤ 7
          rotate_left
          ·rw [if_neg c22] at H
           have c22b0 : decide (x10_4 ≤ 7) = false := decide_eq_false c22
           clear c22
           have H' := Aside0.mk H
           clear H
           go_wp2
           go_roundg k4
           case measure => have := HJ3.out; have := HK2.out; have := HJ16.out; have := HK4.out; omega
           case rel => exact ⟨(x7_4), (wrap64 (x9_2 + 1)), (x135002_4), (u135002), (zr), H', ⟨by have := HJ3.out; have := HK2.out; have := HJ16.out; have := HK4.out; omega⟩, ⟨by (with_reducible repeat (first | apply Kd.N_alloc | apply Kd.N_drewN | apply Kd.N_drew)); exact HO_7.out⟩, ⟨by (with_reducible repeat (first | apply Kd.V_alloc | apply Kd.V_drewN | apply Kd.V_drew)); exact HO_135002.out⟩, ⟨zb BK134.out⟩, ⟨zw1 HB.out GE134.out⟩⟩
          rw [if_pos c22] at H
          have c22b0 : decide (x10_4 ≤ 7) = true := decide_eq_true c22
          clear c22
          have H' := Aside0.mk H
          clear H
          go_wp2
          go_loopg [7, 11] k4 (fun kq v7 v11 w' => ∃ (x7_5 : List (List (S51))) (x11_5 : Int) (x135002_5 : List (S51)) (u135002 : Value), v11 = .int .i64 x11_5 ∧ Aside0 (cellarlaw8_rows.l3 kq a1 l2 x7_5 x9_2 x10_4 x11_5 l0_0 l0_1 x135002_5 = some r) ∧ Aside0 (kq ≤ k4) ∧ Aside0 (Kd.N (Kd.slice 51 k51) 24 w' w.heap.size (fun k_ => (P0_2_ k_ ∨ w.heap.size ≤ k_) ∧ k_ ≠ gb134) v7 x7_5) ∧ Aside0 (Kd.V k51 51 w' w.heap.size (fun k_ => (P0_2_ k_ ∨ w.heap.size ≤ k_) ∧ some k_ ≠ (v7 : Value).ownBlock ∧ k_ ≠ gb134) u135002 x135002_5) ∧ Aside0 (w'.heap[gb134]? = some (.cells #[(.slice A0_0 l0_0.length c0_0), (.slice A0_1 l0_1.length c0_1), u135002] 26 (0, 0))) ∧ Aside0 (Below w.heap.size w w'))
          case atStart => exact ⟨(x7_4), (0), (x135002_4), (u135002), (zr), H', ⟨Nat.le_refl _⟩, ⟨by (with_reducible repeat (first | apply Kd.N_alloc | apply Kd.N_drewN | apply Kd.N_drew)); exact HO_7.out⟩, ⟨by (with_reducible repeat (first | apply Kd.V_alloc | apply Kd.V_drewN | apply Kd.V_drew)); exact HO_135002.out⟩, ⟨zb BK134.out⟩, ⟨zw1 HB.out GE134.out⟩⟩
          case round =>
           clear H'
           try clear c1; try clear q1; try clear c2; try clear p2; try clear c6; try clear c6b0; try clear p6; try clear c7; try clear c7b0; try clear c8; try clear c8b0; try clear c8b1; try clear c9; try clear c9b0; try clear c9b1; try clear c10; try clear c10b0; try clear c11; try clear c13; try clear q13; try clear c15; try clear c18; try clear c18b0; try clear c21; try clear c22; try clear c22b0; try clear p2; try clear p6; try clear q013; try clear q1; try clear q13
           obtain ⟨x7_5, x11_5, x135002_5, u135002, rfl, HA, HK5, HO_7, HO_135002, BK134, HB⟩ := hrel
           cases gk with
           | zero => exact absurd HA.out (by simp [cellarlaw8_rows.l3])
           | succ k5 =>
            have H := HA.out
            clear HA
            simp only [cellarlaw8_rows.l3] at H
            by_cases c23 : x11_5 < (l2.length : Int)
            rotate_left
            ·rw [if_neg c23] at H
             have c23b0 : decide (x11_5 < (l2.length : Int)) = false := decide_eq_false c23
             clear c23
             have H' := Aside0.mk H
             clear H
             go_wp2
             go_roundg k5
             case measure => have := HJ3.out; have := HK2.out; have := HJ16.out; have := HK4.out; have := HK5.out; omega
             case rel => exact ⟨(x7_5), (wrap64 (x10_4 + 1)), (x135002_5), (u135002), (zr), H', ⟨by have := HJ3.out; have := HK2.out; have := HJ16.out; have := HK4.out; have := HK5.out; omega⟩, ⟨by (with_reducible repeat (first | apply Kd.N_alloc | apply Kd.N_drewN | apply Kd.N_drew)); exact HO_7.out⟩, ⟨by (with_reducible repeat (first | apply Kd.V_alloc | apply Kd.V_drewN | apply Kd.V_drew)); exact HO_135002.out⟩, ⟨zb BK134.out⟩, ⟨zw1 HB.out GE134.out⟩⟩
            rw [if_pos c23] at H
            have c23b0 : decide (x11_5 < (l2.length : Int)) = true := decide_eq_true c23
            clear c23
            have HC24 := Aside0.mk H
            clear H
            go_upto_region 15 with (fail)
            go_cut [84] (fun v84 wc => ∃ (kq : Nat) (x84_23 : Bool), v84 = .bool x84_23 ∧ Aside0 (cellarlaw8_rows.j6 kq a1 l2 x7_5 x9_2 x10_4 x11_5 x84_23 l0_0 l0_1 x135002_5 = some r) ∧ Aside0 (kq ≤ k5) ∧ Aside0 (Kd.N (Kd.slice 51 k51) 24 wc w.heap.size (fun k_ => (P0_2_ k_ ∨ w.heap.size ≤ k_) ∧ k_ ≠ gb134) u7 x7_5) ∧ Aside0 (Kd.V k51 51 wc w.heap.size (fun k_ => (P0_2_ k_ ∨ w.heap.size ≤ k_) ∧ some k_ ≠ (u7 : Value).ownBlock ∧ k_ ≠ gb134) u135002 x135002_5) ∧ Aside0 (wc.heap[gb134]? = some (.cells #[(.slice A0_0 l0_0.length c0_0), (.slice A0_1 l0_1.length c0_1), u135002] 26 (0, 0))) ∧ Aside0 (Below w.heap.size w wc))
            case first =>
             have H := HC24.out
             clear HC24
             by_cases c25 : 0 ≤ x11_5
             rotate_left
             ·rw [if_neg c25] at H
              exact absurd H (by simp)
             rw [if_pos c25] at H
             have c25b0 : decide (0 ≤ x11_5) = true := decide_eq_true c25
             clear c25
             (first | rw [c25b0] | (simp only [i64_w, i32_w]; rw [c25b0]) | skip)
             replace H := Option.bind_eq_some_iff.mp H
             obtain ⟨t153, A260, H⟩ := H
             replace H : (if t153 = true then ((cellarref1_Size.f k5 ((rd_T38 l2 x11_5).f0) ((rd_T38 l2 x11_5).f1) x10_4).bind fun t155 => (if t155 = a1 then (if 0 ≤ x9_2 then (if x9_2 < (l0_1.length : Int) then ((cellarref7_Scalar.f k5 x10_4 ((rd_T33 l0_1 x9_2).f0) ((rd_T33 l0_1 x9_2).f1) ((rd_T33 l0_1 x9_2).f2) ((rd_T33 l0_1 x9_2).f3)).bind fun t157 => (cellarlaw8_rows.j6 k5 a1 l2 x7_5 x9_2 x10_4 x11_5 (!t157) l0_0 l0_1 x135002_5)) else (none)) else (none)) else (cellarlaw8_rows.j6 k5 a1 l2 x7_5 x9_2 x10_4 x11_5 true l0_0 l0_1 x135002_5))) else (cellarlaw8_rows.j6 k5 a1 l2 x7_5 x9_2 x10_4 x11_5 true l0_0 l0_1 x135002_5)) = some r := H
             have A26 := Aside0.mk A260
             clear A260
             by_cases c27 : t153 = true
             rotate_left
             ·replace c27 := Bool.eq_false_iff.mpr c27
              subst c27
              have H1 : (cellarlaw8_rows.j6 k5 a1 l2 x7_5 x9_2 x10_4 x11_5 true l0_0 l0_1 x135002_5) = some r := by rw [if_neg (show ¬ (false = true) by decide)] at H; exact H
              clear H
              have H := H1
              clear H1
              have H' := Aside0.mk H
              clear H
              have p152 : 0 ≤ (x11_5 : Int) := zdec
              have q152 : x11_5 < (l2.length : Int) := zdec
              obtain ⟨ad152, e152, hx152_0, hx152_1⟩ := at_T38 HR2.out x11_5 p152 q152
              cases e152
              replace hx152_0 := zh HB.out hx152_0
              replace hx152_1 := zh HB.out hx152_1
              replace p152 := eq_true p152
              replace q152 := eq_true q152
              go_wp2_with (first | ((with_reducible refine gate_callee (f := 18) rfl ?_); refine zgo (some 63) Try.func18 #[.agg #[.bool ((rd_T38 l2 x11_5).f0), .int .i64 ((rd_T38 l2 x11_5).f1)]] ?_; (with_reducible refine (cellarref1_Abi.calls ((rd_T38 l2 x11_5).f0) ((rd_T38 l2 x11_5).f1) false _ A26.out).mono ?_); rintro e w39 ⟨rfl, hb⟩; refine ⟨_, rfl, ?_⟩; have n0_ := Aside0.mk (Kd.N_below (by (with_reducible repeat (first | apply Kd.N_alloc | apply Kd.N_drewN | apply Kd.N_drew)); exact HO_7.out) hb); have n1_ := Aside0.mk (Kd.V_below (by (with_reducible repeat (first | apply Kd.V_alloc | apply Kd.V_drewN | apply Kd.V_drew)); exact HO_135002.out) hb); have n2_ := Aside0.mk (zbb BK134.out hb); have n3_ := Aside0.mk (below_step (zw1 HB.out GE134.out) hb); clear HO_7 HO_135002 BK134 HB; have HO_7 := n0_; have HO_135002 := n1_; have BK134 := n2_; have HB := n3_; clear n0_ n1_ n2_ n3_; (try clear hb); (try clear hb2); (try clear hk); (try clear hi)))
              go_meet
              case rel => exact ⟨_, (true), (zr), H', ⟨by have := HJ3.out; have := HK2.out; have := HJ16.out; have := HK4.out; have := HK5.out; first | omega | exact Nat.le_refl _⟩, ⟨by (with_reducible repeat (first | apply Kd.N_alloc | apply Kd.N_drewN | apply Kd.N_drew)); exact HO_7.out⟩, ⟨by (with_reducible repeat (first | apply Kd.V_alloc | apply Kd.V_drewN | apply Kd.V_drew)); exact HO_135002.out⟩, ⟨zb BK134.out⟩, ⟨zw1 HB.out GE134.out⟩⟩
             subst c27
             have H1 : ((cellarref1_Size.f k5 ((rd_T38 l2 x11_5).f0) ((rd_T38 l2 x11_5).f1) x10_4).bind fun t155 => (if t155 = a1 then (if 0 ≤ x9_2 then (if x9_2 < (l0_1.length : Int) then ((cellarref7_Scalar.f k5 x10_4 ((rd_T33 l0_1 x9_2).f0) ((rd_T33 l0_1 x9_2).f1) ((rd_T33 l0_1 x9_2).f2) ((rd_T33 l0_1 x9_2).f3)).bind fun t157 => (cellarlaw8_rows.j6 k5 a1 l2 x7_5 x9_2 x10_4 x11_5 (!t157) l0_0 l0_1 x135002_5)) else (none)) else (none)) else (cellarlaw8_rows.j6 k5 a1 l2 x7_5 x9_2 x10_4 x11_5 true l0_0 l0_1 x135002_5))) = some r := by rw [if_pos rfl] at H; exact H
             clear H
             have H := H1
             clear H1
             replace H := Option.bind_eq_some_iff.mp H
             obtain ⟨t155, A280, H⟩ := H
             replace H : (if t155 = a1 then (if 0 ≤ x9_2 then (if x9_2 < (l0_1.length : Int) then ((cellarref7_Scalar.f k5 x10_4 ((rd_T33 l0_1 x9_2).f0) ((rd_T33 l0_1 x9_2).f1) ((rd_T33 l0_1 x9_2).f2) ((rd_T33 l0_1 x9_2).f3)).bind fun t157 => (cellarlaw8_rows.j6 k5 a1 l2 x7_5 x9_2 x10_4 x11_5 (!t157) l0_0 l0_1 x135002_5)) else (none)) else (none)) else (cellarlaw8_rows.j6 k5 a1 l2 x7_5 x9_2 x10_4 x11_5 true l0_0 l0_1 x135002_5)) = some r := H
             have A28 := Aside0.mk A280
             clear A280
             by_cases c29 : t155 = a1
             rotate_left
             ·rw [if_neg c29] at H
              have c29b0 : (t155 == a1) = false := beq_eq_false_iff_ne.mpr c29
              have c29b1 : (t155 != a1) = true := bne_iff_ne.mpr c29
              have H' := Aside0.mk H
              clear H
              have p152 : 0 ≤ (x11_5 : Int) := zdec
              have q152 : x11_5 < (l2.length : Int) := zdec
              obtain ⟨ad152, e152, hx152_0, hx152_1⟩ := at_T38 HR2.out x11_5 p152 q152
              cases e152
              replace hx152_0 := zh HB.out hx152_0
              replace hx152_1 := zh HB.out hx152_1
              replace p152 := eq_true p152
              replace q152 := eq_true q152
              go_wp2_with (first | ((with_reducible refine gate_callee (f := 18) rfl ?_); refine zgo (some 63) Try.func18 #[.agg #[.bool ((rd_T38 l2 x11_5).f0), .int .i64 ((rd_T38 l2 x11_5).f1)]] ?_; (with_reducible refine (cellarref1_Abi.calls ((rd_T38 l2 x11_5).f0) ((rd_T38 l2 x11_5).f1) true _ A26.out).mono ?_); rintro e w37 ⟨rfl, hb⟩; refine ⟨_, rfl, ?_⟩; have n0_ := Aside0.mk (Kd.N_below (by (with_reducible repeat (first | apply Kd.N_alloc | apply Kd.N_drewN | apply Kd.N_drew)); exact HO_7.out) hb); have n1_ := Aside0.mk (Kd.V_below (by (with_reducible repeat (first | apply Kd.V_alloc | apply Kd.V_drewN | apply Kd.V_drew)); exact HO_135002.out) hb); have n2_ := Aside0.mk (zbb BK134.out hb); have n3_ := Aside0.mk (below_step (zw1 HB.out GE134.out) hb); clear HO_7 HO_135002 BK134 HB; have HO_7 := n0_; have HO_135002 := n1_; have BK134 := n2_; have HB := n3_; clear n0_ n1_ n2_ n3_; (try clear hb); (try clear hb2); (try clear hk); (try clear hi); have p154 : 0 ≤ (x11_5 : Int) := zdec; have q154 : x11_5 < (l2.length : Int) := zdec; obtain ⟨ad154, e154, hx154_0, hx154_1⟩ := at_T38 HR2.out x11_5 p154 q154; obtain rfl : ad152 = ad154 := (by injection e154); replace hx154_0 := zh HB.out hx154_0; replace hx154_1 := zh HB.out hx154_1; replace p154 := eq_true p154; replace q154 := eq_true q154) | (go_at_call 20; (with_reducible refine (cellarref1_Size.calls k5 ((rd_T38 l2 x11_5).f0) ((rd_T38 l2 x11_5).f1) x10_4 t155 _ A28.out).mono ?_); rintro e w38 ⟨rfl, hb⟩; have n0_ := Aside0.mk (Kd.N_below (by (with_reducible repeat (first | apply Kd.N_alloc | apply Kd.N_drewN | apply Kd.N_drew)); exact HO_7.out) hb); have n1_ := Aside0.mk (Kd.V_below (by (with_reducible repeat (first | apply Kd.V_alloc | apply Kd.V_drewN | apply Kd.V_drew)); exact HO_135002.out) hb); have n2_ := Aside0.mk (zbb BK134.out hb); have n3_ := Aside0.mk (below_step (zw1 HB.out GE134.out) hb); clear HO_7 HO_135002 BK134 HB; have HO_7 := n0_; have HO_135002 := n1_; have BK134 := n2_; have HB := n3_; clear n0_ n1_ n2_ n3_; (try clear hb); (try clear hb2); (try clear hk); (try clear hi)))
              go_meet
              case rel => exact ⟨_, (true), (zr), H', ⟨by have := HJ3.out; have := HK2.out; have := HJ16.out; have := HK4.out; have := HK5.out; first | omega | exact Nat.le_refl _⟩, ⟨by (with_reducible repeat (first | apply Kd.N_alloc | apply Kd.N_drewN | apply Kd.N_drew)); exact HO_7.out⟩, ⟨by (with_reducible repeat (first | apply Kd.V_alloc | apply Kd.V_drewN | apply Kd.V_drew)); exact HO_135002.out⟩, ⟨zb BK134.out⟩, ⟨zw1 HB.out GE134.out⟩⟩
             rw [if_pos c29] at H
             have c29b0 : (t155 == a1) = true := beq_iff_eq.mpr c29
             have c29b1 : (t155 != a1) = false := bne_eq_false_iff_eq.mpr c29
             clear c29
             by_cases c30 : 0 ≤ x9_2
             rotate_left
             ·rw [if_neg c30] at H
              exact absurd H (by simp)
             rw [if_pos c30] at H
             have c30b0 : decide (0 ≤ x9_2) = true := decide_eq_true c30
             clear c30
             by_cases c31 : x9_2 < (l0_1.length : Int)
             rotate_left
             ·rw [if_neg c31] at H
              exact absurd H (by simp)
             rw [if_pos c31] at H
             have c31b0 : decide (x9_2 < (l0_1.length : Int)) = true := decide_eq_true c31
             clear c31
             replace H := Option.bind_eq_some_iff.mp H
             obtain ⟨t157, A320, H⟩ := H
             replace H : (cellarlaw8_rows.j6 k5 a1 l2 x7_5 x9_2 x10_4 x11_5 (!t157) l0_0 l0_1 x135002_5) = some r := H
             have A32 := Aside0.mk A320
             clear A320
             have H' := Aside0.mk H
             clear H
             have p152 : 0 ≤ (x11_5 : Int) := zdec
             have q152 : x11_5 < (l2.length : Int) := zdec
             obtain ⟨ad152, e152, hx152_0, hx152_1⟩ := at_T38 HR2.out x11_5 p152 q152
             cases e152
             replace hx152_0 := zh HB.out hx152_0
             replace hx152_1 := zh HB.out hx152_1
             replace p152 := eq_true p152
             replace q152 := eq_true q152
             go_wp2_with (first | ((with_reducible refine gate_callee (f := 18) rfl ?_); refine zgo (some 63) Try.func18 #[.agg #[.bool ((rd_T38 l2 x11_5).f0), .int .i64 ((rd_T38 l2 x11_5).f1)]] ?_; (with_reducible refine (cellarref1_Abi.calls ((rd_T38 l2 x11_5).f0) ((rd_T38 l2 x11_5).f1) true _ A26.out).mono ?_); rintro e w33 ⟨rfl, hb⟩; refine ⟨_, rfl, ?_⟩; have n0_ := Aside0.mk (Kd.N_below (by (with_reducible repeat (first | apply Kd.N_alloc | apply Kd.N_drewN | apply Kd.N_drew)); exact HO_7.out) hb); have n1_ := Aside0.mk (Kd.V_below (by (with_reducible repeat (first | apply Kd.V_alloc | apply Kd.V_drewN | apply Kd.V_drew)); exact HO_135002.out) hb); have n2_ := Aside0.mk (zbb BK134.out hb); have n3_ := Aside0.mk (below_step (zw1 HB.out GE134.out) hb); clear HO_7 HO_135002 BK134 HB; have HO_7 := n0_; have HO_135002 := n1_; have BK134 := n2_; have HB := n3_; clear n0_ n1_ n2_ n3_; (try clear hb); (try clear hb2); (try clear hk); (try clear hi); have p154 : 0 ≤ (x11_5 : Int) := zdec; have q154 : x11_5 < (l2.length : Int) := zdec; obtain ⟨ad154, e154, hx154_0, hx154_1⟩ := at_T38 HR2.out x11_5 p154 q154; obtain rfl : ad152 = ad154 := (by injection e154); replace hx154_0 := zh HB.out hx154_0; replace hx154_1 := zh HB.out hx154_1; replace p154 := eq_true p154; replace q154 := eq_true q154) | (go_at_call 20; (with_reducible refine (cellarref1_Size.calls k5 ((rd_T38 l2 x11_5).f0) ((rd_T38 l2 x11_5).f1) x10_4 t155 _ A28.out).mono ?_); rintro e w34 ⟨rfl, hb⟩; have n0_ := Aside0.mk (Kd.N_below (by (with_reducible repeat (first | apply Kd.N_alloc | apply Kd.N_drewN | apply Kd.N_drew)); exact HO_7.out) hb); have n1_ := Aside0.mk (Kd.V_below (by (with_reducible repeat (first | apply Kd.V_alloc | apply Kd.V_drewN | apply Kd.V_drew)); exact HO_135002.out) hb); have n2_ := Aside0.mk (zbb BK134.out hb); have n3_ := Aside0.mk (below_step (zw1 HB.out GE134.out) hb); clear HO_7 HO_135002 BK134 HB; have HO_7 := n0_; have HO_135002 := n1_; have BK134 := n2_; have HB := n3_; clear n0_ n1_ n2_ n3_; (try clear hb); (try clear hb2); (try clear hk); (try clear hi); have hcz35_0 := zc BK134.out 0; have hcz35_1 := zc BK134.out 1; have hcz35_2 := zc BK134.out 2; have hfz35_0 := blk_frozen BK134.out 0; have hfz35_1 := blk_frozen BK134.out 1; have hfz35_2 := blk_frozen BK134.out 2; have p156 : 0 ≤ (x9_2 : Int) := zdec; have q156 : x9_2 < (l0_1.length : Int) := zdec; obtain ⟨ad156, e156, hx156_0, hx156_1, hx156_2, hx156_3⟩ := at_T33 HR0_1.out x9_2 p156 q156; cases e156; replace hx156_0 := zh HB.out hx156_0; replace hx156_1 := zh HB.out hx156_1; replace hx156_2 := zh HB.out hx156_2; replace hx156_3 := zh HB.out hx156_3; replace p156 := eq_true p156; replace q156 := eq_true q156) | (go_at_call 29; (with_reducible refine (cellarref7_Scalar.calls k5 x10_4 ((rd_T33 l0_1 x9_2).f0) ((rd_T33 l0_1 x9_2).f1) ((rd_T33 l0_1 x9_2).f2) ((rd_T33 l0_1 x9_2).f3) t157 _ A32.out).mono ?_); rintro e w36 ⟨rfl, hb⟩; have n0_ := Aside0.mk (Kd.N_below (by (with_reducible repeat (first | apply Kd.N_alloc | apply Kd.N_drewN | apply Kd.N_drew)); exact HO_7.out) hb); have n1_ := Aside0.mk (Kd.V_below (by (with_reducible repeat (first | apply Kd.V_alloc | apply Kd.V_drewN | apply Kd.V_drew)); exact HO_135002.out) hb); have n2_ := Aside0.mk (zbb BK134.out hb); have n3_ := Aside0.mk (below_step (zw1 HB.out GE134.out) hb); clear HO_7 HO_135002 BK134 HB; have HO_7 := n0_; have HO_135002 := n1_; have BK134 := n2_; have HB := n3_; clear n0_ n1_ n2_ n3_; (try clear hb); (try clear hb2); (try clear hk); (try clear hi)))
             go_meet
             case rel => exact ⟨_, (!t157), (zr), H', ⟨by have := HJ3.out; have := HK2.out; have := HJ16.out; have := HK4.out; have := HK5.out; first | omega | exact Nat.le_refl _⟩, ⟨by (with_reducible repeat (first | apply Kd.N_alloc | apply Kd.N_drewN | apply Kd.N_drew)); exact HO_7.out⟩, ⟨by (with_reducible repeat (first | apply Kd.V_alloc | apply Kd.V_drewN | apply Kd.V_drew)); exact HO_135002.out⟩, ⟨zb BK134.out⟩, ⟨zw1 HB.out GE134.out⟩⟩
            case rest =>
             clear HC24
             try clear c1; try clear p1; try clear q1; try clear c2; try clear p2; try clear c3; try clear c6; try clear c6b0; try clear p6; try clear c7; try clear c7b0; try clear c8; try clear c8b0; try clear c8b1; try clear c9; try clear c9b0; try clear c9b1; try clear c10; try clear c10b0; try clear c11; try clear c13; try clear q13; try clear c15; try clear p15; try clear q15; try clear c18; try clear c18b0; try clear c21; try clear c22; try clear c22b0; try clear c23; try clear c23b0; try clear c25; try clear c25b0; try clear c27; try clear c29; try clear c29b0; try clear c29b1; try clear c30; try clear c30b0; try clear c31; try clear c31b0; try clear p152; try clear p154; try clear p156; try clear p2; try clear p6; try clear q013; try clear q1; try clear q13; try clear q152; try clear q154; try clear q156
             obtain ⟨kq, x84_23, rfl, HA, HJ23, HO_7, HO_135002, BK134, HB⟩ := hcut
             cases kq with
             | zero => exact absurd HA.out (by simp [cellarlaw8_rows.j6])
             | succ kj23 =>
              have H := HA.out
              clear HA
              simp only [cellarlaw8_rows.j6] at H
              by_cases c40 : x84_23 = true
              ·subst c40
               have H1 : (cellarlaw8_rows.l3 kj23 a1 l2 x7_5 x9_2 x10_4 (wrap64 (x11_5 + 1)) l0_0 l0_1 x135002_5) = some r := by rw [if_pos rfl] at H; exact H
               clear H
               have H := H1
               clear H1
               have H' := Aside0.mk H
               clear H
               go_wp2
               go_roundg kj23
               case measure => have := HJ3.out; have := HK2.out; have := HJ16.out; have := HK4.out; have := HK5.out; have := HJ23.out; omega
               case rel => exact ⟨(x7_5), (wrap64 (x11_5 + 1)), (x135002_5), (u135002), (zr), H', ⟨by have := HJ3.out; have := HK2.out; have := HJ16.out; have := HK4.out; have := HK5.out; have := HJ23.out; omega⟩, ⟨by (with_reducible repeat (first | apply Kd.N_alloc | apply Kd.N_drewN | apply Kd.N_drew)); exact HO_7.out⟩, ⟨by (with_reducible repeat (first | apply Kd.V_alloc | apply Kd.V_drewN | apply Kd.V_drew)); exact HO_135002.out⟩, ⟨zb BK134.out⟩, ⟨zw1 HB.out GE134.out⟩⟩
              replace c40 := Bool.eq_false_iff.mpr c40
              subst c40
              have H1 : (if 0 ≤ x11_5 then (if x11_5 < (l2.length : Int) then (if 0 ≤ x9_2 then (if x9_2 < (l0_1.length : Int) then ((cellarref7_Put.f kj23 ((rd_T38 l2 x11_5).f0) ((rd_T38 l2 x11_5).f1) x10_4 ((rd_T33 l0_1 x9_2).f0) ((rd_T33 l0_1 x9_2).f1) ((rd_T33 l0_1 x9_2).f2) ((rd_T33 l0_1 x9_2).f3)).bind fun t160 => ((cellarref0_CopyBytes.f kj23 t160).bind fun t163 => (if (x135002_5.length : Int) > 0 then (if a1 = 0 then (none) else (if (x135002_5.length : Int) = 0 then (none) else (if 0 ≤ (Int.tmod x9_2 (x135002_5.length : Int)) then (if (Int.tmod x9_2 (x135002_5.length : Int)) < (x135002_5.length : Int) then (if 0 ≤ (Int.tmod (wrap64 (x9_2 + x11_5)) a1) then (if (Int.tmod (wrap64 (x9_2 + x11_5)) a1) < (t163.length : Int) then (cellarlaw8_rows.j7 kj23 a1 l2 x7_5 x9_2 x10_4 x11_5 t160 (t163.set ((Int.tmod (wrap64 (x9_2 + x11_5)) a1) : Int).toNat (⟨(rd_T51 x135002_5 (Int.tmod x9_2 (x135002_5.length : Int))).f0, (rd_T51 x135002_5 (Int.tmod x9_2 (x135002_5.length : Int))).f1, (rd_T51 x135002_5 (Int.tmod x9_2 (x135002_5.length : Int))).f2, (rd_T51 x135002_5 (Int.tmod x9_2 (x135002_5.length : Int))).f3, (rd_T51 x135002_5 (Int.tmod x9_2 (x135002_5.length : Int))).f4⟩ : S51)) l0_0 l0_1 x135002_5) else (none)) else (none)) else (none)) else (none)))) else (cellarlaw8_rows.j7 kj23 a1 l2 x7_5 x9_2 x10_4 x11_5 t160 t163 l0_0 l0_1 x135002_5)))) else (none)) else (none)) else (none)) else (none)) = some r := by rw [if_neg (show ¬ (false = true) by decide)] at H; exact H
              clear H
              have H := H1
              clear H1
              by_cases c41 : 0 ≤ x11_5
              rotate_left
              ·rw [if_neg c41] at H
               exact absurd H (by simp)
              rw [if_pos c41] at H
              have c41b0 : decide (0 ≤ x11_5) = true := decide_eq_true c41
              clear c41
              by_cases c42 : x11_5 < (l2.length : Int)
              rotate_left
              ·rw [if_neg c42] at H
               exact absurd H (by simp)
              rw [if_pos c42] at H
              have c42b0 : decide (x11_5 < (l2.length : Int)) = true := decide_eq_true c42
              clear c42
              by_cases c43 : 0 ≤ x9_2
              rotate_left
              ·rw [if_neg c43] at H
               exact absurd H (by simp)
              rw [if_pos c43] at H
              have c43b0 : decide (0 ≤ x9_2) = true := decide_eq_true c43
              clear c43
              by_cases c44 : x9_2 < (l0_1.length : Int)
              rotate_left
              ·rw [if_neg c44] at H
               exact absurd H (by simp)
              rw [if_pos c44] at H
              have c44b0 : decide (x9_2 < (l0_1.length : Int)) = true := decide_eq_true c44
              clear c44
              replace H := Option.bind_eq_some_iff.mp H
              obtain ⟨t160, A450, H⟩ := H
              replace H : ((cellarref0_CopyBytes.f kj23 t160).bind fun t163 => (if (x135002_5.length : Int) > 0 then (if a1 = 0 then (none) else (if (x135002_5.length : Int) = 0 then (none) else (if 0 ≤ (Int.tmod x9_2 (x135002_5.length : Int)) then (if (Int.tmod x9_2 (x135002_5.length : Int)) < (x135002_5.length : Int) then (if 0 ≤ (Int.tmod (wrap64 (x9_2 + x11_5)) a1) then (if (Int.tmod (wrap64 (x9_2 + x11_5)) a1) < (t163.length : Int) then (cellarlaw8_rows.j7 kj23 a1 l2 x7_5 x9_2 x10_4 x11_5 t160 (t163.set ((Int.tmod (wrap64 (x9_2 + x11_5)) a1) : Int).toNat (⟨(rd_T51 x135002_5 (Int.tmod x9_2 (x135002_5.length : Int))).f0, (rd_T51 x135002_5 (Int.tmod x9_2 (x135002_5.length : Int))).f1, (rd_T51 x135002_5 (Int.tmod x9_2 (x135002_5.length : Int))).f2, (rd_T51 x135002_5 (Int.tmod x9_2 (x135002_5.length : Int))).f3, (rd_T51 x135002_5 (Int.tmod x9_2 (x135002_5.length : Int))).f4⟩ : S51)) l0_0 l0_1 x135002_5) else (none)) else (none)) else (none)) else (none)))) else (cellarlaw8_rows.j7 kj23 a1 l2 x7_5 x9_2 x10_4 x11_5 t160 t163 l0_0 l0_1 x135002_5))) = some r := H
              have A45 := Aside0.mk A450
              clear A450
              replace H := Option.bind_eq_some_iff.mp H
              obtain ⟨t163, A460, H⟩ := H
              replace H : (if (x135002_5.length : Int) > 0 then (if a1 = 0 then (none) else (if (x135002_5.length : Int) = 0 then (none) else (if 0 ≤ (Int.tmod x9_2 (x135002_5.length : Int)) then (if (Int.tmod x9_2 (x135002_5.length : Int)) < (x135002_5.length : Int) then (if 0 ≤ (Int.tmod (wrap64 (x9_2 + x11_5)) a1) then (if (Int.tmod (wrap64 (x9_2 + x11_5)) a1) < (t163.length : Int) then (cellarlaw8_rows.j7 kj23 a1 l2 x7_5 x9_2 x10_4 x11_5 t160 (t163.set ((Int.tmod (wrap64 (x9_2 + x11_5)) a1) : Int).toNat (⟨(rd_T51 x135002_5 (Int.tmod x9_2 (x135002_5.length : Int))).f0, (rd_T51 x135002_5 (Int.tmod x9_2 (x135002_5.length : Int))).f1, (rd_T51 x135002_5 (Int.tmod x9_2 (x135002_5.length : Int))).f2, (rd_T51 x135002_5 (Int.tmod x9_2 (x135002_5.length : Int))).f3, (rd_T51 x135002_5 (Int.tmod x9_2 (x135002_5.length : Int))).f4⟩ : S51)) l0_0 l0_1 x135002_5) else (none)) else (none)) else (none)) else (none)))) else (cellarlaw8_rows.j7 kj23 a1 l2 x7_5 x9_2 x10_4 x11_5 t160 t163 l0_0 l0_1 x135002_5)) = some r := H
              have A46 := Aside0.mk A460
              clear A460
              have HC47 := Aside0.mk H
              clear H
              try go_wp2
              have n0_ := Aside0.mk (Kd.N_drew HO_7.out)
              have n1_ := Aside0.mk (Kd.V_drew HO_135002.out)
              have n2_ := Aside0.mk (blk_drew BK134.out)
              have n3_ := Aside0.mk (below_drew1 HB.out)
              clear HO_7
              clear HO_135002
              clear BK134
              clear HB
              have HO_7 := n0_
              have HO_135002 := n1_
              have BK134 := n2_
              have HB := n3_
              clear n0_ n1_ n2_ n3_
              have p158 : 0 ≤ (x11_5 : Int) := zdec
              have q158 : x11_5 < (l2.length : Int) := zdec
              obtain ⟨ad158, e158, hx158_0, hx158_1⟩ := at_T38 HR2.out x11_5 p158 q158
              have hw158_1 := hx158_1
              have hw158_0 := hx158_0
              cases e158
              replace hx158_0 := zh HB.out hx158_0
              replace hx158_1 := zh HB.out hx158_1
              replace p158 := eq_true p158
              replace q158 := eq_true q158
              have p159 : 0 ≤ (x9_2 : Int) := zdec
              have q159 : x9_2 < (l0_1.length : Int) := zdec
              obtain ⟨ad159, e159, hx159_0, hx159_1, hx159_2, hx159_3⟩ := at_T33 HR0_1.out x9_2 p159 q159
              have hw159_3 := hx159_3
              have hw159_2 := hx159_2
              have hw159_1 := hx159_1
              have hw159_0 := hx159_0
              cases e159
              replace hx159_0 := zh HB.out hx159_0
              replace hx159_1 := zh HB.out hx159_1
              replace hx159_2 := zh HB.out hx159_2
              replace hx159_3 := zh HB.out hx159_3
              replace p159 := eq_true p159
              replace q159 := eq_true q159
              refine start_ (n := 12) (S := fun w' => w'.cell? ⟨gb134, 0, none⟩ = some (.slice A0_0 l0_0.length c0_0) ∧ w'.cell? ⟨gb134, 1, none⟩ = some (.slice (some ad159) l0_1.length c0_1) ∧ w'.cell? ⟨gb134, 2, none⟩ = some (u135002) ∧ w'.cell? (ad158.add ((x11_5).toNat * 2)) = some (.bool ((rd_T38 l2 x11_5).f0)) ∧ w'.cell? ⟨(ad158.add ((x11_5).toNat * 2)).block, (ad158.add ((x11_5).toNat * 2)).off + 1, none⟩ = some (.int .i64 ((rd_T38 l2 x11_5).f1)) ∧ w'.cell? (ad159.add ((x9_2).toNat * 4)) = some (.bool ((rd_T33 l0_1 x9_2).f0)) ∧ w'.cell? ⟨(ad159.add ((x9_2).toNat * 4)).block, (ad159.add ((x9_2).toNat * 4)).off + 1, none⟩ = some (.int .i64 ((rd_T33 l0_1 x9_2).f1)) ∧ w'.cell? ⟨(ad159.add ((x9_2).toNat * 4)).block, (ad159.add ((x9_2).toNat * 4)).off + 2, none⟩ = some (.int .i64 ((rd_T33 l0_1 x9_2).f2)) ∧ w'.cell? ⟨(ad159.add ((x9_2).toNat * 4)).block, (ad159.add ((x9_2).toNat * 4)).off + 3, none⟩ = some (.int .i64 ((rd_T33 l0_1 x9_2).f3))) (ds := []) #[false,false,false,false,false,false,false,false,false,false,false,false] (by kernel_rfl) rfl rfl ⟨(blk_cell BK134.out 0).trans rfl, (blk_cell BK134.out 1).trans rfl, (blk_cell BK134.out 2).trans rfl, ((HB.out.cell (World.block_lt_of_cell? w _ hw158_0)).trans hw158_0), ((HB.out.cell (World.block_lt_of_cell? w _ hw158_1)).trans hw158_1), ((HB.out.cell (World.block_lt_of_cell? w _ hw159_0)).trans hw159_0), ((HB.out.cell (World.block_lt_of_cell? w _ hw159_1)).trans hw159_1), ((HB.out.cell (World.block_lt_of_cell? w _ hw159_2)).trans hw159_2), ((HB.out.cell (World.block_lt_of_cell? w _ hw159_3)).trans hw159_3)⟩ (fun hHeld => ?_); refine with_tabW cellarlaw8_rows.tab16 cellarlaw8_rows.bits16 (fun HT_ HW_ => ?_)
              generalize wc.drew = w48 at HO_7 HO_135002 BK134 HB hx158_0 hx158_1 hx159_0 hx159_1 hx159_2 hx159_3 hHeld ⊢
              refine zq 0 (some 85) HT_ ?_; refine zq 1 (some 86) HT_ ?_; refine zq 2 (some 87) HT_ ?_; refine zq 4 (some 89) HT_ ?_; refine zq 5 (some 90) HT_ ?_; refine zq 7 (some 92) HT_ ?_; refine zt 3 (some 88) HT_ HW_ hHeld ?_; refine zt 6 (some 91) HT_ HW_ hHeld ?_; refine zq 8 (some 93) HT_ ?_; refine zt 9 (some 94) HT_ HW_ hHeld ?_
              refine one_ (i := 10) (N := some 95) #[true,true,true,true,true,true,true,true,true,true,true,false] rfl rfl (one_of HT_.out (by kernel_rfl)) (by decide) (fun K hK => ?_)
              refine goes_ Try.func30 (by kernel_rfl) rfl #[.agg #[.bool ((rd_T38 l2 x11_5).f0), .int .i64 ((rd_T38 l2 x11_5).f1)], .int .i64 x10_4, .agg #[.bool ((rd_T33 l0_1 x9_2).f0), .int .i64 ((rd_T33 l0_1 x9_2).f1), .int .i64 ((rd_T33 l0_1 x9_2).f2), .int .i64 ((rd_T33 l0_1 x9_2).f3)]] (by rfl) rfl rfl (by (try simp only [List.map_toArray, List.map_cons, List.map_nil]); first | done | rfl | (simp only [List.length_drop, List.length_take]; rfl)) ?_
              with_reducible refine (cellarref7_Put.calls kj23 ((rd_T38 l2 x11_5).f0) ((rd_T38 l2 x11_5).f1) x10_4 ((rd_T33 l0_1 x9_2).f0) ((rd_T33 l0_1 x9_2).f1) ((rd_T33 l0_1 x9_2).f2) ((rd_T33 l0_1 x9_2).f3) t160 _ A45.out).mono ?_
              rintro e w49 ⟨v161, rfl, ho0, hb⟩
              refine ⟨_, rfl, ?_⟩
              have n0_ := Aside0.mk (Kd.N_elder' (by (with_reducible repeat (first | apply Kd.N_alloc | apply Kd.N_drewN | apply Kd.N_drew)); exact HO_7.out) (Kd.R_base ho0) hb)
              have n1_ := Aside0.mk (Kd.V_elder' (by (with_reducible repeat (first | apply Kd.V_alloc | apply Kd.V_drewN | apply Kd.V_drew)); exact HO_135002.out) (Kd.R_base ho0) hb)
              have n2_ := Aside0.mk (Kd.R_lower (Kd.R_newM (M := fun k_ => (w.heap.size ≤ k_)) ho0 (below_size (zw1 HB.out GE134.out)) (fun k_ h_ => h_)) (below_size (zw1 HB.out GE134.out)))
              have n3_ := Aside0.mk (zbb BK134.out hb)
              have n4_ := Aside0.mk (below_step (zw1 HB.out GE134.out) hb)
              clear HO_7
              clear HO_135002
              clear BK134
              clear HB
              have HO_7 := n0_
              have HO_135002 := n1_
              have HO162 := n2_
              have BK134 := n3_
              have HB := n4_
              clear n0_ n1_ n2_ n3_ n4_
              (try clear hb)
              (try clear hb2)
              (try clear hk)
              (try clear hi)
              (try clear ho0)
              refine hK.out _ _ ⟨(blk_cell BK134.out 0).trans rfl, (blk_cell BK134.out 1).trans rfl, (blk_cell BK134.out 2).trans rfl, ((HB.out.cell (World.block_lt_of_cell? w _ hw158_0)).trans hw158_0), ((HB.out.cell (World.block_lt_of_cell? w _ hw158_1)).trans hw158_1), ((HB.out.cell (World.block_lt_of_cell? w _ hw159_0)).trans hw159_0), ((HB.out.cell (World.block_lt_of_cell? w _ hw159_1)).trans hw159_1), ((HB.out.cell (World.block_lt_of_cell? w _ hw159_2)).trans hw159_2), ((HB.out.cell (World.block_lt_of_cell? w _ hw159_3)).trans hw159_3)⟩ (fun hHeld => ?_)
              clear hK K
              refine norm_ (a' := ?_) ?_ ?_
              rotate_left
              ·show Act.put _ (some 95) _ = _
               simp only [Act.put, List.setIfInBounds_toArray, List.set_cons_zero, List.set_cons_succ, i64_w, i32_w]
               rfl
              refine zq 11 (some 12) HT_ ?_
              refine done_ (done_of HT_.out (by kernel_rfl)) ?_
              obtain ⟨Ao50, co50, eo50⟩ := Kd.R_slice HO162.out
              subst eo50
              go_upto_if 101 with (first | ((with_reducible refine gate_callee (f := 16) rfl ?_); refine zgo (some 97) Try.func16 #[.slice Ao50 t160.length co50] ?_; (with_reducible refine (cellarref0_CopyBytes.calls kj23 _ _ t160 t163 _ ?side1 ?side2 A46.out).mono ?_); (case side1 => repeat (first | exact (Kd.R_reads' HO162.out).2.2 | (with_reducible refine Kd.C_alloc ?_ _) | (with_reducible refine Kd.C_drewN ?_ _) | (with_reducible refine Kd.C_drew ?_))); (case side2 => exact (Kd.R_reads' HO162.out).2.1); rintro e w51 ⟨v164, rfl, ho0, hb⟩; refine ⟨_, rfl, ?_⟩; have n0_ := Aside0.mk (Kd.N_elder' (by (with_reducible repeat (first | apply Kd.N_alloc | apply Kd.N_drewN | apply Kd.N_drew)); exact HO_7.out) (Kd.R_base ho0) hb); have n1_ := Aside0.mk (Kd.V_elder' (by (with_reducible repeat (first | apply Kd.V_alloc | apply Kd.V_drewN | apply Kd.V_drew)); exact HO_135002.out) (Kd.R_base ho0) hb); have n2_ := Aside0.mk (Kd.R_elder' (by (with_reducible repeat (first | apply Kd.R_alloc | apply Kd.R_drewN | apply Kd.R_drew)); exact HO162.out) (Kd.R_base ho0) hb); have HO165 := Aside0.mk (Kd.R_lower (Kd.R_new' (Kd.R_newM (M := fun k_ => (w.heap.size ≤ k_)) ho0 (below_size (zw1 HB.out GE134.out)) (fun k_ h_ => h_)) (Kd.R_lt (by (with_reducible repeat (first | apply Kd.R_alloc | apply Kd.R_drewN | apply Kd.R_drew)); exact HO162.out))) (below_size (zw1 HB.out GE134.out))); have n4_ := Aside0.mk (zbb BK134.out hb); have n5_ := Aside0.mk (below_step (zw1 HB.out GE134.out) hb); clear HO_7 HO_135002 HO162 BK134 HB; have HO_7 := n0_; have HO_135002 := n1_; have HO162 := n2_; have BK134 := n4_; have HB := n5_; clear n0_ n1_ n2_ n4_ n5_; (try clear hb); (try clear hb2); (try clear hk); (try clear hi); (try clear ho0); have hcz52_0 := zc BK134.out 0; have hcz52_1 := zc BK134.out 1; have hcz52_2 := zc BK134.out 2; have hfz52_0 := blk_frozen BK134.out 0; have hfz52_1 := blk_frozen BK134.out 1; have hfz52_2 := blk_frozen BK134.out 2; obtain ⟨Ao53, co53, eo53⟩ := Kd.V_slice HO_135002.out; subst eo53))
              (try simp only [Act.put, List.setIfInBounds_toArray, List.set_cons_zero, List.set_cons_succ])
              go_cut [] (fun wc => ∃ (kq : Nat) (x13_46 : List (S51)), Aside0 (cellarlaw8_rows.j7 kq a1 l2 x7_5 x9_2 x10_4 x11_5 t160 x13_46 l0_0 l0_1 x135002_5 = some r) ∧ Aside0 (kq ≤ kj23) ∧ Aside0 (Kd.N (Kd.slice 51 k51) 24 wc w.heap.size (fun k_ => (P0_2_ k_ ∨ w.heap.size ≤ k_) ∧ some k_ ≠ ((.slice Ao50 t160.length co50) : Value).ownBlock ∧ some k_ ≠ (v164 : Value).ownBlock ∧ k_ ≠ gb134) u7 x7_5) ∧ Aside0 (Kd.R k51 51 wc w.heap.size (fun k_ => (w.heap.size ≤ k_) ∧ some k_ ≠ (v164 : Value).ownBlock) (.slice Ao50 t160.length co50) t160) ∧ Aside0 (Kd.R k51 51 wc w.heap.size (fun k_ => (w.heap.size ≤ k_) ∧ some k_ ≠ ((.slice Ao50 t160.length co50) : Value).ownBlock) v164 x13_46) ∧ Aside0 (Kd.V k51 51 wc w.heap.size (fun k_ => (P0_2_ k_ ∨ w.heap.size ≤ k_) ∧ some k_ ≠ (u7 : Value).ownBlock ∧ some k_ ≠ ((.slice Ao50 t160.length co50) : Value).ownBlock ∧ some k_ ≠ (v164 : Value).ownBlock ∧ k_ ≠ gb134) (.slice Ao53 x135002_5.length co53) x135002_5) ∧ Aside0 (wc.heap[gb134]? = some (.cells #[(.slice A0_0 l0_0.length c0_0), (.slice (some ad159) l0_1.length c0_1), (.slice Ao53 x135002_5.length co53)] 26 (0, 0))) ∧ Aside0 (Below w.heap.size w wc))
              case first =>
               have H := HC47.out
               clear HC47
               by_cases c54 : (x135002_5.length : Int) > 0
               rotate_left
               ·rw [if_neg c54] at H
                have c54b0 : decide (0 < (x135002_5.length : Int)) = false := decide_eq_false c54
                have c54b1 : decide (0 < x135002_5.length) = false := decide_eq_false (by omega)
                clear c54
                (first | rw [c54b0] | rw [c54b1] | (simp only [i64_w, i32_w]; rw [c54b0]) | skip)
                have H' := Aside0.mk H
                clear H
                go_wp2
                go_meet
                case rel => exact ⟨_, (t163), H', ⟨by have := HJ3.out; have := HK2.out; have := HJ16.out; have := HK4.out; have := HK5.out; have := HJ23.out; first | omega | exact Nat.le_refl _⟩, ⟨by (with_reducible repeat (first | apply Kd.N_alloc | apply Kd.N_drewN | apply Kd.N_drew)); exact Kd.N_mono HO_7.out (fun _ hk => ⟨hk.1.1.1, ⟨hk.1.2, ⟨hk.2, hk.1.1.2⟩⟩⟩)⟩, ⟨by (with_reducible repeat (first | apply Kd.R_alloc | apply Kd.R_drewN | apply Kd.R_drew)); exact Kd.R_mono HO162.out (fun _ hk => ⟨hk.1.1, hk.2⟩)⟩, ⟨by (with_reducible repeat (first | apply Kd.R_alloc | apply Kd.R_drewN | apply Kd.R_drew)); exact Kd.R_mono HO165.out (fun _ hk => ⟨hk.1.1, hk.2⟩)⟩, ⟨by (with_reducible repeat (first | apply Kd.V_alloc | apply Kd.V_drewN | apply Kd.V_drew)); exact Kd.V_mono HO_135002.out (fun _ hk => ⟨hk.1.1.1, ⟨hk.1.1.2.1, ⟨hk.1.2, ⟨hk.2, hk.1.1.2.2⟩⟩⟩⟩)⟩, ⟨zb BK134.out⟩, ⟨zw1 HB.out GE134.out⟩⟩
               rw [if_pos c54] at H
               have c54b0 : decide (0 < (x135002_5.length : Int)) = true := decide_eq_true c54
               have c54b1 : decide (0 < x135002_5.length) = true := decide_eq_true (by omega)
               clear c54
               (first | rw [c54b0] | rw [c54b1] | (simp only [i64_w, i32_w]; rw [c54b0]) | skip)
               by_cases c55 : a1 = 0
               ·rw [if_pos c55] at H
                exact absurd H (by simp)
               rw [if_neg c55] at H
               have c55b0 : (a1 == 0) = false := beq_eq_false_iff_ne.mpr c55
               have c55b1 : (a1 != 0) = true := bne_iff_ne.mpr c55
               by_cases c56 : (x135002_5.length : Int) = 0
               ·rw [if_pos c56] at H
                exact absurd H (by simp)
               rw [if_neg c56] at H
               have c56b0 : ((x135002_5.length : Int) == 0) = false := beq_eq_false_iff_ne.mpr c56
               have c56b1 : ((x135002_5.length : Int) != 0) = true := bne_iff_ne.mpr c56
               have c56b2 : ¬ (x135002_5 = []) := fun h_ => c56 (by rw [h_]; rfl)
               obtain ⟨ji57, hji57⟩ : ∃ j_ : Int, (Int.tmod x9_2 (x135002_5.length : Int)) = j_ := ⟨_, rfl⟩
               replace H : (if 0 ≤ (ji57) then (if (ji57) < (x135002_5.length : Int) then (if 0 ≤ (Int.tmod (wrap64 (x9_2 + x11_5)) a1) then (if (Int.tmod (wrap64 (x9_2 + x11_5)) a1) < (t163.length : Int) then (cellarlaw8_rows.j7 kj23 a1 l2 x7_5 x9_2 x10_4 x11_5 t160 (t163.set ((Int.tmod (wrap64 (x9_2 + x11_5)) a1) : Int).toNat (⟨(rd_T51 x135002_5 (ji57)).f0, (rd_T51 x135002_5 (ji57)).f1, (rd_T51 x135002_5 (ji57)).f2, (rd_T51 x135002_5 (ji57)).f3, (rd_T51 x135002_5 (ji57)).f4⟩ : S51)) l0_0 l0_1 x135002_5) else (none)) else (none)) else (none)) else (none)) = some r := by first | (rw [hji57] at H; exact H) | (simp only [hji57] at H ⊢; exact H)
               by_cases c58 : 0 ≤ (ji57)
               rotate_left
               ·rw [if_neg c58] at H
                exact absurd H (by simp)
               rw [if_pos c58] at H
               have c58b0 : decide (0 ≤ (ji57)) = true := decide_eq_true c58
               clear c58
               by_cases c59 : (ji57) < (x135002_5.length : Int)
               rotate_left
               ·rw [if_neg c59] at H
                exact absurd H (by simp)
               rw [if_pos c59] at H
               have c59b0 : decide ((ji57) < (x135002_5.length : Int)) = true := decide_eq_true c59
               clear c59
               obtain ⟨ji60, hji60⟩ : ∃ j_ : Int, (Int.tmod (wrap64 (x9_2 + x11_5)) a1) = j_ := ⟨_, rfl⟩
               replace H : (if 0 ≤ (ji60) then (if (ji60) < (t163.length : Int) then (cellarlaw8_rows.j7 kj23 a1 l2 x7_5 x9_2 x10_4 x11_5 t160 (t163.set ((ji60) : Int).toNat (⟨(rd_T51 x135002_5 (ji57)).f0, (rd_T51 x135002_5 (ji57)).f1, (rd_T51 x135002_5 (ji57)).f2, (rd_T51 x135002_5 (ji57)).f3, (rd_T51 x135002_5 (ji57)).f4⟩ : S51)) l0_0 l0_1 x135002_5) else (none)) else (none)) = some r := by first | (rw [hji60] at H; exact H) | (simp only [hji60] at H ⊢; exact H)
               by_cases c61 : 0 ≤ (ji60)
               rotate_left
               ·rw [if_neg c61] at H
                exact absurd H (by simp)
               rw [if_pos c61] at H
               have c61b0 : decide (0 ≤ (ji60)) = true := decide_eq_true c61
               clear c61
               by_cases c62 : (ji60) < (t163.length : Int)
               rotate_left
               ·rw [if_neg c62] at H
                exact absurd H (by simp)
               rw [if_pos c62] at H
               have c62b0 : decide ((ji60) < (t163.length : Int)) = true := decide_eq_true c62
               clear c62
               obtain ⟨y167, hy167⟩ : ∃ y_ : List (S51), y_ = (t163.set ((ji60) : Int).toNat (⟨(rd_T51 x135002_5 (ji57)).f0, (rd_T51 x135002_5 (ji57)).f1, (rd_T51 x135002_5 (ji57)).f2, (rd_T51 x135002_5 (ji57)).f3, (rd_T51 x135002_5 (ji57)).f4⟩ : S51)) := ⟨_, rfl⟩
               replace H : (cellarlaw8_rows.j7 kj23 a1 l2 x7_5 x9_2 x10_4 x11_5 t160 y167 l0_0 l0_1 x135002_5) = some r := by first | (rw [hy167]; with_reducible exact H) | (have H2_ := (Option.bind_some _ _).symm.trans H; rw [hy167]; with_reducible exact H2_) | (have H2_ := (Option.bind_some _ _).symm.trans H; with_reducible exact H2_) | with_reducible exact H | (rw [hy167]; exact H) | exact H
               have Ny167 := Aside0.mk hy167
               clear hy167
               have H' := Aside0.mk H
               clear H
               try go_wp2
               have n0_ := Aside0.mk (Kd.N_drew HO_7.out)
               have n1_ := Aside0.mk (Kd.V_drew HO_135002.out)
               have n2_ := Aside0.mk (Kd.R_drew HO162.out)
               have n3_ := Aside0.mk (Kd.R_drew HO165.out)
               have n4_ := Aside0.mk (blk_drew BK134.out)
               have n5_ := Aside0.mk (below_drew1 HB.out)
               clear HO_7
               clear HO_135002
               clear HO162
               clear HO165
               clear BK134
               clear HB
               have HO_7 := n0_
               have HO_135002 := n1_
               have HO162 := n2_
               have HO165 := n3_
               have BK134 := n4_
               have HB := n5_
               clear n0_ n1_ n2_ n3_ n4_ n5_
               have p166 : 0 ≤ ((ji57) : Int) := zdec
               have q166 : (ji57) < (x135002_5.length : Int) := zdec
               obtain ⟨ad166, e166, hx166_0, hx166_1, hx166_2, hx166_3, hx166_4⟩ := at_T51 (Kd.V_reads' HO_135002.out).2.2 (ji57) p166 q166
               cases e166
               replace p166 := eq_true p166
               replace q166 := eq_true q166
               have p63 : 0 ≤ ((ji60) : Int) := zdec
               have q63 : ((ji60) : Int) < ((t163.length : Int) : Int) := zdec
               obtain ⟨go63, co63, eo63, gb63, gl63, cl63, HG63⟩ := Kd.R_form HO165.out (by omega)
               (first | cases eo63 | (injection eo63 with ea_ en_ ec_; (first | subst ea_ | (injection ea_ with ea_; subst ea_)); subst ec_; clear en_))
               have GB63 := Aside0.mk gb63
               have GG63 := Aside0.mk HG63
               clear gb63 gl63 HG63
               obtain ⟨ce63, hcl63, hM63, hcc63, hfr63⟩ := Kd.R_elem HO165.out z51 ((ji60) : Int) p63 q63
               obtain rfl := k51_openM hM63
               have hx63_0 : World.cell? _ ⟨go63, ((ji60) : Int).toNat * 5, none⟩ = some (.int .i64 ((rd_T51 t163 (ji60)).f0)) := hcc63 0 _ rfl
               have hx63_1 : World.cell? _ ⟨go63, ((ji60) : Int).toNat * 5 + 1, none⟩ = some (.int .i64 ((rd_T51 t163 (ji60)).f1)) := hcc63 1 _ rfl
               have hx63_2 : World.cell? _ ⟨go63, ((ji60) : Int).toNat * 5 + 2, none⟩ = some (.int .i64 ((rd_T51 t163 (ji60)).f2)) := hcc63 2 _ rfl
               have hx63_3 : World.cell? _ ⟨go63, ((ji60) : Int).toNat * 5 + 3, none⟩ = some (.int .i64 ((rd_T51 t163 (ji60)).f3)) := hcc63 3 _ rfl
               have hx63_4 : World.cell? _ ⟨go63, ((ji60) : Int).toNat * 5 + 4, none⟩ = some (.int .i64 ((rd_T51 t163 (ji60)).f4)) := hcc63 4 _ rfl
               have hf63_0 : World.frozen? _ ⟨go63, ((ji60) : Int).toNat * 5, none⟩ = false := hfr63 0
               have hf63_1 : World.frozen? _ ⟨go63, ((ji60) : Int).toNat * 5 + 1, none⟩ = false := hfr63 1
               have hf63_2 : World.frozen? _ ⟨go63, ((ji60) : Int).toNat * 5 + 2, none⟩ = false := hfr63 2
               have hf63_3 : World.frozen? _ ⟨go63, ((ji60) : Int).toNat * 5 + 3, none⟩ = false := hfr63 3
               have hf63_4 : World.frozen? _ ⟨go63, ((ji60) : Int).toNat * 5 + 4, none⟩ = false := hfr63 4
               clear hcl63 hcc63 hfr63 hM63
               replace p63 := eq_true p63
               replace q63 := eq_true q63
               obtain ⟨ce65, hcl65, hM65, hcc65, hfr65⟩ := Kd.R_elem HO165.out z51 ((ji60) : Int) (zdec) (by have h_ : ((ji60) : Int) < ((t163.length : Int) : Int) := zdec; first | exact h_ | (have e_ := (Kd.R_reads' HO165.out).1; omega) | simpa using h_)
               obtain rfl := k51_openM hM65
               have HP65 := (Kd.R_seg HO165.out ((ji60) : Int) (zdec) (by have h_ : ((ji60) : Int) < ((t163.length : Int) : Int) := zdec; first | exact h_ | (have e_ := (Kd.R_reads' HO165.out).1; omega) | simpa using h_) (seg := [.int .i64 ((rd_T51 x135002_5 (ji57)).f0), .int .i64 ((rd_T51 x135002_5 (ji57)).f1), .int .i64 ((rd_T51 x135002_5 (ji57)).f2), .int .i64 ((rd_T51 x135002_5 (ji57)).f3), .int .i64 ((rd_T51 x135002_5 (ji57)).f4)]) (j := 0) hcl65 hcc65 (show 5 ≤ 5 from by decide) (x' := (⟨(rd_T51 x135002_5 (ji57)).f0, (rd_T51 x135002_5 (ji57)).f1, (rd_T51 x135002_5 (ji57)).f2, (rd_T51 x135002_5 (ji57)).f3, (rd_T51 x135002_5 (ji57)).f4⟩ : S51)) (k51_mkM _ _ _ (⟨(rd_T51 x135002_5 (ji57)).f0, (rd_T51 x135002_5 (ji57)).f1, (rd_T51 x135002_5 (ji57)).f2, (rd_T51 x135002_5 (ji57)).f3, (rd_T51 x135002_5 (ji57)).f4⟩ : S51) ) (fun _ hk => hk)).1
               rw [← Ny167.out] at HP65
               have HQ65 := Aside0.mk HP65
               clear hcl65 hcc65 hfr65 hM65 HP65
               refine start_ (n := 17) (S := fun w' => w'.cell? ⟨gb134, 0, none⟩ = some (.slice A0_0 l0_0.length c0_0) ∧ w'.cell? ⟨gb134, 1, none⟩ = some (.slice (some ad159) l0_1.length c0_1) ∧ w'.cell? ⟨gb134, 2, none⟩ = some (.slice (some ad166) x135002_5.length co53) ∧ w'.cell? (ad166.add (((ji57)).toNat * 5)) = some (.int .i64 ((rd_T51 x135002_5 (ji57)).f0)) ∧ w'.cell? ⟨(ad166.add (((ji57)).toNat * 5)).block, (ad166.add (((ji57)).toNat * 5)).off + 1, none⟩ = some (.int .i64 ((rd_T51 x135002_5 (ji57)).f1)) ∧ w'.cell? ⟨(ad166.add (((ji57)).toNat * 5)).block, (ad166.add (((ji57)).toNat * 5)).off + 2, none⟩ = some (.int .i64 ((rd_T51 x135002_5 (ji57)).f2)) ∧ w'.cell? ⟨(ad166.add (((ji57)).toNat * 5)).block, (ad166.add (((ji57)).toNat * 5)).off + 3, none⟩ = some (.int .i64 ((rd_T51 x135002_5 (ji57)).f3)) ∧ w'.cell? ⟨(ad166.add (((ji57)).toNat * 5)).block, (ad166.add (((ji57)).toNat * 5)).off + 4, none⟩ = some (.int .i64 ((rd_T51 x135002_5 (ji57)).f4))) (ds := [16]) #[false,false,false,false,false,false,false,false,false,false,false,false,false,false,false,false,false] (by kernel_rfl) rfl rfl ⟨(blk_cell BK134.out 0).trans rfl, (blk_cell BK134.out 1).trans rfl, (blk_cell BK134.out 2).trans rfl, hx166_0, hx166_1, hx166_2, hx166_3, hx166_4⟩ (fun hHeld => ?_); refine with_tabW cellarlaw8_rows.tab19 cellarlaw8_rows.bits19 (fun HT_ HW_ => ?_)
               generalize w51.drew = w64 at HO_7 HO_135002 HO162 HO165 BK134 HB GG63 HQ65 hf63_0 hf63_1 hf63_2 hf63_3 hf63_4 hx166_0 hx166_1 hx166_2 hx166_3 hx166_4 hx63_0 hx63_1 hx63_2 hx63_3 hx63_4 hHeld ⊢
               refine zq 0 (some 102) HT_ ?_; refine zq 1 (some 103) HT_ ?_; refine zq 2 (some 104) HT_ ?_; refine zq 3 (some 105) HT_ ?_; refine zq 4 (some 106) HT_ ?_; refine zq 5 (some 107) HT_ ?_; refine zq 6 (some 108) HT_ ?_; refine zq 8 (some 110) HT_ ?_; refine zq 9 (some 111) HT_ ?_; refine zt 7 (some 109) HT_ HW_ hHeld ?_; refine zt 10 (some 112) HT_ HW_ hHeld ?_; refine zq 11 (some 113) HT_ ?_; refine zq 12 (some 114) HT_ ?_; refine zq 13 (some 115) HT_ ?_; refine zt 14 (some 116) HT_ HW_ hHeld ?_; refine zq 15 (some 117) HT_ ?_
               refine last_ (i := 16) (N := none) #[true,true,true,true,true,true,true,true,true,true,true,true,true,true,true,true,true] rfl rfl (one_of HT_.out (by kernel_rfl)) (by decide) (fun K hK => ?_)
               refine skip_ (w1 := ?_) (by rfl) rfl ?_ ?_
               rotate_left
               ·go_simp
                rfl
               refine hK.out _ _ ?_
               clear hK K
               refine done_ (done_of HT_.out (by kernel_rfl)) ?_
               try go_wp2
               go_meet
               case rel => exact ⟨_, (y167), H', ⟨by have := HJ3.out; have := HK2.out; have := HJ16.out; have := HK4.out; have := HK5.out; have := HJ23.out; first | omega | exact Nat.le_refl _⟩, ⟨by (with_reducible repeat (first | apply Kd.N_alloc | apply Kd.N_drewN | apply Kd.N_drew)); exact Kd.N_mono (Kd.N_far (p := ⟨go63, ((ji60) : Int).toNat * 5 + 4, none⟩) (Kd.N_far (p := ⟨go63, ((ji60) : Int).toNat * 5 + 3, none⟩) (Kd.N_far (p := ⟨go63, ((ji60) : Int).toNat * 5 + 2, none⟩) (Kd.N_far (p := ⟨go63, ((ji60) : Int).toNat * 5 + 1, none⟩) (Kd.N_far (p := ⟨go63, ((ji60) : Int).toNat * 5, none⟩) (Kd.N_mono HO_7.out (fun k_ hk => (⟨hk, fun e_ => hk.2 (by rw [e_]; rfl)⟩ : _ ∧ k_ ≠ go63))) (fun _ hk => hk.2) (.int .i64 ((rd_T51 x135002_5 (ji57)).f0))) (fun _ hk => hk.2) (.int .i64 ((rd_T51 x135002_5 (ji57)).f1))) (fun _ hk => hk.2) (.int .i64 ((rd_T51 x135002_5 (ji57)).f2))) (fun _ hk => hk.2) (.int .i64 ((rd_T51 x135002_5 (ji57)).f3))) (fun _ hk => hk.2) (.int .i64 ((rd_T51 x135002_5 (ji57)).f4))) (fun _ hk => ⟨hk.1.1.1.1, ⟨hk.1.1.2, ⟨hk.1.2, hk.1.1.1.2⟩⟩⟩)⟩, ⟨by (with_reducible repeat (first | apply Kd.R_alloc | apply Kd.R_drewN | apply Kd.R_drew)); exact Kd.R_mono (Kd.R_far (p := ⟨go63, ((ji60) : Int).toNat * 5 + 4, none⟩) (Kd.R_far (p := ⟨go63, ((ji60) : Int).toNat * 5 + 3, none⟩) (Kd.R_far (p := ⟨go63, ((ji60) : Int).toNat * 5 + 2, none⟩) (Kd.R_far (p := ⟨go63, ((ji60) : Int).toNat * 5 + 1, none⟩) (Kd.R_far (p := ⟨go63, ((ji60) : Int).toNat * 5, none⟩) (Kd.R_mono HO162.out (fun k_ hk => (⟨hk, fun e_ => hk.2 (by rw [e_]; rfl)⟩ : _ ∧ k_ ≠ go63))) (fun _ hk => hk.2) (.int .i64 ((rd_T51 x135002_5 (ji57)).f0))) (fun _ hk => hk.2) (.int .i64 ((rd_T51 x135002_5 (ji57)).f1))) (fun _ hk => hk.2) (.int .i64 ((rd_T51 x135002_5 (ji57)).f2))) (fun _ hk => hk.2) (.int .i64 ((rd_T51 x135002_5 (ji57)).f3))) (fun _ hk => hk.2) (.int .i64 ((rd_T51 x135002_5 (ji57)).f4))) (fun _ hk => ⟨hk.1.1.1, hk.1.2⟩)⟩, ⟨by (with_reducible repeat (first | apply Kd.R_alloc | apply Kd.R_drewN | apply Kd.R_drew)); exact Kd.R_mono HQ65.out (fun _ hk => ⟨hk.1.1, hk.2⟩)⟩, ⟨by (with_reducible repeat (first | apply Kd.V_alloc | apply Kd.V_drewN | apply Kd.V_drew)); exact Kd.V_mono (Kd.V_far (p := ⟨go63, ((ji60) : Int).toNat * 5 + 4, none⟩) (Kd.V_far (p := ⟨go63, ((ji60) : Int).toNat * 5 + 3, none⟩) (Kd.V_far (p := ⟨go63, ((ji60) : Int).toNat * 5 + 2, none⟩) (Kd.V_far (p := ⟨go63, ((ji60) : Int).toNat * 5 + 1, none⟩) (Kd.V_far (p := ⟨go63, ((ji60) : Int).toNat * 5, none⟩) (Kd.V_mono HO_135002.out (fun k_ hk => (⟨hk, fun e_ => hk.2 (by rw [e_]; rfl)⟩ : _ ∧ k_ ≠ go63))) (fun _ hk => hk.2) (.int .i64 ((rd_T51 x135002_5 (ji57)).f0))) (fun _ hk => hk.2) (.int .i64 ((rd_T51 x135002_5 (ji57)).f1))) (fun _ hk => hk.2) (.int .i64 ((rd_T51 x135002_5 (ji57)).f2))) (fun _ hk => hk.2) (.int .i64 ((rd_T51 x135002_5 (ji57)).f3))) (fun _ hk => hk.2) (.int .i64 ((rd_T51 x135002_5 (ji57)).f4))) (fun _ hk => ⟨hk.1.1.1.1, ⟨hk.1.1.1.2.1, ⟨hk.1.1.2, ⟨hk.1.2, hk.1.1.1.2.2⟩⟩⟩⟩)⟩, ⟨by (with_reducible repeat (first | refine blk_drewN ?_ _ | refine blk_drew ?_ | refine blk_alloc ?_ _)); refine blk_far ?_ (by have h_ := Kd.R_ne HO165.out BK134.out (by decide); intro e_; exact h_ (by rw [e_]; rfl)) _; (with_reducible repeat (first | refine blk_drewN ?_ _ | refine blk_drew ?_ | refine blk_alloc ?_ _)); refine blk_far ?_ (by have h_ := Kd.R_ne HO165.out BK134.out (by decide); intro e_; exact h_ (by rw [e_]; rfl)) _; (with_reducible repeat (first | refine blk_drewN ?_ _ | refine blk_drew ?_ | refine blk_alloc ?_ _)); refine blk_far ?_ (by have h_ := Kd.R_ne HO165.out BK134.out (by decide); intro e_; exact h_ (by rw [e_]; rfl)) _; (with_reducible repeat (first | refine blk_drewN ?_ _ | refine blk_drew ?_ | refine blk_alloc ?_ _)); refine blk_far ?_ (by have h_ := Kd.R_ne HO165.out BK134.out (by decide); intro e_; exact h_ (by rw [e_]; rfl)) _; (with_reducible repeat (first | refine blk_drewN ?_ _ | refine blk_drew ?_ | refine blk_alloc ?_ _)); refine blk_far ?_ (by have h_ := Kd.R_ne HO165.out BK134.out (by decide); intro e_; exact h_ (by rw [e_]; rfl)) _; (with_reducible repeat (first | refine blk_drewN ?_ _ | refine blk_drew ?_ | refine blk_alloc ?_ _)); exact BK134.out⟩, ⟨by repeat (first | (with_reducible first | exact HB.out | apply below_alloc | apply pw_below_drewN | apply below_drew1 | refine below_set ?_ GB63.out | refine below_set ?_ GB63.out | refine below_set ?_ GB63.out | refine below_set ?_ GB63.out | refine below_set ?_ GB63.out | refine below_set ?_ GE134.out) | exact HB.out)⟩⟩
              case rest =>
               clear HC47
               try clear c1; try clear p1; try clear q1; try clear c2; try clear p2; try clear c3; try clear c4; try clear c5; try clear c6; try clear c6b0; try clear p6; try clear q6; try clear c7; try clear c7b0; try clear c8; try clear c8b0; try clear c8b1; try clear c9; try clear c9b0; try clear c9b1; try clear c10; try clear c10b0; try clear c11; try clear c13; try clear q13; try clear c15; try clear p15; try clear q15; try clear c16; try clear p16; try clear q16; try clear c18; try clear c18b0; try clear c21; try clear c22; try clear c22b0; try clear c23; try clear c23b0; try clear c25; try clear c25b0; try clear c27; try clear c29; try clear c29b0; try clear c29b1; try clear c30; try clear c30b0; try clear c31; try clear c31b0; try clear c40; try clear c41; try clear c41b0; try clear c42; try clear c42b0; try clear c43; try clear c43b0; try clear c44; try clear c44b0; try clear c54; try clear c54b0; try clear c54b1; try clear c55; try clear c55b0; try clear c55b1; try clear c56; try clear c56b0; try clear c56b1; try clear c56b2; try clear c58; try clear c58b0; try clear c59; try clear c59b0; try clear c61; try clear c61b0; try clear c62; try clear c62b0; try clear c63; try clear p63; try clear q63; try clear p64; try clear c65; try clear p1; try clear p15; try clear p152; try clear p154; try clear p156; try clear p158; try clear p159; try clear p166; try clear p2; try clear p6; try clear p63; try clear q013; try clear q1; try clear q13; try clear q15; try clear q152; try clear q154; try clear q156; try clear q158; try clear q159; try clear q166; try clear q63
               obtain ⟨kq, x13_46, HA, HJ46, HO_7, HO_12, HO_13, HO_135002, BK134, HB⟩ := hcut
               cases kq with
               | zero => exact absurd HA.out (by simp [cellarlaw8_rows.j7])
               | succ kj46 =>
                have H := HA.out
                clear HA
                simp only [cellarlaw8_rows.j7] at H
                replace H := Option.bind_eq_some_iff.mp H
                obtain ⟨t168, A660, H⟩ := H
                replace H : (if 0 ≤ (wrap64 (a1 - 1)) then (if (wrap64 (a1 - 1)) < (t168.length : Int) then (if 0 < (t168.length : Int) then ((some (([t160, x13_46, ((t168.set (0 : Int).toNat (⟨(rd_T51 t168 (wrap64 (a1 - 1))).f0, (rd_T51 t168 (wrap64 (a1 - 1))).f1, (rd_T51 t168 (wrap64 (a1 - 1))).f2, (rd_T51 t168 (wrap64 (a1 - 1))).f3, (rd_T51 t168 (wrap64 (a1 - 1))).f4⟩ : S51)).set ((wrap64 (a1 - 1)) : Int).toNat (⟨(rd_T51 t168 0).f0, (rd_T51 t168 0).f1, (rd_T51 t168 0).f2, (rd_T51 t168 0).f3, (rd_T51 t168 0).f4⟩ : S51))] : List (List (S51))) : List (List (S51)))).bind fun y175 => (if x7_5.length + y175.length < 5864062014805 then (cellarlaw8_rows.l3 kj46 a1 l2 (x7_5 ++ y175) x9_2 x10_4 (wrap64 (x11_5 + 1)) l0_0 l0_1 x135002_5) else (none))) else (none)) else (none)) else (none)) = some r := H
                have A66 := Aside0.mk A660
                clear A660
                obtain ⟨ji67, hji67⟩ : ∃ j_ : Int, (wrap64 (a1 - 1)) = j_ := ⟨_, rfl⟩
                replace H : (if 0 ≤ (ji67) then (if (ji67) < (t168.length : Int) then (if 0 < (t168.length : Int) then ((some (([t160, x13_46, ((t168.set (0 : Int).toNat (⟨(rd_T51 t168 (ji67)).f0, (rd_T51 t168 (ji67)).f1, (rd_T51 t168 (ji67)).f2, (rd_T51 t168 (ji67)).f3, (rd_T51 t168 (ji67)).f4⟩ : S51)).set ((ji67) : Int).toNat (⟨(rd_T51 t168 0).f0, (rd_T51 t168 0).f1, (rd_T51 t168 0).f2, (rd_T51 t168 0).f3, (rd_T51 t168 0).f4⟩ : S51))] : List (List (S51))) : List (List (S51)))).bind fun y175 => (if x7_5.length + y175.length < 5864062014805 then (cellarlaw8_rows.l3 kj46 a1 l2 (x7_5 ++ y175) x9_2 x10_4 (wrap64 (x11_5 + 1)) l0_0 l0_1 x135002_5) else (none))) else (none)) else (none)) else (none)) = some r := by first | (rw [hji67] at H; exact H) | (simp only [hji67] at H ⊢; exact H)
                (try rw [hji67] at A66)
                have hji67w : (IntKind.i64.wrap (a1 - 1)) = ji67 := (i64_w _).trans hji67
                by_cases c68 : 0 ≤ (ji67)
                rotate_left
                ·rw [if_neg c68] at H
                 exact absurd H (by simp)
                rw [if_pos c68] at H
                have c68b0 : decide (0 ≤ (ji67)) = true := decide_eq_true c68
                clear c68
                by_cases c69 : (ji67) < (t168.length : Int)
                rotate_left
                ·rw [if_neg c69] at H
                 exact absurd H (by simp)
                rw [if_pos c69] at H
                have c69b0 : decide ((ji67) < (t168.length : Int)) = true := decide_eq_true c69
                clear c69
                by_cases c70 : 0 < (t168.length : Int)
                rotate_left
                ·rw [if_neg c70] at H
                 exact absurd H (by simp)
                rw [if_pos c70] at H
                have c70b0 : decide (0 < (t168.length : Int)) = true := decide_eq_true c70
                have c70b1 : decide (0 < t168.length) = true := decide_eq_true (by omega)
                clear c70
                obtain ⟨y173, hy173⟩ : ∃ y_ : List (S51), y_ = (t168.set (0 : Int).toNat (⟨(rd_T51 t168 (ji67)).f0, (rd_T51 t168 (ji67)).f1, (rd_T51 t168 (ji67)).f2, (rd_T51 t168 (ji67)).f3, (rd_T51 t168 (ji67)).f4⟩ : S51)) := ⟨_, rfl⟩
                replace H : ((some (([t160, x13_46, (y173.set ((ji67) : Int).toNat (⟨(rd_T51 t168 0).f0, (rd_T51 t168 0).f1, (rd_T51 t168 0).f2, (rd_T51 t168 0).f3, (rd_T51 t168 0).f4⟩ : S51))] : List (List (S51))) : List (List (S51)))).bind fun y175 => (if x7_5.length + y175.length < 5864062014805 then (cellarlaw8_rows.l3 kj46 a1 l2 (x7_5 ++ y175) x9_2 x10_4 (wrap64 (x11_5 + 1)) l0_0 l0_1 x135002_5) else (none))) = some r := by first | (rw [hy173]; with_reducible exact H) | (have H2_ := (Option.bind_some _ _).symm.trans H; rw [hy173]; with_reducible exact H2_) | (have H2_ := (Option.bind_some _ _).symm.trans H; with_reducible exact H2_) | with_reducible exact H | (rw [hy173]; exact H) | exact H
                have Ny173 := Aside0.mk hy173
                clear hy173
                obtain ⟨y174, hy174⟩ : ∃ y_ : List (S51), y_ = (y173.set ((ji67) : Int).toNat (⟨(rd_T51 t168 0).f0, (rd_T51 t168 0).f1, (rd_T51 t168 0).f2, (rd_T51 t168 0).f3, (rd_T51 t168 0).f4⟩ : S51)) := ⟨_, rfl⟩
                replace H : ((some (([t160, x13_46, y174] : List (List (S51))) : List (List (S51)))).bind fun y175 => (if x7_5.length + y175.length < 5864062014805 then (cellarlaw8_rows.l3 kj46 a1 l2 (x7_5 ++ y175) x9_2 x10_4 (wrap64 (x11_5 + 1)) l0_0 l0_1 x135002_5) else (none))) = some r := by first | (rw [hy174]; with_reducible exact H) | (have H2_ := (Option.bind_some _ _).symm.trans H; rw [hy174]; with_reducible exact H2_) | (have H2_ := (Option.bind_some _ _).symm.trans H; with_reducible exact H2_) | with_reducible exact H | (rw [hy174]; exact H) | exact H
                have Ny174 := Aside0.mk hy174
                clear hy174
                obtain ⟨y175, hy175⟩ : ∃ y_ : List (List (S51)), y_ = (([t160, x13_46, y174] : List (List (S51)))) := ⟨_, rfl⟩
                replace H : (if x7_5.length + y175.length < 5864062014805 then (cellarlaw8_rows.l3 kj46 a1 l2 (x7_5 ++ y175) x9_2 x10_4 (wrap64 (x11_5 + 1)) l0_0 l0_1 x135002_5) else (none)) = some r := by first | (rw [hy175]; with_reducible exact H) | (have H2_ := (Option.bind_some _ _).symm.trans H; rw [hy175]; with_reducible exact H2_) | (have H2_ := (Option.bind_some _ _).symm.trans H; with_reducible exact H2_) | with_reducible exact H | (rw [hy175]; exact H) | exact H
                have Ny175 := Aside0.mk hy175
                clear hy175
                by_cases c73 : x7_5.length + y175.length < 5864062014805
                rotate_left
                ·rw [if_neg c73] at H
                 exact absurd H (by simp)
                rw [if_pos c73] at H
                have LMc73 := Aside0.mk c73
                clear c73
                obtain ⟨y178, hy178⟩ : ∃ y_ : List (List (S51)), y_ = (x7_5 ++ y175) := ⟨_, rfl⟩
                replace H : (cellarlaw8_rows.l3 kj46 a1 l2 y178 x9_2 x10_4 (wrap64 (x11_5 + 1)) l0_0 l0_1 x135002_5) = some r := by first | (rw [hy178]; with_reducible exact H) | (have H2_ := (Option.bind_some _ _).symm.trans H; rw [hy178]; with_reducible exact H2_) | (have H2_ := (Option.bind_some _ _).symm.trans H; with_reducible exact H2_) | with_reducible exact H | (rw [hy178]; exact H) | exact H
                have Ny178 := Aside0.mk hy178
                clear hy178
                have H' := Aside0.mk H
                clear H
                try go_wp2_with (first | ((with_reducible refine gate_callee (f := 16) rfl ?_); refine zgo (some 119) Try.func16 #[.slice Ao50 t160.length co50] ?_; (with_reducible refine (cellarref0_CopyBytes.calls kj46 _ _ t160 t168 _ ?side1 ?side2 A66.out).mono ?_); (case side1 => repeat (first | exact (Kd.R_reads' HO_12.out).2.2 | (with_reducible refine Kd.C_alloc ?_ _) | (with_reducible refine Kd.C_drewN ?_ _) | (with_reducible refine Kd.C_drew ?_))); (case side2 => exact (Kd.R_reads' HO_12.out).2.1); rintro e w74 ⟨v169, rfl, ho0, hb⟩; refine ⟨_, rfl, ?_⟩; have n0_ := Aside0.mk (Kd.N_elder' (by (with_reducible repeat (first | apply Kd.N_alloc | apply Kd.N_drewN | apply Kd.N_drew)); exact HO_7.out) (Kd.R_base ho0) hb); have n1_ := Aside0.mk (Kd.R_elder' (by (with_reducible repeat (first | apply Kd.R_alloc | apply Kd.R_drewN | apply Kd.R_drew)); exact HO_12.out) (Kd.R_base ho0) hb); have n2_ := Aside0.mk (Kd.R_elder' (by (with_reducible repeat (first | apply Kd.R_alloc | apply Kd.R_drewN | apply Kd.R_drew)); exact HO_13.out) (Kd.R_base ho0) hb); have n3_ := Aside0.mk (Kd.V_elder' (by (with_reducible repeat (first | apply Kd.V_alloc | apply Kd.V_drewN | apply Kd.V_drew)); exact HO_135002.out) (Kd.R_base ho0) hb); have HO170 := Aside0.mk (Kd.R_lower (Kd.R_new' (Kd.R_new' (Kd.R_newM (M := fun k_ => (w.heap.size ≤ k_)) ho0 (below_size (zw1 HB.out GE134.out)) (fun k_ h_ => h_)) (Kd.R_lt (by (with_reducible repeat (first | apply Kd.R_alloc | apply Kd.R_drewN | apply Kd.R_drew)); exact HO_12.out))) (Kd.R_lt (by (with_reducible repeat (first | apply Kd.R_alloc | apply Kd.R_drewN | apply Kd.R_drew)); exact HO_13.out))) (below_size (zw1 HB.out GE134.out))); have n5_ := Aside0.mk (zbb BK134.out hb); have n6_ := Aside0.mk (below_step (zw1 HB.out GE134.out) hb); clear HO_7 HO_12 HO_13 HO_135002 BK134 HB; have HO_7 := n0_; have HO_12 := n1_; have HO_13 := n2_; have HO_135002 := n3_; have BK134 := n5_; have HB := n6_; clear n0_ n1_ n2_ n3_ n5_ n6_; (try clear hb); (try clear hb2); (try clear hk); (try clear hi); (try clear ho0)))
                have n0_ := Aside0.mk (Kd.N_drew HO_7.out)
                have n1_ := Aside0.mk (Kd.R_drew HO_12.out)
                have n2_ := Aside0.mk (Kd.R_drew HO_13.out)
                have n3_ := Aside0.mk (Kd.V_drew HO_135002.out)
                have n4_ := Aside0.mk (Kd.R_drew HO170.out)
                have n5_ := Aside0.mk (blk_drew BK134.out)
                have n6_ := Aside0.mk (below_drew1 HB.out)
                clear HO_7
                clear HO_12
                clear HO_13
                clear HO_135002
                clear HO170
                clear BK134
                clear HB
                have HO_7 := n0_
                have HO_12 := n1_
                have HO_13 := n2_
                have HO_135002 := n3_
                have HO170 := n4_
                have BK134 := n5_
                have HB := n6_
                clear n0_ n1_ n2_ n3_ n4_ n5_ n6_
                obtain ⟨Ao76, co76, eo76⟩ := Kd.R_slice HO170.out
                (first | subst eo76 | (injection eo76 with f1_ f2_ f3_; have f4_ := f1_.symm; have f5_ := f3_.symm; clear f1_ f2_ f3_; subst f4_; subst f5_))
                have p171 : 0 ≤ ((ji67) : Int) := zdec
                have q171 : (ji67) < (t168.length : Int) := zdec
                obtain ⟨ad171, e171, hx171_0, hx171_1, hx171_2, hx171_3, hx171_4⟩ := at_T51 (Kd.R_reads' HO170.out).2.2 (ji67) p171 q171
                cases e171
                replace p171 := eq_true p171
                replace q171 := eq_true q171
                have p172 : 0 ≤ (0 : Int) := (by omega)
                have q172 : 0 < (t168.length : Int) := zdec
                obtain ⟨ad172, e172, hx172_0, hx172_1, hx172_2, hx172_3, hx172_4⟩ := at_T51 (Kd.R_reads' HO170.out).2.2 0 p172 q172
                obtain rfl : ad171 = ad172 := (by injection e172)
                have qi172 : (0 < t168.length) = True := eq_true (by omega)
                (try rw [show ((0 : Int)).toNat = 0 from rfl] at hx172_0)
                (try rw [show 0 * 5 = 0 from rfl] at hx172_0)
                (try rw [Addr.add_zero'] at hx172_0)
                (try rw [show ((0 : Int)).toNat = 0 from rfl] at hx172_1)
                (try rw [show 0 * 5 = 0 from rfl] at hx172_1)
                (try rw [Addr.add_zero'] at hx172_1)
                (try rw [show ((0 : Int)).toNat = 0 from rfl] at hx172_2)
                (try rw [show 0 * 5 = 0 from rfl] at hx172_2)
                (try rw [Addr.add_zero'] at hx172_2)
                (try rw [show ((0 : Int)).toNat = 0 from rfl] at hx172_3)
                (try rw [show 0 * 5 = 0 from rfl] at hx172_3)
                (try rw [Addr.add_zero'] at hx172_3)
                (try rw [show ((0 : Int)).toNat = 0 from rfl] at hx172_4)
                (try rw [show 0 * 5 = 0 from rfl] at hx172_4)
                (try rw [Addr.add_zero'] at hx172_4)
                replace p172 := eq_true p172
                replace q172 := eq_true q172
                have p71 : 0 ≤ (0 : Int) := (by omega)
                have q71 : (0 : Int) < ((t168.length : Int) : Int) := zdec
                have qi71 : (0 < t168.length) = True := eq_true (by omega)
                obtain ⟨go71, co71, eo71, gb71, gl71, cl71, HG71⟩ := Kd.R_form HO170.out (by omega)
                (first | cases eo71 | (injection eo71 with ea_ en_ ec_; (first | subst ea_ | (injection ea_ with ea_; subst ea_)); subst ec_; clear en_))
                have GB71 := Aside0.mk gb71
                have GG71 := Aside0.mk HG71
                clear gb71 gl71 HG71
                (first | simp only [add_plain] at hx171_0 | skip)
                (first | simp only [add_plain] at hx171_1 | skip)
                (first | simp only [add_plain] at hx171_2 | skip)
                (first | simp only [add_plain] at hx171_3 | skip)
                (first | simp only [add_plain] at hx171_4 | skip)
                (first | simp only [add_plain] at hx172_0 | skip)
                (first | simp only [add_plain] at hx172_1 | skip)
                (first | simp only [add_plain] at hx172_2 | skip)
                (first | simp only [add_plain] at hx172_3 | skip)
                (first | simp only [add_plain] at hx172_4 | skip)
                obtain ⟨ce71, hcl71, hM71, hcc71, hfr71⟩ := Kd.R_elem HO170.out z51 (0 : Int) p71 q71
                obtain rfl := k51_openM hM71
                have hx71_0 : World.cell? _ ⟨go71, (0 : Int).toNat * 5, none⟩ = some (.int .i64 ((rd_T51 t168 0).f0)) := hcc71 0 _ rfl
                have hx71_1 : World.cell? _ ⟨go71, (0 : Int).toNat * 5 + 1, none⟩ = some (.int .i64 ((rd_T51 t168 0).f1)) := hcc71 1 _ rfl
                have hx71_2 : World.cell? _ ⟨go71, (0 : Int).toNat * 5 + 2, none⟩ = some (.int .i64 ((rd_T51 t168 0).f2)) := hcc71 2 _ rfl
                have hx71_3 : World.cell? _ ⟨go71, (0 : Int).toNat * 5 + 3, none⟩ = some (.int .i64 ((rd_T51 t168 0).f3)) := hcc71 3 _ rfl
                have hx71_4 : World.cell? _ ⟨go71, (0 : Int).toNat * 5 + 4, none⟩ = some (.int .i64 ((rd_T51 t168 0).f4)) := hcc71 4 _ rfl
                have hf71_0 : World.frozen? _ ⟨go71, (0 : Int).toNat * 5, none⟩ = false := hfr71 0
                have hf71_1 : World.frozen? _ ⟨go71, (0 : Int).toNat * 5 + 1, none⟩ = false := hfr71 1
                have hf71_2 : World.frozen? _ ⟨go71, (0 : Int).toNat * 5 + 2, none⟩ = false := hfr71 2
                have hf71_3 : World.frozen? _ ⟨go71, (0 : Int).toNat * 5 + 3, none⟩ = false := hfr71 3
                have hf71_4 : World.frozen? _ ⟨go71, (0 : Int).toNat * 5 + 4, none⟩ = false := hfr71 4
                clear hcl71 hcc71 hfr71 hM71
                (try rw [show ((0 : Int)).toNat = 0 from rfl] at hx71_0)
                (try simp only [Nat.reduceMul, Nat.zero_mul, Nat.zero_add, Nat.reduceAdd] at hx71_0)
                (try rw [show ((0 : Int)).toNat = 0 from rfl] at hf71_0)
                (try simp only [Nat.reduceMul, Nat.zero_mul, Nat.zero_add, Nat.reduceAdd] at hf71_0)
                (try rw [show ((0 : Int)).toNat = 0 from rfl] at hx71_1)
                (try simp only [Nat.reduceMul, Nat.zero_mul, Nat.zero_add, Nat.reduceAdd] at hx71_1)
                (try rw [show ((0 : Int)).toNat = 0 from rfl] at hf71_1)
                (try simp only [Nat.reduceMul, Nat.zero_mul, Nat.zero_add, Nat.reduceAdd] at hf71_1)
                (try rw [show ((0 : Int)).toNat = 0 from rfl] at hx71_2)
                (try simp only [Nat.reduceMul, Nat.zero_mul, Nat.zero_add, Nat.reduceAdd] at hx71_2)
                (try rw [show ((0 : Int)).toNat = 0 from rfl] at hf71_2)
                (try simp only [Nat.reduceMul, Nat.zero_mul, Nat.zero_add, Nat.reduceAdd] at hf71_2)
                (try rw [show ((0 : Int)).toNat = 0 from rfl] at hx71_3)
                (try simp only [Nat.reduceMul, Nat.zero_mul, Nat.zero_add, Nat.reduceAdd] at hx71_3)
                (try rw [show ((0 : Int)).toNat = 0 from rfl] at hf71_3)
                (try simp only [Nat.reduceMul, Nat.zero_mul, Nat.zero_add, Nat.reduceAdd] at hf71_3)
                (try rw [show ((0 : Int)).toNat = 0 from rfl] at hx71_4)
                (try simp only [Nat.reduceMul, Nat.zero_mul, Nat.zero_add, Nat.reduceAdd] at hx71_4)
                (try rw [show ((0 : Int)).toNat = 0 from rfl] at hf71_4)
                (try simp only [Nat.reduceMul, Nat.zero_mul, Nat.zero_add, Nat.reduceAdd] at hf71_4)
                replace p71 := eq_true p71
                replace q71 := eq_true q71
                obtain ⟨ce77, hcl77, hM77, hcc77, hfr77⟩ := Kd.R_elem HO170.out z51 (0 : Int) (by omega) (by have h_ : (0 : Int) < ((t168.length : Int) : Int) := zdec; first | exact h_ | (have e_ := (Kd.R_reads' HO170.out).1; omega) | simpa using h_)
                obtain rfl := k51_openM hM77
                have HP77 := (Kd.R_seg HO170.out (0 : Int) (by omega) (by have h_ : (0 : Int) < ((t168.length : Int) : Int) := zdec; first | exact h_ | (have e_ := (Kd.R_reads' HO170.out).1; omega) | simpa using h_) (seg := [.int .i64 ((rd_T51 t168 (ji67)).f0), .int .i64 ((rd_T51 t168 (ji67)).f1), .int .i64 ((rd_T51 t168 (ji67)).f2), .int .i64 ((rd_T51 t168 (ji67)).f3), .int .i64 ((rd_T51 t168 (ji67)).f4)]) (j := 0) hcl77 hcc77 (show 5 ≤ 5 from by decide) (x' := (⟨(rd_T51 t168 (ji67)).f0, (rd_T51 t168 (ji67)).f1, (rd_T51 t168 (ji67)).f2, (rd_T51 t168 (ji67)).f3, (rd_T51 t168 (ji67)).f4⟩ : S51)) (k51_mkM _ _ _ (⟨(rd_T51 t168 (ji67)).f0, (rd_T51 t168 (ji67)).f1, (rd_T51 t168 (ji67)).f2, (rd_T51 t168 (ji67)).f3, (rd_T51 t168 (ji67)).f4⟩ : S51) ) (fun _ hk => hk)).1
                rw [← Ny173.out] at HP77
                have HQ77 := Aside0.mk HP77
                clear hcl77 hcc77 hfr77 hM77 HP77
                have p72 : 0 ≤ ((ji67) : Int) := zdec
                have q72 : ((ji67) : Int) < ((t168.length : Int) : Int) := zdec
                obtain ⟨ce72, hcl72, hM72, hcc72, hfr72⟩ := Kd.R_elem HQ77.out z51 ((ji67) : Int) p72 q72
                obtain rfl := k51_openM hM72
                have hx72_0 : World.cell? _ ⟨go71, ((ji67) : Int).toNat * 5, none⟩ = some (.int .i64 ((rd_T51 y173 (ji67)).f0)) := hcc72 0 _ rfl
                have hx72_1 : World.cell? _ ⟨go71, ((ji67) : Int).toNat * 5 + 1, none⟩ = some (.int .i64 ((rd_T51 y173 (ji67)).f1)) := hcc72 1 _ rfl
                have hx72_2 : World.cell? _ ⟨go71, ((ji67) : Int).toNat * 5 + 2, none⟩ = some (.int .i64 ((rd_T51 y173 (ji67)).f2)) := hcc72 2 _ rfl
                have hx72_3 : World.cell? _ ⟨go71, ((ji67) : Int).toNat * 5 + 3, none⟩ = some (.int .i64 ((rd_T51 y173 (ji67)).f3)) := hcc72 3 _ rfl
                have hx72_4 : World.cell? _ ⟨go71, ((ji67) : Int).toNat * 5 + 4, none⟩ = some (.int .i64 ((rd_T51 y173 (ji67)).f4)) := hcc72 4 _ rfl
                have hf72_0 : World.frozen? _ ⟨go71, ((ji67) : Int).toNat * 5, none⟩ = false := hfr72 0
                have hf72_1 : World.frozen? _ ⟨go71, ((ji67) : Int).toNat * 5 + 1, none⟩ = false := hfr72 1
                have hf72_2 : World.frozen? _ ⟨go71, ((ji67) : Int).toNat * 5 + 2, none⟩ = false := hfr72 2
                have hf72_3 : World.frozen? _ ⟨go71, ((ji67) : Int).toNat * 5 + 3, none⟩ = false := hfr72 3
                have hf72_4 : World.frozen? _ ⟨go71, ((ji67) : Int).toNat * 5 + 4, none⟩ = false := hfr72 4
                clear hcl72 hcc72 hfr72 hM72
                replace p72 := eq_true p72
                replace q72 := eq_true q72
                obtain ⟨ce78, hcl78, hM78, hcc78, hfr78⟩ := Kd.R_elem HQ77.out z51 ((ji67) : Int) (zdec) (by have h_ : ((ji67) : Int) < ((t168.length : Int) : Int) := zdec; first | exact h_ | (have e_ := (Kd.R_reads' HO170.out).1; omega) | simpa using h_)
                obtain rfl := k51_openM hM78
                have HP78 := (Kd.R_seg HQ77.out ((ji67) : Int) (zdec) (by have h_ : ((ji67) : Int) < ((t168.length : Int) : Int) := zdec; first | exact h_ | (have e_ := (Kd.R_reads' HO170.out).1; omega) | simpa using h_) (seg := [.int .i64 ((rd_T51 t168 0).f0), .int .i64 ((rd_T51 t168 0).f1), .int .i64 ((rd_T51 t168 0).f2), .int .i64 ((rd_T51 t168 0).f3), .int .i64 ((rd_T51 t168 0).f4)]) (j := 0) hcl78 hcc78 (show 5 ≤ 5 from by decide) (x' := (⟨(rd_T51 t168 0).f0, (rd_T51 t168 0).f1, (rd_T51 t168 0).f2, (rd_T51 t168 0).f3, (rd_T51 t168 0).f4⟩ : S51)) (k51_mkM _ _ _ (⟨(rd_T51 t168 0).f0, (rd_T51 t168 0).f1, (rd_T51 t168 0).f2, (rd_T51 t168 0).f3, (rd_T51 t168 0).f4⟩ : S51) ) (fun _ hk => hk)).1
                rw [← Ny174.out] at HP78
                have HQ78 := Aside0.mk HP78
                clear hcl78 hcc78 hfr78 hM78 HP78
                refine start_ (n := 16) (S := fun w' => w'.cell? ⟨go71, ((ji67)).toNat * 5, none⟩ = some (.int .i64 ((rd_T51 t168 (ji67)).f0)) ∧ w'.cell? ⟨go71, ((ji67)).toNat * 5 + 1, none⟩ = some (.int .i64 ((rd_T51 t168 (ji67)).f1)) ∧ w'.cell? ⟨go71, ((ji67)).toNat * 5 + 2, none⟩ = some (.int .i64 ((rd_T51 t168 (ji67)).f2)) ∧ w'.cell? ⟨go71, ((ji67)).toNat * 5 + 3, none⟩ = some (.int .i64 ((rd_T51 t168 (ji67)).f3)) ∧ w'.cell? ⟨go71, ((ji67)).toNat * 5 + 4, none⟩ = some (.int .i64 ((rd_T51 t168 (ji67)).f4)) ∧ w'.cell? ⟨go71, 0, none⟩ = some (.int .i64 ((rd_T51 t168 0).f0)) ∧ w'.cell? ⟨go71, 1, none⟩ = some (.int .i64 ((rd_T51 t168 0).f1)) ∧ w'.cell? ⟨go71, 2, none⟩ = some (.int .i64 ((rd_T51 t168 0).f2)) ∧ w'.cell? ⟨go71, 3, none⟩ = some (.int .i64 ((rd_T51 t168 0).f3)) ∧ w'.cell? ⟨go71, 4, none⟩ = some (.int .i64 ((rd_T51 t168 0).f4))) (ds := [13, 15]) #[false,false,false,false,false,false,false,false,false,false,false,false,false,false,false,false] (by kernel_rfl) rfl rfl ⟨hx171_0, hx171_1, hx171_2, hx171_3, hx171_4, hx172_0, hx172_1, hx172_2, hx172_3, hx172_4⟩ (fun hHeld => ?_); refine with_tabW cellarlaw8_rows.tab21 cellarlaw8_rows.bits21 (fun HT_ HW_ => ?_)
                generalize w74.drew = w75 at HO_7 HO_12 HO_13 HO_135002 HO170 BK134 HB GG71 HQ77 HQ78 hf71_0 hf71_1 hf71_2 hf71_3 hf71_4 hf72_0 hf72_1 hf72_2 hf72_3 hf72_4 hx171_0 hx171_1 hx171_2 hx171_3 hx171_4 hx172_0 hx172_1 hx172_2 hx172_3 hx172_4 hx71_0 hx71_1 hx71_2 hx71_3 hx71_4 hx72_0 hx72_1 hx72_2 hx72_3 hx72_4 hHeld ⊢
                refine zq 0 (some 120) HT_ ?_; refine zq 1 (some 121) HT_ ?_; refine zq 2 (some 122) HT_ ?_; refine zq 3 (some 123) HT_ ?_; refine zq 4 (some 124) HT_ ?_; refine zq 5 (some 125) HT_ ?_; refine zq 6 (some 126) HT_ ?_; refine zq 7 (some 127) HT_ ?_; refine zq 9 (some 129) HT_ ?_; refine zq 10 (some 130) HT_ ?_; refine zt 8 (some 128) HT_ HW_ hHeld ?_; refine zt 11 (some 131) HT_ HW_ hHeld ?_; refine zq 12 (some 132) HT_ ?_
                refine last_ (i := 13) (N := none) #[true,true,true,true,true,true,true,true,true,true,true,true,true,true,false,false] rfl rfl (one_of HT_.out (by kernel_rfl)) (by decide) (fun K hK => ?_)
                refine skip_ (w1 := ?_) (by rfl) rfl ?_ ?_
                rotate_left
                ·go_simp
                 rfl
                refine hK.out _ _ ?_
                clear hK K
                refine zq 14 (some 133) HT_ ?_
                rw [World.frozen?_setCells] at hf72_0 hf72_1 hf72_2 hf72_3 hf72_4
                have hy0_0 : ∃ v, (w75.setCell ⟨go71, 0, none⟩ (.int .i64 ((rd_T51 t168 (ji67)).f0))).cell? ⟨go71, (ji67).toNat * 5, none⟩ = some v := cs_ ⟨_, hx171_0⟩
                have hy0_1 : ∃ v, ((w75.setCell ⟨go71, 0, none⟩ (.int .i64 ((rd_T51 t168 (ji67)).f0))).setCell ⟨go71, 1, none⟩ (.int .i64 ((rd_T51 t168 (ji67)).f1))).cell? ⟨go71, (ji67).toNat * 5, none⟩ = some v := cs_ hy0_0
                have hy0_2 : ∃ v, (((w75.setCell ⟨go71, 0, none⟩ (.int .i64 ((rd_T51 t168 (ji67)).f0))).setCell ⟨go71, 1, none⟩ (.int .i64 ((rd_T51 t168 (ji67)).f1))).setCell ⟨go71, 2, none⟩ (.int .i64 ((rd_T51 t168 (ji67)).f2))).cell? ⟨go71, (ji67).toNat * 5, none⟩ = some v := cs_ hy0_1
                have hy0_3 : ∃ v, ((((w75.setCell ⟨go71, 0, none⟩ (.int .i64 ((rd_T51 t168 (ji67)).f0))).setCell ⟨go71, 1, none⟩ (.int .i64 ((rd_T51 t168 (ji67)).f1))).setCell ⟨go71, 2, none⟩ (.int .i64 ((rd_T51 t168 (ji67)).f2))).setCell ⟨go71, 3, none⟩ (.int .i64 ((rd_T51 t168 (ji67)).f3))).cell? ⟨go71, (ji67).toNat * 5, none⟩ = some v := cs_ hy0_2
                have hy0_4 : ∃ v, (((((w75.setCell ⟨go71, 0, none⟩ (.int .i64 ((rd_T51 t168 (ji67)).f0))).setCell ⟨go71, 1, none⟩ (.int .i64 ((rd_T51 t168 (ji67)).f1))).setCell ⟨go71, 2, none⟩ (.int .i64 ((rd_T51 t168 (ji67)).f2))).setCell ⟨go71, 3, none⟩ (.int .i64 ((rd_T51 t168 (ji67)).f3))).setCell ⟨go71, 4, none⟩ (.int .i64 ((rd_T51 t168 (ji67)).f4))).cell? ⟨go71, (ji67).toNat * 5, none⟩ = some v := cs_ hy0_3
                obtain ⟨vy0_0, hz0_0⟩ := hy0_0
                obtain ⟨vy0_1, hz0_1⟩ := hy0_1
                obtain ⟨vy0_2, hz0_2⟩ := hy0_2
                obtain ⟨vy0_3, hz0_3⟩ := hy0_3
                obtain ⟨vy0_4, hz0_4⟩ := hy0_4
                have hy1_0 : ∃ v, (w75.setCell ⟨go71, 0, none⟩ (.int .i64 ((rd_T51 t168 (ji67)).f0))).cell? ⟨go71, (ji67).toNat * 5 + 1, none⟩ = some v := cs_ ⟨_, hx171_1⟩
                have hy1_1 : ∃ v, ((w75.setCell ⟨go71, 0, none⟩ (.int .i64 ((rd_T51 t168 (ji67)).f0))).setCell ⟨go71, 1, none⟩ (.int .i64 ((rd_T51 t168 (ji67)).f1))).cell? ⟨go71, (ji67).toNat * 5 + 1, none⟩ = some v := cs_ hy1_0
                have hy1_2 : ∃ v, (((w75.setCell ⟨go71, 0, none⟩ (.int .i64 ((rd_T51 t168 (ji67)).f0))).setCell ⟨go71, 1, none⟩ (.int .i64 ((rd_T51 t168 (ji67)).f1))).setCell ⟨go71, 2, none⟩ (.int .i64 ((rd_T51 t168 (ji67)).f2))).cell? ⟨go71, (ji67).toNat * 5 + 1, none⟩ = some v := cs_ hy1_1
                have hy1_3 : ∃ v, ((((w75.setCell ⟨go71, 0, none⟩ (.int .i64 ((rd_T51 t168 (ji67)).f0))).setCell ⟨go71, 1, none⟩ (.int .i64 ((rd_T51 t168 (ji67)).f1))).setCell ⟨go71, 2, none⟩ (.int .i64 ((rd_T51 t168 (ji67)).f2))).setCell ⟨go71, 3, none⟩ (.int .i64 ((rd_T51 t168 (ji67)).f3))).cell? ⟨go71, (ji67).toNat * 5 + 1, none⟩ = some v := cs_ hy1_2
                have hy1_4 : ∃ v, (((((w75.setCell ⟨go71, 0, none⟩ (.int .i64 ((rd_T51 t168 (ji67)).f0))).setCell ⟨go71, 1, none⟩ (.int .i64 ((rd_T51 t168 (ji67)).f1))).setCell ⟨go71, 2, none⟩ (.int .i64 ((rd_T51 t168 (ji67)).f2))).setCell ⟨go71, 3, none⟩ (.int .i64 ((rd_T51 t168 (ji67)).f3))).setCell ⟨go71, 4, none⟩ (.int .i64 ((rd_T51 t168 (ji67)).f4))).cell? ⟨go71, (ji67).toNat * 5 + 1, none⟩ = some v := cs_ hy1_3
                clear hy1_0
                obtain ⟨vy1_1, hz1_1⟩ := hy1_1
                obtain ⟨vy1_2, hz1_2⟩ := hy1_2
                obtain ⟨vy1_3, hz1_3⟩ := hy1_3
                obtain ⟨vy1_4, hz1_4⟩ := hy1_4
                have hy2_0 : ∃ v, (w75.setCell ⟨go71, 0, none⟩ (.int .i64 ((rd_T51 t168 (ji67)).f0))).cell? ⟨go71, (ji67).toNat * 5 + 2, none⟩ = some v := cs_ ⟨_, hx171_2⟩
                have hy2_1 : ∃ v, ((w75.setCell ⟨go71, 0, none⟩ (.int .i64 ((rd_T51 t168 (ji67)).f0))).setCell ⟨go71, 1, none⟩ (.int .i64 ((rd_T51 t168 (ji67)).f1))).cell? ⟨go71, (ji67).toNat * 5 + 2, none⟩ = some v := cs_ hy2_0
                have hy2_2 : ∃ v, (((w75.setCell ⟨go71, 0, none⟩ (.int .i64 ((rd_T51 t168 (ji67)).f0))).setCell ⟨go71, 1, none⟩ (.int .i64 ((rd_T51 t168 (ji67)).f1))).setCell ⟨go71, 2, none⟩ (.int .i64 ((rd_T51 t168 (ji67)).f2))).cell? ⟨go71, (ji67).toNat * 5 + 2, none⟩ = some v := cs_ hy2_1
                have hy2_3 : ∃ v, ((((w75.setCell ⟨go71, 0, none⟩ (.int .i64 ((rd_T51 t168 (ji67)).f0))).setCell ⟨go71, 1, none⟩ (.int .i64 ((rd_T51 t168 (ji67)).f1))).setCell ⟨go71, 2, none⟩ (.int .i64 ((rd_T51 t168 (ji67)).f2))).setCell ⟨go71, 3, none⟩ (.int .i64 ((rd_T51 t168 (ji67)).f3))).cell? ⟨go71, (ji67).toNat * 5 + 2, none⟩ = some v := cs_ hy2_2
                have hy2_4 : ∃ v, (((((w75.setCell ⟨go71, 0, none⟩ (.int .i64 ((rd_T51 t168 (ji67)).f0))).setCell ⟨go71, 1, none⟩ (.int .i64 ((rd_T51 t168 (ji67)).f1))).setCell ⟨go71, 2, none⟩ (.int .i64 ((rd_T51 t168 (ji67)).f2))).setCell ⟨go71, 3, none⟩ (.int .i64 ((rd_T51 t168 (ji67)).f3))).setCell ⟨go71, 4, none⟩ (.int .i64 ((rd_T51 t168 (ji67)).f4))).cell? ⟨go71, (ji67).toNat * 5 + 2, none⟩ = some v := cs_ hy2_3
                clear hy2_0
                clear hy2_1
                obtain ⟨vy2_2, hz2_2⟩ := hy2_2
                obtain ⟨vy2_3, hz2_3⟩ := hy2_3
                obtain ⟨vy2_4, hz2_4⟩ := hy2_4
                have hy3_0 : ∃ v, (w75.setCell ⟨go71, 0, none⟩ (.int .i64 ((rd_T51 t168 (ji67)).f0))).cell? ⟨go71, (ji67).toNat * 5 + 3, none⟩ = some v := cs_ ⟨_, hx171_3⟩
                have hy3_1 : ∃ v, ((w75.setCell ⟨go71, 0, none⟩ (.int .i64 ((rd_T51 t168 (ji67)).f0))).setCell ⟨go71, 1, none⟩ (.int .i64 ((rd_T51 t168 (ji67)).f1))).cell? ⟨go71, (ji67).toNat * 5 + 3, none⟩ = some v := cs_ hy3_0
                have hy3_2 : ∃ v, (((w75.setCell ⟨go71, 0, none⟩ (.int .i64 ((rd_T51 t168 (ji67)).f0))).setCell ⟨go71, 1, none⟩ (.int .i64 ((rd_T51 t168 (ji67)).f1))).setCell ⟨go71, 2, none⟩ (.int .i64 ((rd_T51 t168 (ji67)).f2))).cell? ⟨go71, (ji67).toNat * 5 + 3, none⟩ = some v := cs_ hy3_1
                have hy3_3 : ∃ v, ((((w75.setCell ⟨go71, 0, none⟩ (.int .i64 ((rd_T51 t168 (ji67)).f0))).setCell ⟨go71, 1, none⟩ (.int .i64 ((rd_T51 t168 (ji67)).f1))).setCell ⟨go71, 2, none⟩ (.int .i64 ((rd_T51 t168 (ji67)).f2))).setCell ⟨go71, 3, none⟩ (.int .i64 ((rd_T51 t168 (ji67)).f3))).cell? ⟨go71, (ji67).toNat * 5 + 3, none⟩ = some v := cs_ hy3_2
                have hy3_4 : ∃ v, (((((w75.setCell ⟨go71, 0, none⟩ (.int .i64 ((rd_T51 t168 (ji67)).f0))).setCell ⟨go71, 1, none⟩ (.int .i64 ((rd_T51 t168 (ji67)).f1))).setCell ⟨go71, 2, none⟩ (.int .i64 ((rd_T51 t168 (ji67)).f2))).setCell ⟨go71, 3, none⟩ (.int .i64 ((rd_T51 t168 (ji67)).f3))).setCell ⟨go71, 4, none⟩ (.int .i64 ((rd_T51 t168 (ji67)).f4))).cell? ⟨go71, (ji67).toNat * 5 + 3, none⟩ = some v := cs_ hy3_3
                clear hy3_0
                clear hy3_1
                clear hy3_2
                obtain ⟨vy3_3, hz3_3⟩ := hy3_3
                obtain ⟨vy3_4, hz3_4⟩ := hy3_4
                have hy4_0 : ∃ v, (w75.setCell ⟨go71, 0, none⟩ (.int .i64 ((rd_T51 t168 (ji67)).f0))).cell? ⟨go71, (ji67).toNat * 5 + 4, none⟩ = some v := cs_ ⟨_, hx171_4⟩
                have hy4_1 : ∃ v, ((w75.setCell ⟨go71, 0, none⟩ (.int .i64 ((rd_T51 t168 (ji67)).f0))).setCell ⟨go71, 1, none⟩ (.int .i64 ((rd_T51 t168 (ji67)).f1))).cell? ⟨go71, (ji67).toNat * 5 + 4, none⟩ = some v := cs_ hy4_0
                have hy4_2 : ∃ v, (((w75.setCell ⟨go71, 0, none⟩ (.int .i64 ((rd_T51 t168 (ji67)).f0))).setCell ⟨go71, 1, none⟩ (.int .i64 ((rd_T51 t168 (ji67)).f1))).setCell ⟨go71, 2, none⟩ (.int .i64 ((rd_T51 t168 (ji67)).f2))).cell? ⟨go71, (ji67).toNat * 5 + 4, none⟩ = some v := cs_ hy4_1
                have hy4_3 : ∃ v, ((((w75.setCell ⟨go71, 0, none⟩ (.int .i64 ((rd_T51 t168 (ji67)).f0))).setCell ⟨go71, 1, none⟩ (.int .i64 ((rd_T51 t168 (ji67)).f1))).setCell ⟨go71, 2, none⟩ (.int .i64 ((rd_T51 t168 (ji67)).f2))).setCell ⟨go71, 3, none⟩ (.int .i64 ((rd_T51 t168 (ji67)).f3))).cell? ⟨go71, (ji67).toNat * 5 + 4, none⟩ = some v := cs_ hy4_2
                have hy4_4 : ∃ v, (((((w75.setCell ⟨go71, 0, none⟩ (.int .i64 ((rd_T51 t168 (ji67)).f0))).setCell ⟨go71, 1, none⟩ (.int .i64 ((rd_T51 t168 (ji67)).f1))).setCell ⟨go71, 2, none⟩ (.int .i64 ((rd_T51 t168 (ji67)).f2))).setCell ⟨go71, 3, none⟩ (.int .i64 ((rd_T51 t168 (ji67)).f3))).setCell ⟨go71, 4, none⟩ (.int .i64 ((rd_T51 t168 (ji67)).f4))).cell? ⟨go71, (ji67).toNat * 5 + 4, none⟩ = some v := cs_ hy4_3
                clear hy4_0
                clear hy4_1
                clear hy4_2
                clear hy4_3
                obtain ⟨vy4_4, hz4_4⟩ := hy4_4
                refine last_ (i := 15) (N := none) #[true,true,true,true,true,true,true,true,true,true,true,true,true,true,true,true] rfl rfl (one_of HT_.out (by kernel_rfl)) (by decide) (fun K hK => ?_)
                refine skip_ (w1 := ?_) (by rfl) rfl ?_ ?_
                rotate_left
                ·go_simp
                 rfl
                refine hK.out _ _ ?_
                clear hK K
                clear hz0_0 hz0_1 hz0_2 hz0_3 hz0_4 hz1_1 hz1_2 hz1_3 hz1_4 hz2_2 hz2_3 hz2_4 hz3_3 hz3_4 hz4_4
                clear vy0_0 vy0_1 vy0_2 vy0_3 vy0_4 vy1_1 vy1_2 vy1_3 vy1_4 vy2_2 vy2_3 vy2_4 vy3_3 vy3_4 vy4_4
                refine done_ (done_of HT_.out (by kernel_rfl)) ?_
                have n0_ : Aside0 (Kd.N (Kd.slice 51 k51) 24 ((((((((((w75.setCell ⟨go71, 0, none⟩ (.int .i64 ((rd_T51 t168 (ji67)).f0))).setCell ⟨go71, 1, none⟩ (.int .i64 ((rd_T51 t168 (ji67)).f1))).setCell ⟨go71, 2, none⟩ (.int .i64 ((rd_T51 t168 (ji67)).f2))).setCell ⟨go71, 3, none⟩ (.int .i64 ((rd_T51 t168 (ji67)).f3))).setCell ⟨go71, 4, none⟩ (.int .i64 ((rd_T51 t168 (ji67)).f4))).setCell ⟨go71, ((ji67) : Int).toNat * 5, none⟩ (.int .i64 ((rd_T51 t168 0).f0))).setCell ⟨go71, ((ji67) : Int).toNat * 5 + 1, none⟩ (.int .i64 ((rd_T51 t168 0).f1))).setCell ⟨go71, ((ji67) : Int).toNat * 5 + 2, none⟩ (.int .i64 ((rd_T51 t168 0).f2))).setCell ⟨go71, ((ji67) : Int).toNat * 5 + 3, none⟩ (.int .i64 ((rd_T51 t168 0).f3))).setCell ⟨go71, ((ji67) : Int).toNat * 5 + 4, none⟩ (.int .i64 ((rd_T51 t168 0).f4))) w.heap.size (fun k_ => (P0_2_ k_ ∨ w.heap.size ≤ k_) ∧ some k_ ≠ (.slice Ao50 t160.length co50 : Value).ownBlock ∧ some k_ ≠ (v164 : Value).ownBlock ∧ some k_ ≠ (.slice (some ⟨go71, 0, none⟩) t168.length co76 : Value).ownBlock ∧ k_ ≠ gb134) u7 x7_5) := ⟨by (with_reducible repeat (first | apply Kd.N_alloc | apply Kd.N_drewN | apply Kd.N_drew)); exact Kd.N_mono (Kd.N_far (p := ⟨go71, ((ji67) : Int).toNat * 5 + 4, none⟩) (Kd.N_far (p := ⟨go71, ((ji67) : Int).toNat * 5 + 3, none⟩) (Kd.N_far (p := ⟨go71, ((ji67) : Int).toNat * 5 + 2, none⟩) (Kd.N_far (p := ⟨go71, ((ji67) : Int).toNat * 5 + 1, none⟩) (Kd.N_far (p := ⟨go71, ((ji67) : Int).toNat * 5, none⟩) (Kd.N_far (p := ⟨go71, 4, none⟩) (Kd.N_far (p := ⟨go71, 3, none⟩) (Kd.N_far (p := ⟨go71, 2, none⟩) (Kd.N_far (p := ⟨go71, 1, none⟩) (Kd.N_far (p := ⟨go71, 0, none⟩) (Kd.N_mono HO_7.out (fun k_ hk => (⟨hk, fun e_ => hk.2 (by rw [e_]; rfl)⟩ : _ ∧ k_ ≠ go71))) (fun _ hk => hk.2) (.int .i64 ((rd_T51 t168 (ji67)).f0))) (fun _ hk => hk.2) (.int .i64 ((rd_T51 t168 (ji67)).f1))) (fun _ hk => hk.2) (.int .i64 ((rd_T51 t168 (ji67)).f2))) (fun _ hk => hk.2) (.int .i64 ((rd_T51 t168 (ji67)).f3))) (fun _ hk => hk.2) (.int .i64 ((rd_T51 t168 (ji67)).f4))) (fun _ hk => hk.2) (.int .i64 ((rd_T51 t168 0).f0))) (fun _ hk => hk.2) (.int .i64 ((rd_T51 t168 0).f1))) (fun _ hk => hk.2) (.int .i64 ((rd_T51 t168 0).f2))) (fun _ hk => hk.2) (.int .i64 ((rd_T51 t168 0).f3))) (fun _ hk => hk.2) (.int .i64 ((rd_T51 t168 0).f4))) (fun _ hk => ⟨hk.1.1.1, ⟨hk.1.1.2.1, ⟨hk.1.1.2.2.1, ⟨hk.1.2, hk.1.1.2.2.2⟩⟩⟩⟩)⟩
                have n1_ : Aside0 (Kd.R k51 51 ((((((((((w75.setCell ⟨go71, 0, none⟩ (.int .i64 ((rd_T51 t168 (ji67)).f0))).setCell ⟨go71, 1, none⟩ (.int .i64 ((rd_T51 t168 (ji67)).f1))).setCell ⟨go71, 2, none⟩ (.int .i64 ((rd_T51 t168 (ji67)).f2))).setCell ⟨go71, 3, none⟩ (.int .i64 ((rd_T51 t168 (ji67)).f3))).setCell ⟨go71, 4, none⟩ (.int .i64 ((rd_T51 t168 (ji67)).f4))).setCell ⟨go71, ((ji67) : Int).toNat * 5, none⟩ (.int .i64 ((rd_T51 t168 0).f0))).setCell ⟨go71, ((ji67) : Int).toNat * 5 + 1, none⟩ (.int .i64 ((rd_T51 t168 0).f1))).setCell ⟨go71, ((ji67) : Int).toNat * 5 + 2, none⟩ (.int .i64 ((rd_T51 t168 0).f2))).setCell ⟨go71, ((ji67) : Int).toNat * 5 + 3, none⟩ (.int .i64 ((rd_T51 t168 0).f3))).setCell ⟨go71, ((ji67) : Int).toNat * 5 + 4, none⟩ (.int .i64 ((rd_T51 t168 0).f4))) w.heap.size (fun k_ => (w.heap.size ≤ k_) ∧ some k_ ≠ (v164 : Value).ownBlock ∧ some k_ ≠ (.slice (some ⟨go71, 0, none⟩) t168.length co76 : Value).ownBlock) (.slice Ao50 t160.length co50) t160) := ⟨by (with_reducible repeat (first | apply Kd.R_alloc | apply Kd.R_drewN | apply Kd.R_drew)); exact Kd.R_mono (Kd.R_far (p := ⟨go71, ((ji67) : Int).toNat * 5 + 4, none⟩) (Kd.R_far (p := ⟨go71, ((ji67) : Int).toNat * 5 + 3, none⟩) (Kd.R_far (p := ⟨go71, ((ji67) : Int).toNat * 5 + 2, none⟩) (Kd.R_far (p := ⟨go71, ((ji67) : Int).toNat * 5 + 1, none⟩) (Kd.R_far (p := ⟨go71, ((ji67) : Int).toNat * 5, none⟩) (Kd.R_far (p := ⟨go71, 4, none⟩) (Kd.R_far (p := ⟨go71, 3, none⟩) (Kd.R_far (p := ⟨go71, 2, none⟩) (Kd.R_far (p := ⟨go71, 1, none⟩) (Kd.R_far (p := ⟨go71, 0, none⟩) (Kd.R_mono HO_12.out (fun k_ hk => (⟨hk, fun e_ => hk.2 (by rw [e_]; rfl)⟩ : _ ∧ k_ ≠ go71))) (fun _ hk => hk.2) (.int .i64 ((rd_T51 t168 (ji67)).f0))) (fun _ hk => hk.2) (.int .i64 ((rd_T51 t168 (ji67)).f1))) (fun _ hk => hk.2) (.int .i64 ((rd_T51 t168 (ji67)).f2))) (fun _ hk => hk.2) (.int .i64 ((rd_T51 t168 (ji67)).f3))) (fun _ hk => hk.2) (.int .i64 ((rd_T51 t168 (ji67)).f4))) (fun _ hk => hk.2) (.int .i64 ((rd_T51 t168 0).f0))) (fun _ hk => hk.2) (.int .i64 ((rd_T51 t168 0).f1))) (fun _ hk => hk.2) (.int .i64 ((rd_T51 t168 0).f2))) (fun _ hk => hk.2) (.int .i64 ((rd_T51 t168 0).f3))) (fun _ hk => hk.2) (.int .i64 ((rd_T51 t168 0).f4))) (fun _ hk => ⟨hk.1.1.1, ⟨hk.1.1.2, hk.1.2⟩⟩)⟩
                have n2_ : Aside0 (Kd.R k51 51 ((((((((((w75.setCell ⟨go71, 0, none⟩ (.int .i64 ((rd_T51 t168 (ji67)).f0))).setCell ⟨go71, 1, none⟩ (.int .i64 ((rd_T51 t168 (ji67)).f1))).setCell ⟨go71, 2, none⟩ (.int .i64 ((rd_T51 t168 (ji67)).f2))).setCell ⟨go71, 3, none⟩ (.int .i64 ((rd_T51 t168 (ji67)).f3))).setCell ⟨go71, 4, none⟩ (.int .i64 ((rd_T51 t168 (ji67)).f4))).setCell ⟨go71, ((ji67) : Int).toNat * 5, none⟩ (.int .i64 ((rd_T51 t168 0).f0))).setCell ⟨go71, ((ji67) : Int).toNat * 5 + 1, none⟩ (.int .i64 ((rd_T51 t168 0).f1))).setCell ⟨go71, ((ji67) : Int).toNat * 5 + 2, none⟩ (.int .i64 ((rd_T51 t168 0).f2))).setCell ⟨go71, ((ji67) : Int).toNat * 5 + 3, none⟩ (.int .i64 ((rd_T51 t168 0).f3))).setCell ⟨go71, ((ji67) : Int).toNat * 5 + 4, none⟩ (.int .i64 ((rd_T51 t168 0).f4))) w.heap.size (fun k_ => (w.heap.size ≤ k_) ∧ some k_ ≠ (.slice Ao50 t160.length co50 : Value).ownBlock ∧ some k_ ≠ (.slice (some ⟨go71, 0, none⟩) t168.length co76 : Value).ownBlock) v164 x13_46) := ⟨by (with_reducible repeat (first | apply Kd.R_alloc | apply Kd.R_drewN | apply Kd.R_drew)); exact Kd.R_mono (Kd.R_far (p := ⟨go71, ((ji67) : Int).toNat * 5 + 4, none⟩) (Kd.R_far (p := ⟨go71, ((ji67) : Int).toNat * 5 + 3, none⟩) (Kd.R_far (p := ⟨go71, ((ji67) : Int).toNat * 5 + 2, none⟩) (Kd.R_far (p := ⟨go71, ((ji67) : Int).toNat * 5 + 1, none⟩) (Kd.R_far (p := ⟨go71, ((ji67) : Int).toNat * 5, none⟩) (Kd.R_far (p := ⟨go71, 4, none⟩) (Kd.R_far (p := ⟨go71, 3, none⟩) (Kd.R_far (p := ⟨go71, 2, none⟩) (Kd.R_far (p := ⟨go71, 1, none⟩) (Kd.R_far (p := ⟨go71, 0, none⟩) (Kd.R_mono HO_13.out (fun k_ hk => (⟨hk, fun e_ => hk.2 (by rw [e_]; rfl)⟩ : _ ∧ k_ ≠ go71))) (fun _ hk => hk.2) (.int .i64 ((rd_T51 t168 (ji67)).f0))) (fun _ hk => hk.2) (.int .i64 ((rd_T51 t168 (ji67)).f1))) (fun _ hk => hk.2) (.int .i64 ((rd_T51 t168 (ji67)).f2))) (fun _ hk => hk.2) (.int .i64 ((rd_T51 t168 (ji67)).f3))) (fun _ hk => hk.2) (.int .i64 ((rd_T51 t168 (ji67)).f4))) (fun _ hk => hk.2) (.int .i64 ((rd_T51 t168 0).f0))) (fun _ hk => hk.2) (.int .i64 ((rd_T51 t168 0).f1))) (fun _ hk => hk.2) (.int .i64 ((rd_T51 t168 0).f2))) (fun _ hk => hk.2) (.int .i64 ((rd_T51 t168 0).f3))) (fun _ hk => hk.2) (.int .i64 ((rd_T51 t168 0).f4))) (fun _ hk => ⟨hk.1.1.1, ⟨hk.1.1.2, hk.1.2⟩⟩)⟩
                have n3_ : Aside0 (Kd.V k51 51 ((((((((((w75.setCell ⟨go71, 0, none⟩ (.int .i64 ((rd_T51 t168 (ji67)).f0))).setCell ⟨go71, 1, none⟩ (.int .i64 ((rd_T51 t168 (ji67)).f1))).setCell ⟨go71, 2, none⟩ (.int .i64 ((rd_T51 t168 (ji67)).f2))).setCell ⟨go71, 3, none⟩ (.int .i64 ((rd_T51 t168 (ji67)).f3))).setCell ⟨go71, 4, none⟩ (.int .i64 ((rd_T51 t168 (ji67)).f4))).setCell ⟨go71, ((ji67) : Int).toNat * 5, none⟩ (.int .i64 ((rd_T51 t168 0).f0))).setCell ⟨go71, ((ji67) : Int).toNat * 5 + 1, none⟩ (.int .i64 ((rd_T51 t168 0).f1))).setCell ⟨go71, ((ji67) : Int).toNat * 5 + 2, none⟩ (.int .i64 ((rd_T51 t168 0).f2))).setCell ⟨go71, ((ji67) : Int).toNat * 5 + 3, none⟩ (.int .i64 ((rd_T51 t168 0).f3))).setCell ⟨go71, ((ji67) : Int).toNat * 5 + 4, none⟩ (.int .i64 ((rd_T51 t168 0).f4))) w.heap.size (fun k_ => (P0_2_ k_ ∨ w.heap.size ≤ k_) ∧ some k_ ≠ (u7 : Value).ownBlock ∧ some k_ ≠ (.slice Ao50 t160.length co50 : Value).ownBlock ∧ some k_ ≠ (v164 : Value).ownBlock ∧ some k_ ≠ (.slice (some ⟨go71, 0, none⟩) t168.length co76 : Value).ownBlock ∧ k_ ≠ gb134) (.slice Ao53 x135002_5.length co53) x135002_5) := ⟨by (with_reducible repeat (first | apply Kd.V_alloc | apply Kd.V_drewN | apply Kd.V_drew)); exact Kd.V_mono (Kd.V_far (p := ⟨go71, ((ji67) : Int).toNat * 5 + 4, none⟩) (Kd.V_far (p := ⟨go71, ((ji67) : Int).toNat * 5 + 3, none⟩) (Kd.V_far (p := ⟨go71, ((ji67) : Int).toNat * 5 + 2, none⟩) (Kd.V_far (p := ⟨go71, ((ji67) : Int).toNat * 5 + 1, none⟩) (Kd.V_far (p := ⟨go71, ((ji67) : Int).toNat * 5, none⟩) (Kd.V_far (p := ⟨go71, 4, none⟩) (Kd.V_far (p := ⟨go71, 3, none⟩) (Kd.V_far (p := ⟨go71, 2, none⟩) (Kd.V_far (p := ⟨go71, 1, none⟩) (Kd.V_far (p := ⟨go71, 0, none⟩) (Kd.V_mono HO_135002.out (fun k_ hk => (⟨hk, fun e_ => hk.2 (by rw [e_]; rfl)⟩ : _ ∧ k_ ≠ go71))) (fun _ hk => hk.2) (.int .i64 ((rd_T51 t168 (ji67)).f0))) (fun _ hk => hk.2) (.int .i64 ((rd_T51 t168 (ji67)).f1))) (fun _ hk => hk.2) (.int .i64 ((rd_T51 t168 (ji67)).f2))) (fun _ hk => hk.2) (.int .i64 ((rd_T51 t168 (ji67)).f3))) (fun _ hk => hk.2) (.int .i64 ((rd_T51 t168 (ji67)).f4))) (fun _ hk => hk.2) (.int .i64 ((rd_T51 t168 0).f0))) (fun _ hk => hk.2) (.int .i64 ((rd_T51 t168 0).f1))) (fun _ hk => hk.2) (.int .i64 ((rd_T51 t168 0).f2))) (fun _ hk => hk.2) (.int .i64 ((rd_T51 t168 0).f3))) (fun _ hk => hk.2) (.int .i64 ((rd_T51 t168 0).f4))) (fun _ hk => ⟨hk.1.1.1, ⟨hk.1.1.2.1, ⟨hk.1.1.2.2.1, ⟨hk.1.1.2.2.2.1, ⟨hk.1.2, hk.1.1.2.2.2.2⟩⟩⟩⟩⟩)⟩
                have n4_ : Aside0 (Kd.R k51 51 ((((((((((w75.setCell ⟨go71, 0, none⟩ (.int .i64 ((rd_T51 t168 (ji67)).f0))).setCell ⟨go71, 1, none⟩ (.int .i64 ((rd_T51 t168 (ji67)).f1))).setCell ⟨go71, 2, none⟩ (.int .i64 ((rd_T51 t168 (ji67)).f2))).setCell ⟨go71, 3, none⟩ (.int .i64 ((rd_T51 t168 (ji67)).f3))).setCell ⟨go71, 4, none⟩ (.int .i64 ((rd_T51 t168 (ji67)).f4))).setCell ⟨go71, ((ji67) : Int).toNat * 5, none⟩ (.int .i64 ((rd_T51 t168 0).f0))).setCell ⟨go71, ((ji67) : Int).toNat * 5 + 1, none⟩ (.int .i64 ((rd_T51 t168 0).f1))).setCell ⟨go71, ((ji67) : Int).toNat * 5 + 2, none⟩ (.int .i64 ((rd_T51 t168 0).f2))).setCell ⟨go71, ((ji67) : Int).toNat * 5 + 3, none⟩ (.int .i64 ((rd_T51 t168 0).f3))).setCell ⟨go71, ((ji67) : Int).toNat * 5 + 4, none⟩ (.int .i64 ((rd_T51 t168 0).f4))) w.heap.size (fun k_ => (w.heap.size ≤ k_) ∧ some k_ ≠ (.slice Ao50 t160.length co50 : Value).ownBlock ∧ some k_ ≠ (v164 : Value).ownBlock) (.slice (some ⟨go71, 0, none⟩) t168.length co76) y174) := ⟨by (with_reducible repeat (first | apply Kd.R_alloc | apply Kd.R_drewN | apply Kd.R_drew)); exact Kd.R_mono HQ78.out (fun _ hk => ⟨hk.1.1.1, ⟨hk.1.2, hk.2⟩⟩)⟩
                have n5_ : Aside0 (((((((((((w75.setCell ⟨go71, 0, none⟩ (.int .i64 ((rd_T51 t168 (ji67)).f0))).setCell ⟨go71, 1, none⟩ (.int .i64 ((rd_T51 t168 (ji67)).f1))).setCell ⟨go71, 2, none⟩ (.int .i64 ((rd_T51 t168 (ji67)).f2))).setCell ⟨go71, 3, none⟩ (.int .i64 ((rd_T51 t168 (ji67)).f3))).setCell ⟨go71, 4, none⟩ (.int .i64 ((rd_T51 t168 (ji67)).f4))).setCell ⟨go71, ((ji67) : Int).toNat * 5, none⟩ (.int .i64 ((rd_T51 t168 0).f0))).setCell ⟨go71, ((ji67) : Int).toNat * 5 + 1, none⟩ (.int .i64 ((rd_T51 t168 0).f1))).setCell ⟨go71, ((ji67) : Int).toNat * 5 + 2, none⟩ (.int .i64 ((rd_T51 t168 0).f2))).setCell ⟨go71, ((ji67) : Int).toNat * 5 + 3, none⟩ (.int .i64 ((rd_T51 t168 0).f3))).setCell ⟨go71, ((ji67) : Int).toNat * 5 + 4, none⟩ (.int .i64 ((rd_T51 t168 0).f4))).heap[gb134]? = some (.cells #[.slice A0_0 l0_0.length c0_0, .slice (some ad159) l0_1.length c0_1, .slice Ao53 x135002_5.length co53] 26 (0, 0))) := ⟨by (with_reducible repeat (first | refine blk_drewN ?_ _ | refine blk_drew ?_ | refine blk_alloc ?_ _)); refine blk_far ?_ (by have h_ := Kd.R_ne HO170.out BK134.out (by decide); intro e_; exact h_ (by rw [e_]; rfl)) _; (with_reducible repeat (first | refine blk_drewN ?_ _ | refine blk_drew ?_ | refine blk_alloc ?_ _)); refine blk_far ?_ (by have h_ := Kd.R_ne HO170.out BK134.out (by decide); intro e_; exact h_ (by rw [e_]; rfl)) _; (with_reducible repeat (first | refine blk_drewN ?_ _ | refine blk_drew ?_ | refine blk_alloc ?_ _)); refine blk_far ?_ (by have h_ := Kd.R_ne HO170.out BK134.out (by decide); intro e_; exact h_ (by rw [e_]; rfl)) _; (with_reducible repeat (first | refine blk_drewN ?_ _ | refine blk_drew ?_ | refine blk_alloc ?_ _)); refine blk_far ?_ (by have h_ := Kd.R_ne HO170.out BK134.out (by decide); intro e_; exact h_ (by rw [e_]; rfl)) _; (with_reducible repeat (first | refine blk_drewN ?_ _ | refine blk_drew ?_ | refine blk_alloc ?_ _)); refine blk_far ?_ (by have h_ := Kd.R_ne HO170.out BK134.out (by decide); intro e_; exact h_ (by rw [e_]; rfl)) _; (with_reducible repeat (first | refine blk_drewN ?_ _ | refine blk_drew ?_ | refine blk_alloc ?_ _)); refine blk_far ?_ (by have h_ := Kd.R_ne HO170.out BK134.out (by decide); intro e_; exact h_ (by rw [e_]; rfl)) _; (with_reducible repeat (first | refine blk_drewN ?_ _ | refine blk_drew ?_ | refine blk_alloc ?_ _)); refine blk_far ?_ (by have h_ := Kd.R_ne HO170.out BK134.out (by decide); intro e_; exact h_ (by rw [e_]; rfl)) _; (with_reducible repeat (first | refine blk_drewN ?_ _ | refine blk_drew ?_ | refine blk_alloc ?_ _)); refine blk_far ?_ (by have h_ := Kd.R_ne HO170.out BK134.out (by decide); intro e_; exact h_ (by rw [e_]; rfl)) _; (with_reducible repeat (first | refine blk_drewN ?_ _ | refine blk_drew ?_ | refine blk_alloc ?_ _)); refine blk_far ?_ (by have h_ := Kd.R_ne HO170.out BK134.out (by decide); intro e_; exact h_ (by rw [e_]; rfl)) _; (with_reducible repeat (first | refine blk_drewN ?_ _ | refine blk_drew ?_ | refine blk_alloc ?_ _)); refine blk_far ?_ (by have h_ := Kd.R_ne HO170.out BK134.out (by decide); intro e_; exact h_ (by rw [e_]; rfl)) _; (with_reducible repeat (first | refine blk_drewN ?_ _ | refine blk_drew ?_ | refine blk_alloc ?_ _)); exact BK134.out⟩
                have n6_ : Aside0 (Below w.heap.size w ((((((((((w75.setCell ⟨go71, 0, none⟩ (.int .i64 ((rd_T51 t168 (ji67)).f0))).setCell ⟨go71, 1, none⟩ (.int .i64 ((rd_T51 t168 (ji67)).f1))).setCell ⟨go71, 2, none⟩ (.int .i64 ((rd_T51 t168 (ji67)).f2))).setCell ⟨go71, 3, none⟩ (.int .i64 ((rd_T51 t168 (ji67)).f3))).setCell ⟨go71, 4, none⟩ (.int .i64 ((rd_T51 t168 (ji67)).f4))).setCell ⟨go71, ((ji67) : Int).toNat * 5, none⟩ (.int .i64 ((rd_T51 t168 0).f0))).setCell ⟨go71, ((ji67) : Int).toNat * 5 + 1, none⟩ (.int .i64 ((rd_T51 t168 0).f1))).setCell ⟨go71, ((ji67) : Int).toNat * 5 + 2, none⟩ (.int .i64 ((rd_T51 t168 0).f2))).setCell ⟨go71, ((ji67) : Int).toNat * 5 + 3, none⟩ (.int .i64 ((rd_T51 t168 0).f3))).setCell ⟨go71, ((ji67) : Int).toNat * 5 + 4, none⟩ (.int .i64 ((rd_T51 t168 0).f4)))) := ⟨by repeat (first | (with_reducible first | exact HB.out | apply below_alloc | apply pw_below_drewN | apply below_drew1 | refine below_set ?_ GB71.out | refine below_set ?_ GB71.out | refine below_set ?_ GB71.out | refine below_set ?_ GB71.out | refine below_set ?_ GB71.out | refine below_set ?_ GB71.out | refine below_set ?_ GB71.out | refine below_set ?_ GB71.out | refine below_set ?_ GB71.out | refine below_set ?_ GB71.out | refine below_set ?_ GE134.out) | exact HB.out)⟩
                (try clear HO_7)
                (try clear HO_12)
                (try clear HO_13)
                (try clear HO_135002)
                (try clear HO170)
                (try clear BK134)
                (try clear HB)
                generalize ((((((((((w75.setCell ⟨go71, 0, none⟩ (.int .i64 ((rd_T51 t168 (ji67)).f0))).setCell ⟨go71, 1, none⟩ (.int .i64 ((rd_T51 t168 (ji67)).f1))).setCell ⟨go71, 2, none⟩ (.int .i64 ((rd_T51 t168 (ji67)).f2))).setCell ⟨go71, 3, none⟩ (.int .i64 ((rd_T51 t168 (ji67)).f3))).setCell ⟨go71, 4, none⟩ (.int .i64 ((rd_T51 t168 (ji67)).f4))).setCell ⟨go71, ((ji67) : Int).toNat * 5, none⟩ (.int .i64 ((rd_T51 t168 0).f0))).setCell ⟨go71, ((ji67) : Int).toNat * 5 + 1, none⟩ (.int .i64 ((rd_T51 t168 0).f1))).setCell ⟨go71, ((ji67) : Int).toNat * 5 + 2, none⟩ (.int .i64 ((rd_T51 t168 0).f2))).setCell ⟨go71, ((ji67) : Int).toNat * 5 + 3, none⟩ (.int .i64 ((rd_T51 t168 0).f3))).setCell ⟨go71, ((ji67) : Int).toNat * 5 + 4, none⟩ (.int .i64 ((rd_T51 t168 0).f4))) = w79 at n0_ n1_ n2_ n3_ n4_ n5_ n6_ ⊢
                have HO_7 := n0_
                have HO_12 := n1_
                have HO_13 := n2_
                have HO_135002 := n3_
                have HO170 := n4_
                have BK134 := n5_
                have HB := n6_
                clear n0_ n1_ n2_ n3_ n4_ n5_ n6_
                obtain ⟨Ao80, co80, eo80⟩ := Kd.R_slice HO_13.out
                subst eo80
                try go_wp2_with (first | ((with_reducible refine gate_dst (N := 138) rfl ?_); refine Kd.N_lit (Kd.slice 51 k51) _ 24 ?hg (N' := 138) ?hd (xs := ([t160, x13_46, y174] : List (List (S51)))) (inner := [.slice Ao50 t160.length co50, .slice Ao80 x13_46.length co80, .slice (some ⟨go71, 0, none⟩) t168.length co76]) (ok := (fun k_ => (P0_2_ k_ ∨ w.heap.size ≤ k_) ∧ some k_ ≠ (u7 : Value).ownBlock ∧ k_ ≠ gb134)) (okp := (fun k_ => (P0_2_ k_ ∨ w.heap.size ≤ k_) ∧ some k_ ≠ (u7 : Value).ownBlock ∧ k_ ≠ gb134)) ?hr ?hp (fun _ hk => hk) ((show ∀ k_, w79.heap.size ≤ k_ → (fun k_ => (P0_2_ k_ ∨ w.heap.size ≤ k_) ∧ some k_ ≠ (u7 : Value).ownBlock ∧ k_ ≠ gb134) k_ from fun k_ hk => ⟨(.inr (Nat.le_trans (below_size (zw1 HB.out GE134.out)) hk)), Kd.fresh' (Kd.N_lt (by (with_reducible repeat (first | apply Kd.N_alloc | apply Kd.N_drewN | apply Kd.N_drew)); exact HO_7.out)) k_ hk, Kd.freshB (g := gb134) (o := .cells #[.slice A0_0 l0_0.length c0_0, .slice (some ad159) l0_1.length c0_1, .slice Ao53 x135002_5.length co53] 26 (0, 0)) (zb BK134.out) k_ hk⟩) _ (Nat.le_refl _)) (Below.refl _ _) (Nat.le_refl _) (by simp) ?_; (case hd => rfl); (case hg => rfl); (case hr => first | (go_simp; done) | (go_simp; rfl)); (case hp => exact (Reps.one (show Kd.FK (Kd.slice 51 k51) _ _ t160 [.slice Ao50 t160.length co50] from (Kd.FK_slice_mk (Kd.R_reads' (Kd.R_mono (ok' := (fun k_ => (P0_2_ k_ ∨ w.heap.size ≤ k_) ∧ some k_ ≠ (u7 : Value).ownBlock ∧ k_ ≠ gb134)) (Kd.R_types (Kd.R_apart' (HO_12.out) (Kd.N_typed HO_7.out) (by decide)) BK134.out (by decide)) (fun k_ hk => ⟨(.inr (hk.1.1.1)), ⟨hk.1.2, hk.2⟩⟩))).2.1 (Kd.R_F (Kd.R_mono (ok' := (fun k_ => (P0_2_ k_ ∨ w.heap.size ≤ k_) ∧ some k_ ≠ (u7 : Value).ownBlock ∧ k_ ≠ gb134)) (Kd.R_types (Kd.R_apart' (HO_12.out) (Kd.N_typed HO_7.out) (by decide)) BK134.out (by decide)) (fun k_ hk => ⟨(.inr (hk.1.1.1)), ⟨hk.1.2, hk.2⟩⟩))))) (Reps.one (show Kd.FK (Kd.slice 51 k51) _ _ x13_46 [.slice Ao80 x13_46.length co80] from (Kd.FK_slice_mk (Kd.R_reads' (Kd.R_mono (ok' := (fun k_ => (P0_2_ k_ ∨ w.heap.size ≤ k_) ∧ some k_ ≠ (u7 : Value).ownBlock ∧ k_ ≠ gb134)) (Kd.R_types (Kd.R_apart' (HO_13.out) (Kd.N_typed HO_7.out) (by decide)) BK134.out (by decide)) (fun k_ hk => ⟨(.inr (hk.1.1.1)), ⟨hk.1.2, hk.2⟩⟩))).2.1 (Kd.R_F (Kd.R_mono (ok' := (fun k_ => (P0_2_ k_ ∨ w.heap.size ≤ k_) ∧ some k_ ≠ (u7 : Value).ownBlock ∧ k_ ≠ gb134)) (Kd.R_types (Kd.R_apart' (HO_13.out) (Kd.N_typed HO_7.out) (by decide)) BK134.out (by decide)) (fun k_ hk => ⟨(.inr (hk.1.1.1)), ⟨hk.1.2, hk.2⟩⟩))))) (Reps.one (show Kd.FK (Kd.slice 51 k51) _ _ y174 [.slice (some ⟨go71, 0, none⟩) t168.length co76] from (by have e_ := (Kd.R_reads' HO170.out).1; have h_ := HO170.out; rw [e_] at h_ ⊢; exact (Kd.FK_slice_mk (Kd.R_reads' (Kd.R_mono (ok' := (fun k_ => (P0_2_ k_ ∨ w.heap.size ≤ k_) ∧ some k_ ≠ (u7 : Value).ownBlock ∧ k_ ≠ gb134)) (Kd.R_types (Kd.R_apart' (h_) (Kd.N_typed HO_7.out) (by decide)) BK134.out (by decide)) (fun k_ hk => ⟨(.inr (hk.1.1.1)), ⟨hk.1.2, hk.2⟩⟩))).2.1 (Kd.R_F (Kd.R_mono (ok' := (fun k_ => (P0_2_ k_ ∨ w.heap.size ≤ k_) ∧ some k_ ≠ (u7 : Value).ownBlock ∧ k_ ≠ gb134)) (Kd.R_types (Kd.R_apart' (h_) (Kd.N_typed HO_7.out) (by decide)) BK134.out (by decide)) (fun k_ hk => ⟨(.inr (hk.1.1.1)), ⟨hk.1.2, hk.2⟩⟩)))))) (Reps.none _ _))))); intro v176 w81 ho82 hb hg_ hnew_; clear hg_ hnew_; (first | rw [← Ny175.out] at ho82 | (simp only [Int.reduceToNat] at ho82; rw [← Ny175.out] at ho82)); have n0_ := Aside0.mk (Kd.N_elder' (by (with_reducible repeat (first | apply Kd.N_alloc | apply Kd.N_drewN | apply Kd.N_drew)); exact HO_7.out) (Kd.N_base ho82) hb); have n1_ := Aside0.mk (Kd.V_elder' (by (with_reducible repeat (first | apply Kd.V_alloc | apply Kd.V_drewN | apply Kd.V_drew)); exact HO_135002.out) (Kd.N_base ho82) hb); have HO177 := Aside0.mk (Kd.N_lower ho82 (below_size (zw1 HB.out GE134.out))); have n3_ := Aside0.mk (zbb BK134.out hb); have n4_ := Aside0.mk (below_step (zw1 HB.out GE134.out) hb); clear HO_7 HO_135002 BK134 HB HO170 HO_12 HO_13; have HO_7 := n0_; have HO_135002 := n1_; have BK134 := n3_; have HB := n4_; clear n0_ n1_ n3_ n4_; clear hb ho82; obtain ⟨Ao84, co84, eo84⟩ := Kd.N_slice HO177.out; subst eo84) | ((with_reducible refine gate_builtin (b := .append) (xs := #[.tmp 134, .tmp 138]) rfl ?_); at_builtin; refine Kd.N_append_rows (Kd.slice 51 k51) (w0 := w) w.heap.size rfl (.tmp 134) (.tmp 138) 29 24 (.slice none 0 0) 24 rfl Try.underlying29 info24 rfl (by decide) (by omega) u7 x7_5 y175 _ _ _ (fun k_ => (P0_2_ k_ ∨ w.heap.size ≤ k_) ∧ k_ ≠ gb134) (fun k_ => ((fun k_ => (P0_2_ k_ ∨ w.heap.size ≤ k_) ∧ k_ ≠ gb134)) k_ ∧ some k_ ≠ (u7 : Value).ownBlock) rfl rfl ?aO ?aR (fun _ hk => hk) ?aF ?aB ?aS ?aL ?_; (case aR => exact (by skip; exact Kd.N_F (Kd.N_mono (ok' := (fun k_ => ((fun k_ => (P0_2_ k_ ∨ w.heap.size ≤ k_) ∧ k_ ≠ gb134)) k_ ∧ some k_ ≠ (u7 : Value).ownBlock)) (HO177.out) (fun k_ hk => ⟨⟨hk.1, hk.2.2⟩, hk.2.1⟩)))); (case aB => exact (zw1 HB.out GE134.out)); (case aF => exact (fun k_ hk => ⟨(.inr (Nat.le_trans (below_size (zw1 HB.out GE134.out)) hk)), Kd.freshB (g := gb134) (o := .cells #[.slice A0_0 l0_0.length c0_0, .slice (some ad159) l0_1.length c0_1, .slice Ao53 x135002_5.length co53] 26 (0, 0)) (zb BK134.out) k_ hk⟩)); (case aO => exact (by (with_reducible repeat (first | apply Kd.N_alloc | apply Kd.N_drewN | apply Kd.N_drew)); exact Kd.N_mono HO_7.out (fun _ hk => ⟨hk.1.1, hk.1.2.2.2.2⟩))); (case aS => exact (below_size (zw1 HB.out GE134.out))); (case aL => have := LMc73.out; omega); intro v179 w83 ho hb hg hat; rw [← Ny178.out] at ho; have n0_ := Aside0.mk (Kd.V_afterv (ok := (fun k_ => (P0_2_ k_ ∨ w.heap.size ≤ k_) ∧ some k_ ≠ (.slice Ao84 y175.length co84 : Value).ownBlock ∧ k_ ≠ gb134)) (by (with_reducible repeat (first | apply Kd.V_alloc | apply Kd.V_drewN | apply Kd.V_drew)); exact Kd.V_mono HO_135002.out (fun _ hk => ⟨⟨hk.1.1, ⟨hk.2, hk.1.2.2.2.2.2⟩⟩, hk.1.2.1⟩)) hg hat); have n1_ := Aside0.mk (blk_grown (g := gb134) (o := .cells #[.slice A0_0 l0_0.length c0_0, .slice (some ad159) l0_1.length c0_1, .slice Ao53 x135002_5.length co53] 26 (0, 0)) (zb BK134.out) hg (Kd.N_ne HO_7.out BK134.out (by decide))); have n2_ := Aside0.mk (Kd.N_afterv (ok := (fun k_ => (P0_2_ k_ ∨ w.heap.size ≤ k_) ∧ k_ ≠ gb134)) (by (with_reducible repeat (first | apply Kd.N_alloc | apply Kd.N_drewN | apply Kd.N_drew)); exact Kd.N_mono HO177.out (fun _ hk => ⟨⟨hk.1, hk.2.2⟩, hk.2.1⟩)) hg hat); have n3_ := Aside0.mk (hb); have HO180 := Aside0.mk (ho); clear HO_135002 BK134 HO177 HB HO_7; have HO_135002 := n0_; have BK134 := n1_; have HO177 := n2_; have HB := n3_; clear n0_ n1_ n2_ n3_; clear ho hb hg hat))
                go_roundg kj46
                case measure => have := HJ3.out; have := HK2.out; have := HJ16.out; have := HK4.out; have := HK5.out; have := HJ23.out; have := HJ46.out; omega
                case rel => exact ⟨(y178), (wrap64 (x11_5 + 1)), (x135002_5), (.slice Ao53 x135002_5.length co53), (zr), H', ⟨by have := HJ3.out; have := HK2.out; have := HJ16.out; have := HK4.out; have := HK5.out; have := HJ23.out; have := HJ46.out; omega⟩, ⟨by (with_reducible repeat (first | apply Kd.N_alloc | apply Kd.N_drewN | apply Kd.N_drew)); exact HO180.out⟩, ⟨by (with_reducible repeat (first | apply Kd.V_alloc | apply Kd.V_drewN | apply Kd.V_drew)); exact Kd.V_mono HO_135002.out (fun _ hk => ⟨hk.1.1, ⟨hk.2, hk.1.2.2⟩⟩)⟩, ⟨zb BK134.out⟩, ⟨zw1 HB.out GE134.out⟩⟩
       ·replace c21 := Bool.eq_false_iff.mpr c21
        subst c21
        have H1 : (if 0 ≤ a1 then (if (a1 : Int).toNat ≤ 7036874417766 then ((some (([[], (List.replicate (a1 : Int).toNat z51)] : List (List (S51))) : List (List (S51)))).bind fun y146 => (if x7_2.length + y146.length < 5864062014805 then (some (x7_2 ++ y146)) else (none))) else (none)) else (none)) = some r := by rw [if_neg (show ¬ (false = true) by decide)] at H; exact H
        clear H
        have H := H1
        clear H1
        by_cases c85 : 0 ≤ a1
        ·rw [if_pos c85] at H
         have c85b0 := eq_true c85
         have c85b1 : decide (0 ≤ a1) = true := decide_eq_true c85
         clear c85
         by_cases c86 : (a1 : Int).toNat ≤ 7036874417766
         rotate_left
         ·rw [if_neg c86] at H
          exact absurd H (by simp)
         rw [if_pos c86] at H
         have c86b0 := eq_true c86
         have c86b1 : decide ((a1 : Int).toNat ≤ 7036874417766) = true := decide_eq_true c86
         clear c86
         obtain ⟨y143, hy143⟩ : ∃ y_ : List (S51), y_ = (List.replicate (a1 : Int).toNat z51) := ⟨_, rfl⟩
         replace H : ((some (([[], y143] : List (List (S51))) : List (List (S51)))).bind fun y146 => (if x7_2.length + y146.length < 5864062014805 then (some (x7_2 ++ y146)) else (none))) = some r := by first | (rw [hy143]; with_reducible exact H) | (have H2_ := (Option.bind_some _ _).symm.trans H; rw [hy143]; with_reducible exact H2_) | (have H2_ := (Option.bind_some _ _).symm.trans H; with_reducible exact H2_) | with_reducible exact H | (rw [hy143]; exact H) | exact H
         have Ny143 := Aside0.mk hy143
         clear hy143
         obtain ⟨y146, hy146⟩ : ∃ y_ : List (List (S51)), y_ = (([[], y143] : List (List (S51)))) := ⟨_, rfl⟩
         replace H : (if x7_2.length + y146.length < 5864062014805 then (some (x7_2 ++ y146)) else (none)) = some r := by first | (rw [hy146]; with_reducible exact H) | (have H2_ := (Option.bind_some _ _).symm.trans H; rw [hy146]; with_reducible exact H2_) | (have H2_ := (Option.bind_some _ _).symm.trans H; with_reducible exact H2_) | with_reducible exact H | (rw [hy146]; exact H) | exact H
         have Ny146 := Aside0.mk hy146
         clear hy146
         by_cases c87 : x7_2.length + y146.length < 5864062014805
         rotate_left
         ·rw [if_neg c87] at H
          exact absurd H (by simp)
         rw [if_pos c87] at H
         have LMc87 := Aside0.mk c87
         clear c87
         obtain ⟨y149, hy149⟩ : ∃ y_ : List (List (S51)), y_ = (x7_2 ++ y146) := ⟨_, rfl⟩
         replace H : (some y149) = some r := by first | (rw [hy149]; with_reducible exact H) | (have H2_ := (Option.bind_some _ _).symm.trans H; rw [hy149]; with_reducible exact H2_) | (have H2_ := (Option.bind_some _ _).symm.trans H; with_reducible exact H2_) | with_reducible exact H | (rw [hy149]; exact H) | exact H
         have Ny149 := Aside0.mk hy149
         clear hy149
         obtain rfl := Option.some.inj H
         go_wp2_with (first | ((with_reducible refine gate_dst (N := 142) rfl ?_); refine Kd.R_make k51 _ 51 rfl (N := 142) rfl 24 _ _ rfl a1 rfl rfl Try.underlying24 (.agg #[(.int .i64 0), (.int .i64 0), (.int .i64 0), (.int .i64 0), (.int .i64 0)]) 40 info51 rfl (by decide) (by omega) z51 (ok := fun _ => True) (okp := fun _ => True) (k51_mkM _ _ _ z51 ) (fun _ hk => hk) trivial (zdec) (Nat.le_trans (Nat.mul_le_mul_right _ (zdec : a1.toNat ≤ 7036874417766)) (by omega)) (Below.refl _ _) (Nat.le_refl _) ?_; intro v144 w88 ho89 hb hg_ hnew_; clear hg_ hnew_; (first | rw [← Ny143.out] at ho89 | (simp only [Int.reduceToNat] at ho89; rw [← Ny143.out] at ho89)); have n0_ := Aside0.mk (Kd.N_elder' (by (with_reducible repeat (first | apply Kd.N_alloc | apply Kd.N_drewN | apply Kd.N_drew)); exact HO_7.out) (Kd.R_base ho89) hb); have n1_ := Aside0.mk (Kd.V_elder' (by (with_reducible repeat (first | apply Kd.V_alloc | apply Kd.V_drewN | apply Kd.V_drew)); exact HO_135002.out) (Kd.R_base ho89) hb); have HO145 := Aside0.mk (Kd.R_lower (Kd.R_newM (M := fun k_ => (w.heap.size ≤ k_)) ho89 (below_size (zw1 HB.out GE134.out)) (fun k_ h_ => h_)) (below_size (zw1 HB.out GE134.out))); have n3_ := Aside0.mk (zbb BK134.out hb); have n4_ := Aside0.mk (below_step (zw1 HB.out GE134.out) hb); clear HO_7 HO_135002 BK134 HB; have HO_7 := n0_; have HO_135002 := n1_; have BK134 := n3_; have HB := n4_; clear n0_ n1_ n3_ n4_; clear hb ho89; obtain ⟨Ao90, co90, eo90⟩ := Kd.R_slice HO145.out; subst eo90) | ((with_reducible refine gate_dst (N := 143) rfl ?_); refine Kd.N_lit (Kd.slice 51 k51) _ 24 ?hg (N' := 143) ?hd (xs := ([[], y143] : List (List (S51)))) (inner := [.slice none 0 0, .slice Ao90 y143.length co90]) (ok := (fun k_ => (P0_2_ k_ ∨ w.heap.size ≤ k_) ∧ some k_ ≠ (u7 : Value).ownBlock ∧ k_ ≠ gb134)) (okp := (fun k_ => (P0_2_ k_ ∨ w.heap.size ≤ k_) ∧ some k_ ≠ (u7 : Value).ownBlock ∧ k_ ≠ gb134)) ?hr ?hp (fun _ hk => hk) ((show ∀ k_, w88.heap.size ≤ k_ → (fun k_ => (P0_2_ k_ ∨ w.heap.size ≤ k_) ∧ some k_ ≠ (u7 : Value).ownBlock ∧ k_ ≠ gb134) k_ from fun k_ hk => ⟨(.inr (Nat.le_trans (below_size (zw1 HB.out GE134.out)) hk)), Kd.fresh' (Kd.N_lt (by (with_reducible repeat (first | apply Kd.N_alloc | apply Kd.N_drewN | apply Kd.N_drew)); exact HO_7.out)) k_ hk, Kd.freshB (g := gb134) (o := .cells #[.slice A0_0 l0_0.length c0_0, .slice A0_1 l0_1.length c0_1, u135002] 26 (0, 0)) (zb BK134.out) k_ hk⟩) _ (Nat.le_refl _)) (Below.refl _ _) (Nat.le_refl _) (by simp) ?_; (case hd => rfl); (case hg => rfl); (case hr => first | (go_simp; done) | (go_simp; rfl)); (case hp => exact (Reps.one (show Kd.FK (Kd.slice 51 k51) _ _ [] [.slice none 0 0] from (Kd.FK_slice_mk (Nat.le_refl _) (Kd.F_nil _ _ _))) (Reps.one (show Kd.FK (Kd.slice 51 k51) _ _ y143 [.slice Ao90 y143.length co90] from (Kd.FK_slice_mk (Kd.R_reads' (Kd.R_mono (ok' := (fun k_ => (P0_2_ k_ ∨ w.heap.size ≤ k_) ∧ some k_ ≠ (u7 : Value).ownBlock ∧ k_ ≠ gb134)) (Kd.R_types (Kd.R_apart' (HO145.out) (Kd.N_typed HO_7.out) (by decide)) BK134.out (by decide)) (fun k_ hk => ⟨(.inr (hk.1.1.1)), ⟨hk.1.2, hk.2⟩⟩))).2.1 (Kd.R_F (Kd.R_mono (ok' := (fun k_ => (P0_2_ k_ ∨ w.heap.size ≤ k_) ∧ some k_ ≠ (u7 : Value).ownBlock ∧ k_ ≠ gb134)) (Kd.R_types (Kd.R_apart' (HO145.out) (Kd.N_typed HO_7.out) (by decide)) BK134.out (by decide)) (fun k_ hk => ⟨(.inr (hk.1.1.1)), ⟨hk.1.2, hk.2⟩⟩))))) (Reps.none _ _)))); intro v147 w91 ho92 hb hg_ hnew_; clear hg_ hnew_; (first | rw [← Ny146.out] at ho92 | (simp only [Int.reduceToNat] at ho92; rw [← Ny146.out] at ho92)); have n0_ := Aside0.mk (Kd.N_elder' (by (with_reducible repeat (first | apply Kd.N_alloc | apply Kd.N_drewN | apply Kd.N_drew)); exact HO_7.out) (Kd.N_base ho92) hb); have n1_ := Aside0.mk (Kd.V_elder' (by (with_reducible repeat (first | apply Kd.V_alloc | apply Kd.V_drewN | apply Kd.V_drew)); exact HO_135002.out) (Kd.N_base ho92) hb); have HO148 := Aside0.mk (Kd.N_lower ho92 (below_size (zw1 HB.out GE134.out))); have n3_ := Aside0.mk (zbb BK134.out hb); have n4_ := Aside0.mk (below_step (zw1 HB.out GE134.out) hb); clear HO_7 HO_135002 BK134 HB HO145; have HO_7 := n0_; have HO_135002 := n1_; have BK134 := n3_; have HB := n4_; clear n0_ n1_ n3_ n4_; clear hb ho92; obtain ⟨Ao94, co94, eo94⟩ := Kd.N_slice HO148.out; subst eo94) | ((with_reducible refine gate_builtin (b := .append) (xs := #[.tmp 140, .tmp 143]) rfl ?_); at_builtin; refine Kd.N_append_rows (Kd.slice 51 k51) (w0 := w) w.heap.size rfl (.tmp 140) (.tmp 143) 29 24 (.slice none 0 0) 24 rfl Try.underlying29 info24 rfl (by decide) (by omega) u7 x7_2 y146 _ _ _ (fun k_ => (P0_2_ k_ ∨ w.heap.size ≤ k_) ∧ k_ ≠ gb134) (fun k_ => ((fun k_ => (P0_2_ k_ ∨ w.heap.size ≤ k_) ∧ k_ ≠ gb134)) k_ ∧ some k_ ≠ (u7 : Value).ownBlock) rfl rfl ?aO ?aR (fun _ hk => hk) ?aF ?aB ?aS ?aL ?_; (case aR => exact (by skip; exact Kd.N_F (Kd.N_mono (ok' := (fun k_ => ((fun k_ => (P0_2_ k_ ∨ w.heap.size ≤ k_) ∧ k_ ≠ gb134)) k_ ∧ some k_ ≠ (u7 : Value).ownBlock)) (HO148.out) (fun k_ hk => ⟨⟨hk.1, hk.2.2⟩, hk.2.1⟩)))); (case aB => exact (zw1 HB.out GE134.out)); (case aF => exact (fun k_ hk => ⟨(.inr (Nat.le_trans (below_size (zw1 HB.out GE134.out)) hk)), Kd.freshB (g := gb134) (o := .cells #[.slice A0_0 l0_0.length c0_0, .slice A0_1 l0_1.length c0_1, u135002] 26 (0, 0)) (zb BK134.out) k_ hk⟩)); (case aO => exact (by (with_reducible repeat (first | apply Kd.N_alloc | apply Kd.N_drewN | apply Kd.N_drew)); exact Kd.N_mono HO_7.out (fun _ hk => ⟨hk.1.1.1, hk.1.1.2⟩))); (case aS => exact (below_size (zw1 HB.out GE134.out))); (case aL => have := LMc87.out; omega); intro v150 w93 ho hb hg hat; rw [← Ny149.out] at ho; have n0_ := Aside0.mk (Kd.V_afterv (ok := (fun k_ => (P0_2_ k_ ∨ w.heap.size ≤ k_) ∧ some k_ ≠ (.slice Ao94 y146.length co94 : Value).ownBlock ∧ k_ ≠ gb134)) (by (with_reducible repeat (first | apply Kd.V_alloc | apply Kd.V_drewN | apply Kd.V_drew)); exact Kd.V_mono HO_135002.out (fun _ hk => ⟨⟨hk.1.1.1, ⟨hk.2, hk.1.1.2.2⟩⟩, hk.1.1.2.1⟩)) hg hat); have n1_ := Aside0.mk (blk_grown (g := gb134) (o := .cells #[.slice A0_0 l0_0.length c0_0, .slice A0_1 l0_1.length c0_1, u135002] 26 (0, 0)) (zb BK134.out) hg (Kd.N_ne HO_7.out BK134.out (by decide))); have n2_ := Aside0.mk (Kd.N_afterv (ok := (fun k_ => (P0_2_ k_ ∨ w.heap.size ≤ k_) ∧ k_ ≠ gb134)) (by (with_reducible repeat (first | apply Kd.N_alloc | apply Kd.N_drewN | apply Kd.N_drew)); exact Kd.N_mono HO148.out (fun _ hk => ⟨⟨hk.1, hk.2.2⟩, hk.2.1⟩)) hg hat); have n3_ := Aside0.mk (hb); have HO151 := Aside0.mk (ho); clear HO_135002 BK134 HO148 HB HO_7; have HO_135002 := n0_; have BK134 := n1_; have HO148 := n2_; have HB := n3_; clear n0_ n1_ n2_ n3_; clear ho hb hg hat))
         go_ret
         exact ⟨_, ze, by (with_reducible repeat (first | apply Kd.N_alloc | apply Kd.N_drewN | apply Kd.N_drew)); exact Kd.N_mono HO151.out (fun _ hk => hk.1), zw1 HB.out GE134.out⟩
        ·rw [if_neg c85] at H
         exact absurd H (by simp)

end Go.Proofs.Ythhdmanpjeminaa.H
