-- Written by this session's own edition of the print.
import Derived.Test.YtjoplkillkhiaaaLx0
import Derived.Test.YtjoplkillkhiaaaUSq
import Derived.Test.YtjoplkillkhiaaaUSq2
import Derived.Test.YtjoplkillkhiaaaUSq3
namespace Go.Proofs.Ytjoplkillkhiaaa.L
open Go.RowKit Go.Proofs.Ytjoplkillkhiaaa.Fn Go.Proofs.YtjoplkillkhiaaaW.PrintWords Go.Proofs.YtjoplkillkhiaaaW.PrintLast Go.Proofs.YtjoplkillkhiaaaW.PrintMore
attribute [local go_sem] max2_int min2_int max_two min_two max_three min_three max_four min_four   -- for this text's walks alone
set_option linter.unusedVariables false
set_option linter.unusedSimpArgs false

/-! cellarref0_EqStrings -/
def cellarref0_EqStrings.l0 : Nat → List ByteArray → List ByteArray → Int → Option (Bool)
 | 0, _, _, _ => none
 | k + 1, x0, x1, x5 => if x5 < (x0.length : Int) then (if 0 ≤ x5 then (if x5 < (x1.length : Int) then (if (rdOf ByteArray.empty x0 x5).toList = (rdOf ByteArray.empty x1 x5).toList then (cellarref0_EqStrings.l0 k x0 x1 (wrap64 (x5 + 1))) else (some false)) else (none)) else (none)) else (some true)
def cellarref0_EqStrings.f (k : Nat) (l0 : List ByteArray) (l1 : List ByteArray) : Option (Bool) := if (l0.length : Int) = (l1.length : Int) then (cellarref0_EqStrings.l0 k l0 l1 0) else (some false)
theorem cellarref0_EqStrings.mono_l : ∀ k, (∀ y0 y1 y2, LeO (cellarref0_EqStrings.l0 k y0 y1 y2) (cellarref0_EqStrings.l0 (k + 1) y0 y1 y2))
 | 0 => fun _ _ _ r h => by simp [cellarref0_EqStrings.l0] at h
 | k + 1 => by
  have ih0 := cellarref0_EqStrings.mono_l k
  ·intro y0 y1 y2
   unfold cellarref0_EqStrings.l0
   repeat' first
   | (with_reducible apply ih0)
   | (with_reducible apply LeO.refl)
   | (with_reducible apply LeO.none)
   | (with_reducible refine LeO.ite ?_ ?_)
   | (with_reducible refine LeO.bind ?_ (fun _ => ?_))
theorem cellarref0_EqStrings.mono : ∀ a0 a1 k, LeO (cellarref0_EqStrings.f k a0 a1) (cellarref0_EqStrings.f (k + 1) a0 a1) := by
 intro a0 a1 k
 have ih0 := cellarref0_EqStrings.mono_l k
 unfold cellarref0_EqStrings.f
 repeat' first
   | (with_reducible apply ih0)
   | (with_reducible apply LeO.refl)
   | (with_reducible apply LeO.none)
   | (with_reducible refine LeO.ite ?_ ?_)
   | (with_reducible refine LeO.bind ?_ (fun _ => ?_))
set_option maxHeartbeats 8000000 in
set_option maxRecDepth 100000 in
theorem cellarref0_EqStrings.calls (k : Nat) (A0 : Option Addr) (c0 : Nat) (l0 : List ByteArray) (A1 : Option Addr) (c1 : Nat) (l1 : List ByteArray) (r : Bool) (w : World) (hr0 : Kd.C Kd.string w A0 l0.length l0) (hc0 : l0.length ≤ c0) (hr1 : Kd.C Kd.string w A1 l1.length l1) (hc1 : l1.length ≤ c1) (h : cellarref0_EqStrings.f k l0 l1 = some r) :
  Calls Try.prog 93 #[.slice A0 l0.length c0, .slice A1 l1.length c1] w fun e w' => e = .returned (.bool r) ∧ Drawn0 w w' := by
 have HR0 := Aside0.mk hr0
 have HC0 := Aside0.mk hc0
 clear hr0 hc0
 have HR1 := Aside0.mk hr1
 have HC1 := Aside0.mk hc1
 clear hr1 hc1
 have H : (if (l0.length : Int) = (l1.length : Int) then (cellarref0_EqStrings.l0 k l0 l1 0) else (some false)) = some r := h
 clear h
 by_cases c3 : (l0.length : Int) = (l1.length : Int)
 ·rw [if_pos c3] at H
  have c3b0 : ((l0.length : Int) == (l1.length : Int)) = true := beq_iff_eq.mpr c3
  have c3b1 : ((l0.length : Int) != (l1.length : Int)) = false := bne_eq_false_iff_eq.mpr c3
  have c3b2 : (l0.length == l1.length) = true := by first | simpa using c3 | (simp at c3 ⊢; omega)
  clear c3
  have H' := Aside0.mk H
  clear H
  go_enter Try.func93, Try.ntmps93
  go_wp2
  repeat (go_quiet (fail); try go_wp2)
  go_loopg [5] k (fun kq v5 w' => ∃ (x5_1 : Int), v5 = .int .i64 x5_1 ∧ Aside0 (cellarref0_EqStrings.l0 kq l0 l1 x5_1 = some r) ∧ Aside0 (kq ≤ k) ∧ Drawn0 w w')
  case atStart => exact ⟨(0), (zr), H', ⟨Nat.le_refl _⟩, by repeat (first | exact Drawn0.refl _ | apply Drawn0.step)⟩
  case round =>
   clear H'
   try clear c1; try clear p2; try clear c3; try clear c3b0; try clear c3b1; try clear c3b2
   obtain ⟨x5_1, rfl, HA, HK1, ⟨m1, rfl⟩⟩ := hrel
   cases gk with
   | zero => exact absurd HA.out (by simp [cellarref0_EqStrings.l0])
   | succ k1 =>
    have H := HA.out
    clear HA
    simp only [cellarref0_EqStrings.l0] at H
    by_cases c4 : x5_1 < (l0.length : Int)
    rotate_left
    ·rw [if_neg c4] at H
     have c4b0 : decide (x5_1 < (l0.length : Int)) = false := decide_eq_false c4
     clear c4
     obtain rfl := Option.some.inj H
     go_wp2
     repeat (go_quiet (fail); try go_wp2)
     go_ret
     exact ⟨zr, by repeat (first | exact Drawn0.refl _ | apply Drawn0.step)⟩
    rw [if_pos c4] at H
    have c4b0 : decide (x5_1 < (l0.length : Int)) = true := decide_eq_true c4
    clear c4
    by_cases c5 : 0 ≤ x5_1
    rotate_left
    ·rw [if_neg c5] at H
     exact absurd H (by simp)
    rw [if_pos c5] at H
    have c5b0 : decide (0 ≤ x5_1) = true := decide_eq_true c5
    clear c5
    by_cases c6 : x5_1 < (l1.length : Int)
    rotate_left
    ·rw [if_neg c6] at H
     exact absurd H (by simp)
    rw [if_pos c6] at H
    have c6b0 : decide (x5_1 < (l1.length : Int)) = true := decide_eq_true c6
    clear c6
    by_cases c7 : (rdOf ByteArray.empty l0 x5_1).toList = (rdOf ByteArray.empty l1 x5_1).toList
    rotate_left
    ·rw [if_neg c7] at H
     have c7b0 : ((rdOf ByteArray.empty l0 x5_1).toList == (rdOf ByteArray.empty l1 x5_1).toList) = false := beq_eq_false_iff_ne.mpr c7
     have c7b1 : ((rdOf ByteArray.empty l0 x5_1).toList != (rdOf ByteArray.empty l1 x5_1).toList) = true := bne_iff_ne.mpr c7
     obtain rfl := Option.some.inj H
     have p344 : 0 ≤ (x5_1 : Int) := zdec
     have q344 : x5_1 < (l0.length : Int) := zdec
     obtain ⟨ad344, e344, hx344_0⟩ := Kd.at_string HR0.out x5_1 p344 q344
     cases e344
     replace p344 := eq_true p344
     replace q344 := eq_true q344
     have p345 : 0 ≤ (x5_1 : Int) := zdec
     have q345 : x5_1 < (l1.length : Int) := zdec
     obtain ⟨ad345, e345, hx345_0⟩ := Kd.at_string HR1.out x5_1 p345 q345
     cases e345
     replace p345 := eq_true p345
     replace q345 := eq_true q345
     go_wp2
     repeat (go_quiet (fail); try go_wp2)
     go_ret
     exact ⟨zr, by repeat (first | exact Drawn0.refl _ | apply Drawn0.step)⟩
    rw [if_pos c7] at H
    have c7b0 : ((rdOf ByteArray.empty l0 x5_1).toList == (rdOf ByteArray.empty l1 x5_1).toList) = true := beq_iff_eq.mpr c7
    have c7b1 : ((rdOf ByteArray.empty l0 x5_1).toList != (rdOf ByteArray.empty l1 x5_1).toList) = false := bne_eq_false_iff_eq.mpr c7
    clear c7
    have H' := Aside0.mk H
    clear H
    have p344 : 0 ≤ (x5_1 : Int) := zdec
    have q344 : x5_1 < (l0.length : Int) := zdec
    obtain ⟨ad344, e344, hx344_0⟩ := Kd.at_string HR0.out x5_1 p344 q344
    cases e344
    replace p344 := eq_true p344
    replace q344 := eq_true q344
    have p345 : 0 ≤ (x5_1 : Int) := zdec
    have q345 : x5_1 < (l1.length : Int) := zdec
    obtain ⟨ad345, e345, hx345_0⟩ := Kd.at_string HR1.out x5_1 p345 q345
    cases e345
    replace p345 := eq_true p345
    replace q345 := eq_true q345
    go_wp2
    repeat (go_quiet (fail); try go_wp2)
    go_roundg k1
    case measure => have := HK1.out; omega
    case rel => exact ⟨(wrap64 (x5_1 + 1)), (zr), H', ⟨by have := HK1.out; omega⟩, by repeat (first | exact Drawn0.refl _ | apply Drawn0.step)⟩
 ·rw [if_neg c3] at H
  have c3b0 : ((l0.length : Int) == (l1.length : Int)) = false := beq_eq_false_iff_ne.mpr c3
  have c3b1 : ((l0.length : Int) != (l1.length : Int)) = true := bne_iff_ne.mpr c3
  have c3b2 : (l0.length == l1.length) = false := by first | simpa using c3 | (simp at c3 ⊢; omega)
  obtain rfl := Option.some.inj H
  go_enter Try.func93, Try.ntmps93
  go_wp2
  repeat (go_quiet (fail); try go_wp2)
  go_ret
  exact ⟨zr, by repeat (first | exact Drawn0.refl _ | apply Drawn0.step)⟩

/-! cellarref0_EqNumbers -/
def cellarref0_EqNumbers.l0 : Nat → List Int → List Int → Int → Option (Bool)
 | 0, _, _, _ => none
 | k + 1, x0, x1, x5 => if x5 < (x0.length : Int) then (if 0 ≤ x5 then (if x5 < (x1.length : Int) then (if (rd x0 x5) = (rd x1 x5) then (cellarref0_EqNumbers.l0 k x0 x1 (wrap64 (x5 + 1))) else (some false)) else (none)) else (none)) else (some true)
def cellarref0_EqNumbers.f (k : Nat) (l0 : List Int) (l1 : List Int) : Option (Bool) := if (l0.length : Int) = (l1.length : Int) then (cellarref0_EqNumbers.l0 k l0 l1 0) else (some false)
theorem cellarref0_EqNumbers.mono_l : ∀ k, (∀ y0 y1 y2, LeO (cellarref0_EqNumbers.l0 k y0 y1 y2) (cellarref0_EqNumbers.l0 (k + 1) y0 y1 y2))
 | 0 => fun _ _ _ r h => by simp [cellarref0_EqNumbers.l0] at h
 | k + 1 => by
  have ih0 := cellarref0_EqNumbers.mono_l k
  ·intro y0 y1 y2
   unfold cellarref0_EqNumbers.l0
   repeat' first
   | (with_reducible apply ih0)
   | (with_reducible apply LeO.refl)
   | (with_reducible apply LeO.none)
   | (with_reducible refine LeO.ite ?_ ?_)
   | (with_reducible refine LeO.bind ?_ (fun _ => ?_))
theorem cellarref0_EqNumbers.mono : ∀ a0 a1 k, LeO (cellarref0_EqNumbers.f k a0 a1) (cellarref0_EqNumbers.f (k + 1) a0 a1) := by
 intro a0 a1 k
 have ih0 := cellarref0_EqNumbers.mono_l k
 unfold cellarref0_EqNumbers.f
 repeat' first
   | (with_reducible apply ih0)
   | (with_reducible apply LeO.refl)
   | (with_reducible apply LeO.none)
   | (with_reducible refine LeO.ite ?_ ?_)
   | (with_reducible refine LeO.bind ?_ (fun _ => ?_))
set_option maxHeartbeats 8000000 in
set_option maxRecDepth 100000 in
theorem cellarref0_EqNumbers.calls (k : Nat) (A0 : Option Addr) (c0 : Nat) (l0 : List Int) (A1 : Option Addr) (c1 : Nat) (l1 : List Int) (r : Bool) (w : World) (hr0 : Kd.C (Kd.int .i64) w A0 l0.length l0) (hc0 : l0.length ≤ c0) (hr1 : Kd.C (Kd.int .i64) w A1 l1.length l1) (hc1 : l1.length ≤ c1) (h : cellarref0_EqNumbers.f k l0 l1 = some r) :
  Calls Try.prog 94 #[.slice A0 l0.length c0, .slice A1 l1.length c1] w fun e w' => e = .returned (.bool r) ∧ Drawn0 w w' := by
 have HR0 := Aside0.mk hr0
 have HC0 := Aside0.mk hc0
 clear hr0 hc0
 have HR1 := Aside0.mk hr1
 have HC1 := Aside0.mk hc1
 clear hr1 hc1
 have H : (if (l0.length : Int) = (l1.length : Int) then (cellarref0_EqNumbers.l0 k l0 l1 0) else (some false)) = some r := h
 clear h
 by_cases c3 : (l0.length : Int) = (l1.length : Int)
 ·rw [if_pos c3] at H
  have c3b0 : ((l0.length : Int) == (l1.length : Int)) = true := beq_iff_eq.mpr c3
  have c3b1 : ((l0.length : Int) != (l1.length : Int)) = false := bne_eq_false_iff_eq.mpr c3
  have c3b2 : (l0.length == l1.length) = true := by first | simpa using c3 | (simp at c3 ⊢; omega)
  clear c3
  have H' := Aside0.mk H
  clear H
  go_enter Try.func94, Try.ntmps94
  go_wp2
  repeat (go_quiet (fail); try go_wp2)
  go_loopg [5] k (fun kq v5 w' => ∃ (x5_1 : Int), v5 = .int .i64 x5_1 ∧ Aside0 (cellarref0_EqNumbers.l0 kq l0 l1 x5_1 = some r) ∧ Aside0 (kq ≤ k) ∧ Drawn0 w w')
  case atStart => exact ⟨(0), (zr), H', ⟨Nat.le_refl _⟩, by repeat (first | exact Drawn0.refl _ | apply Drawn0.step)⟩
  case round =>
   clear H'
   try clear c1; try clear p2; try clear c3; try clear c3b0; try clear c3b1; try clear c3b2
   obtain ⟨x5_1, rfl, HA, HK1, ⟨m1, rfl⟩⟩ := hrel
   cases gk with
   | zero => exact absurd HA.out (by simp [cellarref0_EqNumbers.l0])
   | succ k1 =>
    have H := HA.out
    clear HA
    simp only [cellarref0_EqNumbers.l0] at H
    by_cases c4 : x5_1 < (l0.length : Int)
    rotate_left
    ·rw [if_neg c4] at H
     have c4b0 : decide (x5_1 < (l0.length : Int)) = false := decide_eq_false c4
     clear c4
     obtain rfl := Option.some.inj H
     go_wp2
     repeat (go_quiet (fail); try go_wp2)
     go_ret
     exact ⟨zr, by repeat (first | exact Drawn0.refl _ | apply Drawn0.step)⟩
    rw [if_pos c4] at H
    have c4b0 : decide (x5_1 < (l0.length : Int)) = true := decide_eq_true c4
    clear c4
    by_cases c5 : 0 ≤ x5_1
    rotate_left
    ·rw [if_neg c5] at H
     exact absurd H (by simp)
    rw [if_pos c5] at H
    have c5b0 : decide (0 ≤ x5_1) = true := decide_eq_true c5
    clear c5
    by_cases c6 : x5_1 < (l1.length : Int)
    rotate_left
    ·rw [if_neg c6] at H
     exact absurd H (by simp)
    rw [if_pos c6] at H
    have c6b0 : decide (x5_1 < (l1.length : Int)) = true := decide_eq_true c6
    clear c6
    by_cases c7 : (rd l0 x5_1) = (rd l1 x5_1)
    rotate_left
    ·rw [if_neg c7] at H
     have c7b0 : ((rd l0 x5_1) == (rd l1 x5_1)) = false := beq_eq_false_iff_ne.mpr c7
     have c7b1 : ((rd l0 x5_1) != (rd l1 x5_1)) = true := bne_iff_ne.mpr c7
     obtain rfl := Option.some.inj H
     have p346 : 0 ≤ (x5_1 : Int) := zdec
     have q346 : x5_1 < (l0.length : Int) := zdec
     obtain ⟨ad346, e346, hx346_0⟩ := Kd.at_int HR0.out x5_1 p346 q346
     cases e346
     replace p346 := eq_true p346
     replace q346 := eq_true q346
     have p347 : 0 ≤ (x5_1 : Int) := zdec
     have q347 : x5_1 < (l1.length : Int) := zdec
     obtain ⟨ad347, e347, hx347_0⟩ := Kd.at_int HR1.out x5_1 p347 q347
     cases e347
     replace p347 := eq_true p347
     replace q347 := eq_true q347
     go_wp2
     repeat (go_quiet (fail); try go_wp2)
     go_ret
     exact ⟨zr, by repeat (first | exact Drawn0.refl _ | apply Drawn0.step)⟩
    rw [if_pos c7] at H
    have c7b0 : ((rd l0 x5_1) == (rd l1 x5_1)) = true := beq_iff_eq.mpr c7
    have c7b1 : ((rd l0 x5_1) != (rd l1 x5_1)) = false := bne_eq_false_iff_eq.mpr c7
    clear c7
    have H' := Aside0.mk H
    clear H
    have p346 : 0 ≤ (x5_1 : Int) := zdec
    have q346 : x5_1 < (l0.length : Int) := zdec
    obtain ⟨ad346, e346, hx346_0⟩ := Kd.at_int HR0.out x5_1 p346 q346
    cases e346
    replace p346 := eq_true p346
    replace q346 := eq_true q346
    have p347 : 0 ≤ (x5_1 : Int) := zdec
    have q347 : x5_1 < (l1.length : Int) := zdec
    obtain ⟨ad347, e347, hx347_0⟩ := Kd.at_int HR1.out x5_1 p347 q347
    cases e347
    replace p347 := eq_true p347
    replace q347 := eq_true q347
    go_wp2
    repeat (go_quiet (fail); try go_wp2)
    go_roundg k1
    case measure => have := HK1.out; omega
    case rel => exact ⟨(wrap64 (x5_1 + 1)), (zr), H', ⟨by have := HK1.out; omega⟩, by repeat (first | exact Drawn0.refl _ | apply Drawn0.step)⟩
 ·rw [if_neg c3] at H
  have c3b0 : ((l0.length : Int) == (l1.length : Int)) = false := beq_eq_false_iff_ne.mpr c3
  have c3b1 : ((l0.length : Int) != (l1.length : Int)) = true := bne_iff_ne.mpr c3
  have c3b2 : (l0.length == l1.length) = false := by first | simpa using c3 | (simp at c3 ⊢; omega)
  obtain rfl := Option.some.inj H
  go_enter Try.func94, Try.ntmps94
  go_wp2
  repeat (go_quiet (fail); try go_wp2)
  go_ret
  exact ⟨zr, by repeat (first | exact Drawn0.refl _ | apply Drawn0.step)⟩

/-! cellarref0_EqType -/
def cellarref0_EqType.f (k : Nat) (a0_0 : Int) (a0_1 : Int) (a0_2 : Int) (l0_3 : List ByteArray) (l0_4 : List Int) (a1_0 : Int) (a1_1 : Int) (a1_2 : Int) (l1_3 : List ByteArray) (l1_4 : List Int) : Option (Bool) := if a0_0 = a1_0 then (if a0_1 = a1_1 then (if a0_2 = a1_2 then ((cellarref0_EqStrings.f k l0_3 l1_3).bind fun t350 => (if t350 = true then ((cellarref0_EqNumbers.f k l0_4 l1_4).bind fun t351 => (some t351)) else (some false))) else (some false)) else (some false)) else (some false)
theorem cellarref0_EqType.mono : ∀ a0 a1 a2 a3 a4 a5 a6 a7 a8 a9 k, LeO (cellarref0_EqType.f k a0 a1 a2 a3 a4 a5 a6 a7 a8 a9) (cellarref0_EqType.f (k + 1) a0 a1 a2 a3 a4 a5 a6 a7 a8 a9) := by
 intro a0 a1 a2 a3 a4 a5 a6 a7 a8 a9 k
 unfold cellarref0_EqType.f
 repeat' first
   | (with_reducible apply cellarref0_EqNumbers.mono)
   | (with_reducible apply cellarref0_EqStrings.mono)
   | (with_reducible apply LeO.refl)
   | (with_reducible apply LeO.none)
   | (with_reducible refine LeO.ite ?_ ?_)
   | (with_reducible refine LeO.bind ?_ (fun _ => ?_))
set_option maxHeartbeats 8000000 in
set_option maxRecDepth 100000 in
theorem cellarref0_EqType.calls (k : Nat) (a0_0 : Int) (a0_1 : Int) (a0_2 : Int) (A0_3 : Option Addr) (c0_3 : Nat) (l0_3 : List ByteArray) (A0_4 : Option Addr) (c0_4 : Nat) (l0_4 : List Int) (a1_0 : Int) (a1_1 : Int) (a1_2 : Int) (A1_3 : Option Addr) (c1_3 : Nat) (l1_3 : List ByteArray) (A1_4 : Option Addr) (c1_4 : Nat) (l1_4 : List Int) (r : Bool) (w : World) (hr0_3 : Kd.C Kd.string w A0_3 l0_3.length l0_3) (hc0_3 : l0_3.length ≤ c0_3) (hr0_4 : Kd.C (Kd.int .i64) w A0_4 l0_4.length l0_4) (hc0_4 : l0_4.length ≤ c0_4) (hr1_3 : Kd.C Kd.string w A1_3 l1_3.length l1_3) (hc1_3 : l1_3.length ≤ c1_3) (hr1_4 : Kd.C (Kd.int .i64) w A1_4 l1_4.length l1_4) (hc1_4 : l1_4.length ≤ c1_4) (h : cellarref0_EqType.f k a0_0 a0_1 a0_2 l0_3 l0_4 a1_0 a1_1 a1_2 l1_3 l1_4 = some r) :
  Calls Try.prog 61 #[.agg #[.int .i64 a0_0, .int .i64 a0_1, .int .i64 a0_2, .slice A0_3 l0_3.length c0_3, .slice A0_4 l0_4.length c0_4], .agg #[.int .i64 a1_0, .int .i64 a1_1, .int .i64 a1_2, .slice A1_3 l1_3.length c1_3, .slice A1_4 l1_4.length c1_4]] w fun e w' => e = .returned (.bool r) ∧ Below w.heap.size w w' := by
 have hu31 := Try.underlying31
 have HR0_3 := Aside0.mk hr0_3
 have HC0_3 := Aside0.mk hc0_3
 clear hr0_3 hc0_3
 have HR0_4 := Aside0.mk hr0_4
 have HC0_4 := Aside0.mk hc0_4
 clear hr0_4 hc0_4
 have HR1_3 := Aside0.mk hr1_3
 have HC1_3 := Aside0.mk hc1_3
 clear hr1_3 hc1_3
 have HR1_4 := Aside0.mk hr1_4
 have HC1_4 := Aside0.mk hc1_4
 clear hr1_4 hc1_4
 have HB := Aside0.mk (Below.refl w.heap.size w)
 have H : (if a0_0 = a1_0 then (if a0_1 = a1_1 then (if a0_2 = a1_2 then ((cellarref0_EqStrings.f k l0_3 l1_3).bind fun t350 => (if t350 = true then ((cellarref0_EqNumbers.f k l0_4 l1_4).bind fun t351 => (some t351)) else (some false))) else (some false)) else (some false)) else (some false)) = some r := h
 clear h
 by_cases c3 : a0_0 = a1_0
 ·rw [if_pos c3] at H
  have c3b0 : (a0_0 == a1_0) = true := beq_iff_eq.mpr c3
  have c3b1 : (a0_0 != a1_0) = false := bne_eq_false_iff_eq.mpr c3
  clear c3
  by_cases c4 : a0_1 = a1_1
  rotate_left
  ·rw [if_neg c4] at H
   have c4b0 : (a0_1 == a1_1) = false := beq_eq_false_iff_ne.mpr c4
   have c4b1 : (a0_1 != a1_1) = true := bne_iff_ne.mpr c4
   obtain rfl := Option.some.inj H
   go_enter Try.func61, Try.ntmps61
   go_wp2_with (first | ((with_reducible refine gate_dst (N := 2) rfl ?_); refine zbox (N := 2) (cs := #[.int .i64 a0_0, .int .i64 a0_1, .int .i64 a0_2, .slice A0_3 l0_3.length c0_3, .slice A0_4 l0_4.length c0_4]) (t := 31) ?_; intro gb348 hg w24 hbox hb; have n0_ := Aside0.mk (below_step (zw0 HB.out) hb); have BK348 := Aside0.mk (hbox); have GW348 := Aside0.mk (zg hg (below_size (zw0 HB.out))); have GE348 := GW348; clear HB; have HB := n0_; clear n0_; clear hb hbox hg) | ((with_reducible refine gate_dst (N := 3) rfl ?_); refine zbox (N := 3) (cs := #[.int .i64 a1_0, .int .i64 a1_1, .int .i64 a1_2, .slice A1_3 l1_3.length c1_3, .slice A1_4 l1_4.length c1_4]) (t := 31) ?_; intro gb349 hg w25 hbox hb; have n0_ := Aside0.mk (zbb BK348.out hb); have n1_ := Aside0.mk (below_step (zw1 HB.out GE348.out) hb); have BK349 := Aside0.mk (hbox); have GW349 := Aside0.mk (zg hg (below_size (zw1 HB.out GE348.out))); have GE349 := GW349; have NB348_349 := Aside0.mk (zlt hg BK348.out); have NB349_348 := Aside0.mk (zgt hg BK348.out); clear BK348 HB; have BK348 := n0_; have HB := n1_; clear n0_ n1_; clear hb hbox hg; have hnb26 := NB348_349.out; have hnc26 := NB349_348.out; have hcz27_0 := zc BK348.out 0; have hcz27_1 := zc BK348.out 1; have hcz27_2 := zc BK348.out 2; have hcz27_3 := zc BK348.out 3; have hcz27_4 := zc BK348.out 4; have hfz27_0 := blk_frozen BK348.out 0; have hfz27_1 := blk_frozen BK348.out 1; have hfz27_2 := blk_frozen BK348.out 2; have hfz27_3 := blk_frozen BK348.out 3; have hfz27_4 := blk_frozen BK348.out 4; have hcz28_0 := zc BK349.out 0; have hcz28_1 := zc BK349.out 1; have hcz28_2 := zc BK349.out 2; have hcz28_3 := zc BK349.out 3; have hcz28_4 := zc BK349.out 4; have hfz28_0 := blk_frozen BK349.out 0; have hfz28_1 := blk_frozen BK349.out 1; have hfz28_2 := blk_frozen BK349.out 2; have hfz28_3 := blk_frozen BK349.out 3; have hfz28_4 := blk_frozen BK349.out 4))
   go_ret
   exact ⟨ze, zw2 HB.out GE348.out GE349.out⟩
  rw [if_pos c4] at H
  have c4b0 : (a0_1 == a1_1) = true := beq_iff_eq.mpr c4
  have c4b1 : (a0_1 != a1_1) = false := bne_eq_false_iff_eq.mpr c4
  clear c4
  by_cases c5 : a0_2 = a1_2
  rotate_left
  ·rw [if_neg c5] at H
   have c5b0 : (a0_2 == a1_2) = false := beq_eq_false_iff_ne.mpr c5
   have c5b1 : (a0_2 != a1_2) = true := bne_iff_ne.mpr c5
   obtain rfl := Option.some.inj H
   go_enter Try.func61, Try.ntmps61
   go_wp2_with (first | ((with_reducible refine gate_dst (N := 2) rfl ?_); refine zbox (N := 2) (cs := #[.int .i64 a0_0, .int .i64 a0_1, .int .i64 a0_2, .slice A0_3 l0_3.length c0_3, .slice A0_4 l0_4.length c0_4]) (t := 31) ?_; intro gb348 hg w19 hbox hb; have n0_ := Aside0.mk (below_step (zw0 HB.out) hb); have BK348 := Aside0.mk (hbox); have GW348 := Aside0.mk (zg hg (below_size (zw0 HB.out))); have GE348 := GW348; clear HB; have HB := n0_; clear n0_; clear hb hbox hg) | ((with_reducible refine gate_dst (N := 3) rfl ?_); refine zbox (N := 3) (cs := #[.int .i64 a1_0, .int .i64 a1_1, .int .i64 a1_2, .slice A1_3 l1_3.length c1_3, .slice A1_4 l1_4.length c1_4]) (t := 31) ?_; intro gb349 hg w20 hbox hb; have n0_ := Aside0.mk (zbb BK348.out hb); have n1_ := Aside0.mk (below_step (zw1 HB.out GE348.out) hb); have BK349 := Aside0.mk (hbox); have GW349 := Aside0.mk (zg hg (below_size (zw1 HB.out GE348.out))); have GE349 := GW349; have NB348_349 := Aside0.mk (zlt hg BK348.out); have NB349_348 := Aside0.mk (zgt hg BK348.out); clear BK348 HB; have BK348 := n0_; have HB := n1_; clear n0_ n1_; clear hb hbox hg; have hnb21 := NB348_349.out; have hnc21 := NB349_348.out; have hcz22_0 := zc BK348.out 0; have hcz22_1 := zc BK348.out 1; have hcz22_2 := zc BK348.out 2; have hcz22_3 := zc BK348.out 3; have hcz22_4 := zc BK348.out 4; have hfz22_0 := blk_frozen BK348.out 0; have hfz22_1 := blk_frozen BK348.out 1; have hfz22_2 := blk_frozen BK348.out 2; have hfz22_3 := blk_frozen BK348.out 3; have hfz22_4 := blk_frozen BK348.out 4; have hcz23_0 := zc BK349.out 0; have hcz23_1 := zc BK349.out 1; have hcz23_2 := zc BK349.out 2; have hcz23_3 := zc BK349.out 3; have hcz23_4 := zc BK349.out 4; have hfz23_0 := blk_frozen BK349.out 0; have hfz23_1 := blk_frozen BK349.out 1; have hfz23_2 := blk_frozen BK349.out 2; have hfz23_3 := blk_frozen BK349.out 3; have hfz23_4 := blk_frozen BK349.out 4))
   go_ret
   exact ⟨ze, zw2 HB.out GE348.out GE349.out⟩
  rw [if_pos c5] at H
  have c5b0 : (a0_2 == a1_2) = true := beq_iff_eq.mpr c5
  have c5b1 : (a0_2 != a1_2) = false := bne_eq_false_iff_eq.mpr c5
  clear c5
  replace H := Option.bind_eq_some_iff.mp H
  obtain ⟨t350, A60, H⟩ := H
  replace H : (if t350 = true then ((cellarref0_EqNumbers.f k l0_4 l1_4).bind fun t351 => (some t351)) else (some false)) = some r := H
  have A6 := Aside0.mk A60
  clear A60
  by_cases c7 : t350 = true
  rotate_left
  ·replace c7 := Bool.eq_false_iff.mpr c7
   subst c7
   have H1 : (some false) = some r := by rw [if_neg (show ¬ (false = true) by decide)] at H; exact H
   clear H
   have H := H1
   clear H1
   obtain rfl := Option.some.inj H
   go_enter Try.func61, Try.ntmps61
   go_wp2_with (first | ((with_reducible refine gate_dst (N := 2) rfl ?_); refine zbox (N := 2) (cs := #[.int .i64 a0_0, .int .i64 a0_1, .int .i64 a0_2, .slice A0_3 l0_3.length c0_3, .slice A0_4 l0_4.length c0_4]) (t := 31) ?_; intro gb348 hg w14 hbox hb; have n0_ := Aside0.mk (below_step (zw0 HB.out) hb); have BK348 := Aside0.mk (hbox); have GW348 := Aside0.mk (zg hg (below_size (zw0 HB.out))); have GE348 := GW348; clear HB; have HB := n0_; clear n0_; clear hb hbox hg) | ((with_reducible refine gate_dst (N := 3) rfl ?_); refine zbox (N := 3) (cs := #[.int .i64 a1_0, .int .i64 a1_1, .int .i64 a1_2, .slice A1_3 l1_3.length c1_3, .slice A1_4 l1_4.length c1_4]) (t := 31) ?_; intro gb349 hg w15 hbox hb; have n0_ := Aside0.mk (zbb BK348.out hb); have n1_ := Aside0.mk (below_step (zw1 HB.out GE348.out) hb); have BK349 := Aside0.mk (hbox); have GW349 := Aside0.mk (zg hg (below_size (zw1 HB.out GE348.out))); have GE349 := GW349; have NB348_349 := Aside0.mk (zlt hg BK348.out); have NB349_348 := Aside0.mk (zgt hg BK348.out); clear BK348 HB; have BK348 := n0_; have HB := n1_; clear n0_ n1_; clear hb hbox hg; have hnb16 := NB348_349.out; have hnc16 := NB349_348.out; have hcz17_0 := zc BK348.out 0; have hcz17_1 := zc BK348.out 1; have hcz17_2 := zc BK348.out 2; have hcz17_3 := zc BK348.out 3; have hcz17_4 := zc BK348.out 4; have hfz17_0 := blk_frozen BK348.out 0; have hfz17_1 := blk_frozen BK348.out 1; have hfz17_2 := blk_frozen BK348.out 2; have hfz17_3 := blk_frozen BK348.out 3; have hfz17_4 := blk_frozen BK348.out 4; have hcz18_0 := zc BK349.out 0; have hcz18_1 := zc BK349.out 1; have hcz18_2 := zc BK349.out 2; have hcz18_3 := zc BK349.out 3; have hcz18_4 := zc BK349.out 4; have hfz18_0 := blk_frozen BK349.out 0; have hfz18_1 := blk_frozen BK349.out 1; have hfz18_2 := blk_frozen BK349.out 2; have hfz18_3 := blk_frozen BK349.out 3; have hfz18_4 := blk_frozen BK349.out 4) | (go_at_call 93; (with_reducible refine (cellarref0_EqStrings.calls k _ _ l0_3 _ _ l1_3 false _ ?side1 ?side2 ?side3 ?side4 A6.out).mono ?_); (case side1 => repeat (first | exact (Kd.C_below HR0_3.out HB.out) | (with_reducible refine Kd.C_alloc ?_ _) | (with_reducible refine Kd.C_drewN ?_ _) | (with_reducible refine Kd.C_drew ?_))); (case side2 => exact HC0_3.out); (case side3 => repeat (first | exact (Kd.C_below HR1_3.out HB.out) | (with_reducible refine Kd.C_alloc ?_ _) | (with_reducible refine Kd.C_drewN ?_ _) | (with_reducible refine Kd.C_drew ?_))); (case side4 => exact HC1_3.out); rintro e w' ⟨rfl, ⟨nd, rfl⟩⟩))
   go_ret
   exact ⟨ze, zw2 HB.out GE348.out GE349.out⟩
  subst c7
  have H1 : ((cellarref0_EqNumbers.f k l0_4 l1_4).bind fun t351 => (some t351)) = some r := by rw [if_pos rfl] at H; exact H
  clear H
  have H := H1
  clear H1
  replace H := Option.bind_eq_some_iff.mp H
  obtain ⟨t351, A80, H⟩ := H
  replace H : (some t351) = some r := H
  have A8 := Aside0.mk A80
  clear A80
  obtain rfl := Option.some.inj H
  go_enter Try.func61, Try.ntmps61
  go_wp2_with (first | ((with_reducible refine gate_dst (N := 2) rfl ?_); refine zbox (N := 2) (cs := #[.int .i64 a0_0, .int .i64 a0_1, .int .i64 a0_2, .slice A0_3 l0_3.length c0_3, .slice A0_4 l0_4.length c0_4]) (t := 31) ?_; intro gb348 hg w9 hbox hb; have n0_ := Aside0.mk (below_step (zw0 HB.out) hb); have BK348 := Aside0.mk (hbox); have GW348 := Aside0.mk (zg hg (below_size (zw0 HB.out))); have GE348 := GW348; clear HB; have HB := n0_; clear n0_; clear hb hbox hg) | ((with_reducible refine gate_dst (N := 3) rfl ?_); refine zbox (N := 3) (cs := #[.int .i64 a1_0, .int .i64 a1_1, .int .i64 a1_2, .slice A1_3 l1_3.length c1_3, .slice A1_4 l1_4.length c1_4]) (t := 31) ?_; intro gb349 hg w10 hbox hb; have n0_ := Aside0.mk (zbb BK348.out hb); have n1_ := Aside0.mk (below_step (zw1 HB.out GE348.out) hb); have BK349 := Aside0.mk (hbox); have GW349 := Aside0.mk (zg hg (below_size (zw1 HB.out GE348.out))); have GE349 := GW349; have NB348_349 := Aside0.mk (zlt hg BK348.out); have NB349_348 := Aside0.mk (zgt hg BK348.out); clear BK348 HB; have BK348 := n0_; have HB := n1_; clear n0_ n1_; clear hb hbox hg; have hnb11 := NB348_349.out; have hnc11 := NB349_348.out; have hcz12_0 := zc BK348.out 0; have hcz12_1 := zc BK348.out 1; have hcz12_2 := zc BK348.out 2; have hcz12_3 := zc BK348.out 3; have hcz12_4 := zc BK348.out 4; have hfz12_0 := blk_frozen BK348.out 0; have hfz12_1 := blk_frozen BK348.out 1; have hfz12_2 := blk_frozen BK348.out 2; have hfz12_3 := blk_frozen BK348.out 3; have hfz12_4 := blk_frozen BK348.out 4; have hcz13_0 := zc BK349.out 0; have hcz13_1 := zc BK349.out 1; have hcz13_2 := zc BK349.out 2; have hcz13_3 := zc BK349.out 3; have hcz13_4 := zc BK349.out 4; have hfz13_0 := blk_frozen BK349.out 0; have hfz13_1 := blk_frozen BK349.out 1; have hfz13_2 := blk_frozen BK349.out 2; have hfz13_3 := blk_frozen BK349.out 3; have hfz13_4 := blk_frozen BK349.out 4) | (go_at_call 93; (with_reducible refine (cellarref0_EqStrings.calls k _ _ l0_3 _ _ l1_3 true _ ?side1 ?side2 ?side3 ?side4 A6.out).mono ?_); (case side1 => repeat (first | exact (Kd.C_below HR0_3.out HB.out) | (with_reducible refine Kd.C_alloc ?_ _) | (with_reducible refine Kd.C_drewN ?_ _) | (with_reducible refine Kd.C_drew ?_))); (case side2 => exact HC0_3.out); (case side3 => repeat (first | exact (Kd.C_below HR1_3.out HB.out) | (with_reducible refine Kd.C_alloc ?_ _) | (with_reducible refine Kd.C_drewN ?_ _) | (with_reducible refine Kd.C_drew ?_))); (case side4 => exact HC1_3.out); rintro e w' ⟨rfl, ⟨nd, rfl⟩⟩) | (go_at_call 94; (with_reducible refine (cellarref0_EqNumbers.calls k _ _ l0_4 _ _ l1_4 t351 _ ?side1 ?side2 ?side3 ?side4 A8.out).mono ?_); (case side1 => repeat (first | exact (Kd.C_below HR0_4.out (zw2 HB.out GE348.out GE349.out)) | (with_reducible refine Kd.C_alloc ?_ _) | (with_reducible refine Kd.C_drewN ?_ _) | (with_reducible refine Kd.C_drew ?_))); (case side2 => exact HC0_4.out); (case side3 => repeat (first | exact (Kd.C_below HR1_4.out (zw2 HB.out GE348.out GE349.out)) | (with_reducible refine Kd.C_alloc ?_ _) | (with_reducible refine Kd.C_drewN ?_ _) | (with_reducible refine Kd.C_drew ?_))); (case side4 => exact HC1_4.out); rintro e w' ⟨rfl, ⟨nd, rfl⟩⟩))
  go_ret
  exact ⟨ze, zw2 HB.out GE348.out GE349.out⟩
 ·rw [if_neg c3] at H
  have c3b0 : (a0_0 == a1_0) = false := beq_eq_false_iff_ne.mpr c3
  have c3b1 : (a0_0 != a1_0) = true := bne_iff_ne.mpr c3
  obtain rfl := Option.some.inj H
  go_enter Try.func61, Try.ntmps61
  go_wp2_with (first | ((with_reducible refine gate_dst (N := 2) rfl ?_); refine zbox (N := 2) (cs := #[.int .i64 a0_0, .int .i64 a0_1, .int .i64 a0_2, .slice A0_3 l0_3.length c0_3, .slice A0_4 l0_4.length c0_4]) (t := 31) ?_; intro gb348 hg w29 hbox hb; have n0_ := Aside0.mk (below_step (zw0 HB.out) hb); have BK348 := Aside0.mk (hbox); have GW348 := Aside0.mk (zg hg (below_size (zw0 HB.out))); have GE348 := GW348; clear HB; have HB := n0_; clear n0_; clear hb hbox hg) | ((with_reducible refine gate_dst (N := 3) rfl ?_); refine zbox (N := 3) (cs := #[.int .i64 a1_0, .int .i64 a1_1, .int .i64 a1_2, .slice A1_3 l1_3.length c1_3, .slice A1_4 l1_4.length c1_4]) (t := 31) ?_; intro gb349 hg w30 hbox hb; have n0_ := Aside0.mk (zbb BK348.out hb); have n1_ := Aside0.mk (below_step (zw1 HB.out GE348.out) hb); have BK349 := Aside0.mk (hbox); have GW349 := Aside0.mk (zg hg (below_size (zw1 HB.out GE348.out))); have GE349 := GW349; have NB348_349 := Aside0.mk (zlt hg BK348.out); have NB349_348 := Aside0.mk (zgt hg BK348.out); clear BK348 HB; have BK348 := n0_; have HB := n1_; clear n0_ n1_; clear hb hbox hg; have hnb31 := NB348_349.out; have hnc31 := NB349_348.out; have hcz32_0 := zc BK348.out 0; have hcz32_1 := zc BK348.out 1; have hcz32_2 := zc BK348.out 2; have hcz32_3 := zc BK348.out 3; have hcz32_4 := zc BK348.out 4; have hfz32_0 := blk_frozen BK348.out 0; have hfz32_1 := blk_frozen BK348.out 1; have hfz32_2 := blk_frozen BK348.out 2; have hfz32_3 := blk_frozen BK348.out 3; have hfz32_4 := blk_frozen BK348.out 4; have hcz33_0 := zc BK349.out 0; have hcz33_1 := zc BK349.out 1; have hcz33_2 := zc BK349.out 2; have hcz33_3 := zc BK349.out 3; have hcz33_4 := zc BK349.out 4; have hfz33_0 := blk_frozen BK349.out 0; have hfz33_1 := blk_frozen BK349.out 1; have hfz33_2 := blk_frozen BK349.out 2; have hfz33_3 := blk_frozen BK349.out 3; have hfz33_4 := blk_frozen BK349.out 4))
  go_ret
  exact ⟨ze, zw2 HB.out GE348.out GE349.out⟩

/-! cellarref0_EqTypes -/
def cellarref0_EqTypes.l0 : Nat → List (S31) → List (S31) → Int → Option (Bool)
 | 0, _, _, _ => none
 | k + 1, x0, x1, x5 => if x5 < (x0.length : Int) then (if 0 ≤ x5 then (if x5 < (x1.length : Int) then ((cellarref0_EqType.f k ((rd_T31 x0 x5).f0) ((rd_T31 x0 x5).f1) ((rd_T31 x0 x5).f2) ((rd_T31 x0 x5).f3) ((rd_T31 x0 x5).f4) ((rd_T31 x1 x5).f0) ((rd_T31 x1 x5).f1) ((rd_T31 x1 x5).f2) ((rd_T31 x1 x5).f3) ((rd_T31 x1 x5).f4)).bind fun t354 => (if t354 = true then (cellarref0_EqTypes.l0 k x0 x1 (wrap64 (x5 + 1))) else (some false))) else (none)) else (none)) else (some true)
def cellarref0_EqTypes.f (k : Nat) (l0 : List (S31)) (l1 : List (S31)) : Option (Bool) := if (l0.length : Int) = (l1.length : Int) then (cellarref0_EqTypes.l0 k l0 l1 0) else (some false)
theorem cellarref0_EqTypes.mono_l : ∀ k, (∀ y0 y1 y2, LeO (cellarref0_EqTypes.l0 k y0 y1 y2) (cellarref0_EqTypes.l0 (k + 1) y0 y1 y2))
 | 0 => fun _ _ _ r h => by simp [cellarref0_EqTypes.l0] at h
 | k + 1 => by
  have ih0 := cellarref0_EqTypes.mono_l k
  ·intro y0 y1 y2
   unfold cellarref0_EqTypes.l0
   repeat' first
   | (with_reducible apply ih0)
   | (with_reducible apply cellarref0_EqType.mono)
   | (with_reducible apply LeO.refl)
   | (with_reducible apply LeO.none)
   | (with_reducible refine LeO.ite ?_ ?_)
   | (with_reducible refine LeO.bind ?_ (fun _ => ?_))
theorem cellarref0_EqTypes.mono : ∀ a0 a1 k, LeO (cellarref0_EqTypes.f k a0 a1) (cellarref0_EqTypes.f (k + 1) a0 a1) := by
 intro a0 a1 k
 have ih0 := cellarref0_EqTypes.mono_l k
 unfold cellarref0_EqTypes.f
 repeat' first
   | (with_reducible apply ih0)
   | (with_reducible apply cellarref0_EqType.mono)
   | (with_reducible apply LeO.refl)
   | (with_reducible apply LeO.none)
   | (with_reducible refine LeO.ite ?_ ?_)
   | (with_reducible refine LeO.bind ?_ (fun _ => ?_))
def cellarref0_EqTypes.T6 : Bool × List (List Nat × List Nat) := (true, [([], []), ([], []), ([0, 1], [0, 1]), ([2], [2]), ([], []), ([], []), ([4, 5], [4, 5]), ([6], [6]), ([3, 7], [3, 7]), ([8], [8])])
def cellarref0_EqTypes.B6 : List Nat := [0, 0, 3, 7, 0, 0, 48, 112, 255, 511]
theorem cellarref0_EqTypes.tab6 : rtab .any (opsOf Try.f24 6) = cellarref0_EqTypes.T6 := by kernel_rfl
theorem cellarref0_EqTypes.bits6 : waitsOk cellarref0_EqTypes.T6.2 cellarref0_EqTypes.B6 = true := by kernel_rfl
set_option maxHeartbeats 8000000 in
set_option maxRecDepth 100000 in
theorem cellarref0_EqTypes.calls (k : Nat) (A0 : Option Addr) (c0 : Nat) (l0 : List (S31)) (A1 : Option Addr) (c1 : Nat) (l1 : List (S31)) (r : Bool) (w : World) (hr0 : Kd.C k31 w A0 l0.length l0) (hc0 : l0.length ≤ c0) (hr1 : Kd.C k31 w A1 l1.length l1) (hc1 : l1.length ≤ c1) (h : cellarref0_EqTypes.f k l0 l1 = some r) :
  Calls Try.prog 24 #[.slice A0 l0.length c0, .slice A1 l1.length c1] w fun e w' => e = .returned (.bool r) ∧ Below w.heap.size w w' := by
 have hu31 := Try.underlying31
 have HR0 := Aside0.mk hr0
 have HC0 := Aside0.mk hc0
 clear hr0 hc0
 have HR1 := Aside0.mk hr1
 have HC1 := Aside0.mk hc1
 clear hr1 hc1
 have HB := Aside0.mk (Below.refl w.heap.size w)
 have H : (if (l0.length : Int) = (l1.length : Int) then (cellarref0_EqTypes.l0 k l0 l1 0) else (some false)) = some r := h
 clear h
 by_cases c3 : (l0.length : Int) = (l1.length : Int)
 ·rw [if_pos c3] at H
  have c3b0 : ((l0.length : Int) == (l1.length : Int)) = true := beq_iff_eq.mpr c3
  have c3b1 : ((l0.length : Int) != (l1.length : Int)) = false := bne_eq_false_iff_eq.mpr c3
  have c3b2 : (l0.length == l1.length) = true := by first | simpa using c3 | (simp at c3 ⊢; omega)
  clear c3
  have H' := Aside0.mk H
  clear H
  go_enter Try.func24, Try.ntmps24
  go_wp2
  go_loopg [5] k (fun kq v5 w' => ∃ (x5_1 : Int), v5 = .int .i64 x5_1 ∧ Aside0 (cellarref0_EqTypes.l0 kq l0 l1 x5_1 = some r) ∧ Aside0 (kq ≤ k) ∧ Aside0 (Below w.heap.size w w'))
  case atStart => exact ⟨(0), (zr), H', ⟨Nat.le_refl _⟩, ⟨zw0 HB.out⟩⟩
  case round =>
   clear H'
   try clear c1; try clear c2; try clear p2; try clear c3; try clear c3b0; try clear c3b1; try clear c3b2
   obtain ⟨x5_1, rfl, HA, HK1, HB⟩ := hrel
   cases gk with
   | zero => exact absurd HA.out (by simp [cellarref0_EqTypes.l0])
   | succ k1 =>
    have H := HA.out
    clear HA
    simp only [cellarref0_EqTypes.l0] at H
    by_cases c4 : x5_1 < (l0.length : Int)
    rotate_left
    ·rw [if_neg c4] at H
     have c4b0 : decide (x5_1 < (l0.length : Int)) = false := decide_eq_false c4
     clear c4
     obtain rfl := Option.some.inj H
     go_wp2
     go_ret
     exact ⟨ze, zw0 HB.out⟩
    rw [if_pos c4] at H
    have c4b0 : decide (x5_1 < (l0.length : Int)) = true := decide_eq_true c4
    clear c4
    by_cases c5 : 0 ≤ x5_1
    rotate_left
    ·rw [if_neg c5] at H
     exact absurd H (by simp)
    rw [if_pos c5] at H
    have c5b0 : decide (0 ≤ x5_1) = true := decide_eq_true c5
    clear c5
    by_cases c6 : x5_1 < (l1.length : Int)
    rotate_left
    ·rw [if_neg c6] at H
     exact absurd H (by simp)
    rw [if_pos c6] at H
    have c6b0 : decide (x5_1 < (l1.length : Int)) = true := decide_eq_true c6
    clear c6
    replace H := Option.bind_eq_some_iff.mp H
    obtain ⟨t354, A70, H⟩ := H
    replace H : (if t354 = true then (cellarref0_EqTypes.l0 k1 l0 l1 (wrap64 (x5_1 + 1))) else (some false)) = some r := H
    have A7 := Aside0.mk A70
    clear A70
    by_cases c8 : t354 = true
    rotate_left
    ·replace c8 := Bool.eq_false_iff.mpr c8
     subst c8
     have H1 : (some false) = some r := by rw [if_neg (show ¬ (false = true) by decide)] at H; exact H
     clear H
     have H := H1
     clear H1
     obtain rfl := Option.some.inj H
     try go_wp2
     have n0_ := Aside0.mk (below_drew1 HB.out)
     clear HB
     have HB := n0_
     clear n0_
     have p352 : 0 ≤ (x5_1 : Int) := zdec
     have q352 : x5_1 < (l0.length : Int) := zdec
     obtain ⟨ad352, A352_3, c352_3, A352_4, c352_4, e352, hx352_0, hx352_1, hx352_2, hx352_3, hx352_4, hl352_3, hi352_3, hl352_4, hi352_4⟩ := at_T31 HR0.out x5_1 p352 q352
     have hw352_4 := hx352_4
     have hw352_3 := hx352_3
     have hw352_2 := hx352_2
     have hw352_1 := hx352_1
     have hw352_0 := hx352_0
     cases e352
     replace hx352_0 := zh HB.out hx352_0
     replace hx352_1 := zh HB.out hx352_1
     replace hx352_2 := zh HB.out hx352_2
     replace hx352_3 := zh HB.out hx352_3
     replace hx352_4 := zh HB.out hx352_4
     have HR352_3 := Aside0.mk hi352_3
     have HC352_3 := Aside0.mk hl352_3
     clear hi352_3 hl352_3
     have HR352_4 := Aside0.mk hi352_4
     have HC352_4 := Aside0.mk hl352_4
     clear hi352_4 hl352_4
     replace p352 := eq_true p352
     replace q352 := eq_true q352
     have p353 : 0 ≤ (x5_1 : Int) := zdec
     have q353 : x5_1 < (l1.length : Int) := zdec
     obtain ⟨ad353, A353_3, c353_3, A353_4, c353_4, e353, hx353_0, hx353_1, hx353_2, hx353_3, hx353_4, hl353_3, hi353_3, hl353_4, hi353_4⟩ := at_T31 HR1.out x5_1 p353 q353
     have hw353_4 := hx353_4
     have hw353_3 := hx353_3
     have hw353_2 := hx353_2
     have hw353_1 := hx353_1
     have hw353_0 := hx353_0
     cases e353
     replace hx353_0 := zh HB.out hx353_0
     replace hx353_1 := zh HB.out hx353_1
     replace hx353_2 := zh HB.out hx353_2
     replace hx353_3 := zh HB.out hx353_3
     replace hx353_4 := zh HB.out hx353_4
     have HR353_3 := Aside0.mk hi353_3
     have HC353_3 := Aside0.mk hl353_3
     clear hi353_3 hl353_3
     have HR353_4 := Aside0.mk hi353_4
     have HC353_4 := Aside0.mk hl353_4
     clear hi353_4 hl353_4
     replace p353 := eq_true p353
     replace q353 := eq_true q353
     refine start_ (n := 10) (S := fun w' => w'.cell? (ad352.add ((x5_1).toNat * 5)) = some (.int .i64 ((rd_T31 l0 x5_1).f0)) ∧ w'.cell? ⟨(ad352.add ((x5_1).toNat * 5)).block, (ad352.add ((x5_1).toNat * 5)).off + 1, none⟩ = some (.int .i64 ((rd_T31 l0 x5_1).f1)) ∧ w'.cell? ⟨(ad352.add ((x5_1).toNat * 5)).block, (ad352.add ((x5_1).toNat * 5)).off + 2, none⟩ = some (.int .i64 ((rd_T31 l0 x5_1).f2)) ∧ w'.cell? ⟨(ad352.add ((x5_1).toNat * 5)).block, (ad352.add ((x5_1).toNat * 5)).off + 3, none⟩ = some (.slice A352_3 ((rd_T31 l0 x5_1).f3).length c352_3) ∧ w'.cell? ⟨(ad352.add ((x5_1).toNat * 5)).block, (ad352.add ((x5_1).toNat * 5)).off + 4, none⟩ = some (.slice A352_4 ((rd_T31 l0 x5_1).f4).length c352_4) ∧ w'.cell? (ad353.add ((x5_1).toNat * 5)) = some (.int .i64 ((rd_T31 l1 x5_1).f0)) ∧ w'.cell? ⟨(ad353.add ((x5_1).toNat * 5)).block, (ad353.add ((x5_1).toNat * 5)).off + 1, none⟩ = some (.int .i64 ((rd_T31 l1 x5_1).f1)) ∧ w'.cell? ⟨(ad353.add ((x5_1).toNat * 5)).block, (ad353.add ((x5_1).toNat * 5)).off + 2, none⟩ = some (.int .i64 ((rd_T31 l1 x5_1).f2)) ∧ w'.cell? ⟨(ad353.add ((x5_1).toNat * 5)).block, (ad353.add ((x5_1).toNat * 5)).off + 3, none⟩ = some (.slice A353_3 ((rd_T31 l1 x5_1).f3).length c353_3) ∧ w'.cell? ⟨(ad353.add ((x5_1).toNat * 5)).block, (ad353.add ((x5_1).toNat * 5)).off + 4, none⟩ = some (.slice A353_4 ((rd_T31 l1 x5_1).f4).length c353_4)) (ds := []) #[false,false,false,false,false,false,false,false,false,false] (by kernel_rfl) rfl rfl ⟨((HB.out.cell (World.block_lt_of_cell? w _ hw352_0)).trans hw352_0), ((HB.out.cell (World.block_lt_of_cell? w _ hw352_1)).trans hw352_1), ((HB.out.cell (World.block_lt_of_cell? w _ hw352_2)).trans hw352_2), ((HB.out.cell (World.block_lt_of_cell? w _ hw352_3)).trans hw352_3), ((HB.out.cell (World.block_lt_of_cell? w _ hw352_4)).trans hw352_4), ((HB.out.cell (World.block_lt_of_cell? w _ hw353_0)).trans hw353_0), ((HB.out.cell (World.block_lt_of_cell? w _ hw353_1)).trans hw353_1), ((HB.out.cell (World.block_lt_of_cell? w _ hw353_2)).trans hw353_2), ((HB.out.cell (World.block_lt_of_cell? w _ hw353_3)).trans hw353_3), ((HB.out.cell (World.block_lt_of_cell? w _ hw353_4)).trans hw353_4)⟩ (fun hHeld => ?_); refine with_tabW cellarref0_EqTypes.tab6 cellarref0_EqTypes.bits6 (fun HT_ HW_ => ?_)
     generalize wr.drew = w11 at HB HR352_3 HR352_4 HR353_3 HR353_4 hx352_0 hx352_1 hx352_2 hx352_3 hx352_4 hx353_0 hx353_1 hx353_2 hx353_3 hx353_4 hHeld ⊢
     refine zq 0 (some 17) HT_ ?_; refine zq 1 (some 18) HT_ ?_; refine zq 2 (some 19) HT_ ?_; refine zq 4 (some 21) HT_ ?_; refine zq 5 (some 22) HT_ ?_; refine zq 6 (some 23) HT_ ?_; refine zt 3 (some 20) HT_ HW_ hHeld ?_; refine zt 7 (some 24) HT_ HW_ hHeld ?_
     refine one_ (i := 8) (N := some 25) #[true,true,true,true,true,true,true,true,true,false] rfl rfl (one_of HT_.out (by kernel_rfl)) (by decide) (fun K hK => ?_)
     refine goes_ Try.func61 (by kernel_rfl) rfl #[.agg #[.int .i64 ((rd_T31 l0 x5_1).f0), .int .i64 ((rd_T31 l0 x5_1).f1), .int .i64 ((rd_T31 l0 x5_1).f2), .slice A352_3 ((rd_T31 l0 x5_1).f3).length c352_3, .slice A352_4 ((rd_T31 l0 x5_1).f4).length c352_4], .agg #[.int .i64 ((rd_T31 l1 x5_1).f0), .int .i64 ((rd_T31 l1 x5_1).f1), .int .i64 ((rd_T31 l1 x5_1).f2), .slice A353_3 ((rd_T31 l1 x5_1).f3).length c353_3, .slice A353_4 ((rd_T31 l1 x5_1).f4).length c353_4]] (by rfl) rfl rfl (by (try simp only [List.map_toArray, List.map_cons, List.map_nil]); first | done | rfl | (simp only [List.length_drop, List.length_take]; rfl)) ?_
     with_reducible refine (cellarref0_EqType.calls k1 ((rd_T31 l0 x5_1).f0) ((rd_T31 l0 x5_1).f1) ((rd_T31 l0 x5_1).f2) _ _ ((rd_T31 l0 x5_1).f3) _ _ ((rd_T31 l0 x5_1).f4) ((rd_T31 l1 x5_1).f0) ((rd_T31 l1 x5_1).f1) ((rd_T31 l1 x5_1).f2) _ _ ((rd_T31 l1 x5_1).f3) _ _ ((rd_T31 l1 x5_1).f4) false _ ?side1 ?side2 ?side3 ?side4 ?side5 ?side6 ?side7 ?side8 A7.out).mono ?_
     (case side1 => repeat (first | exact (Kd.C_below HR352_3.out HB.out) | (with_reducible refine Kd.C_alloc ?_ _) | (with_reducible refine Kd.C_drewN ?_ _) | (with_reducible refine Kd.C_drew ?_)))
     (case side2 => exact HC352_3.out)
     (case side3 => repeat (first | exact (Kd.C_below HR352_4.out HB.out) | (with_reducible refine Kd.C_alloc ?_ _) | (with_reducible refine Kd.C_drewN ?_ _) | (with_reducible refine Kd.C_drew ?_)))
     (case side4 => exact HC352_4.out)
     (case side5 => repeat (first | exact (Kd.C_below HR353_3.out HB.out) | (with_reducible refine Kd.C_alloc ?_ _) | (with_reducible refine Kd.C_drewN ?_ _) | (with_reducible refine Kd.C_drew ?_)))
     (case side6 => exact HC353_3.out)
     (case side7 => repeat (first | exact (Kd.C_below HR353_4.out HB.out) | (with_reducible refine Kd.C_alloc ?_ _) | (with_reducible refine Kd.C_drewN ?_ _) | (with_reducible refine Kd.C_drew ?_)))
     (case side8 => exact HC353_4.out)
     rintro e w12 ⟨rfl, hb⟩
     refine ⟨_, rfl, ?_⟩
     have n0_ := Aside0.mk (below_step (zw0 HB.out) hb)
     clear HB
     have HB := n0_
     clear n0_
     (try clear hb)
     (try clear hb2)
     (try clear hk)
     (try clear hi)
     refine hK.out _ _ ⟨((HB.out.cell (World.block_lt_of_cell? w _ hw352_0)).trans hw352_0), ((HB.out.cell (World.block_lt_of_cell? w _ hw352_1)).trans hw352_1), ((HB.out.cell (World.block_lt_of_cell? w _ hw352_2)).trans hw352_2), ((HB.out.cell (World.block_lt_of_cell? w _ hw352_3)).trans hw352_3), ((HB.out.cell (World.block_lt_of_cell? w _ hw352_4)).trans hw352_4), ((HB.out.cell (World.block_lt_of_cell? w _ hw353_0)).trans hw353_0), ((HB.out.cell (World.block_lt_of_cell? w _ hw353_1)).trans hw353_1), ((HB.out.cell (World.block_lt_of_cell? w _ hw353_2)).trans hw353_2), ((HB.out.cell (World.block_lt_of_cell? w _ hw353_3)).trans hw353_3), ((HB.out.cell (World.block_lt_of_cell? w _ hw353_4)).trans hw353_4)⟩ (fun hHeld => ?_)
     clear hK K
     refine norm_ (a' := ?_) ?_ ?_
     rotate_left
     ·show Act.put _ (some 25) _ = _
      simp only [Act.put, List.setIfInBounds_toArray, List.set_cons_zero, List.set_cons_succ, i64_w, i32_w]
      rfl
     refine zq 9 (some 26) HT_ ?_
     refine done_ (done_of HT_.out (by kernel_rfl)) ?_
     try go_wp2
     go_ret
     exact ⟨ze, zw0 HB.out⟩
    subst c8
    have H1 : (cellarref0_EqTypes.l0 k1 l0 l1 (wrap64 (x5_1 + 1))) = some r := by rw [if_pos rfl] at H; exact H
    clear H
    have H := H1
    clear H1
    have H' := Aside0.mk H
    clear H
    try go_wp2
    have n0_ := Aside0.mk (below_drew1 HB.out)
    clear HB
    have HB := n0_
    clear n0_
    have p352 : 0 ≤ (x5_1 : Int) := zdec
    have q352 : x5_1 < (l0.length : Int) := zdec
    obtain ⟨ad352, A352_3, c352_3, A352_4, c352_4, e352, hx352_0, hx352_1, hx352_2, hx352_3, hx352_4, hl352_3, hi352_3, hl352_4, hi352_4⟩ := at_T31 HR0.out x5_1 p352 q352
    have hw352_4 := hx352_4
    have hw352_3 := hx352_3
    have hw352_2 := hx352_2
    have hw352_1 := hx352_1
    have hw352_0 := hx352_0
    cases e352
    replace hx352_0 := zh HB.out hx352_0
    replace hx352_1 := zh HB.out hx352_1
    replace hx352_2 := zh HB.out hx352_2
    replace hx352_3 := zh HB.out hx352_3
    replace hx352_4 := zh HB.out hx352_4
    have HR352_3 := Aside0.mk hi352_3
    have HC352_3 := Aside0.mk hl352_3
    clear hi352_3 hl352_3
    have HR352_4 := Aside0.mk hi352_4
    have HC352_4 := Aside0.mk hl352_4
    clear hi352_4 hl352_4
    replace p352 := eq_true p352
    replace q352 := eq_true q352
    have p353 : 0 ≤ (x5_1 : Int) := zdec
    have q353 : x5_1 < (l1.length : Int) := zdec
    obtain ⟨ad353, A353_3, c353_3, A353_4, c353_4, e353, hx353_0, hx353_1, hx353_2, hx353_3, hx353_4, hl353_3, hi353_3, hl353_4, hi353_4⟩ := at_T31 HR1.out x5_1 p353 q353
    have hw353_4 := hx353_4
    have hw353_3 := hx353_3
    have hw353_2 := hx353_2
    have hw353_1 := hx353_1
    have hw353_0 := hx353_0
    cases e353
    replace hx353_0 := zh HB.out hx353_0
    replace hx353_1 := zh HB.out hx353_1
    replace hx353_2 := zh HB.out hx353_2
    replace hx353_3 := zh HB.out hx353_3
    replace hx353_4 := zh HB.out hx353_4
    have HR353_3 := Aside0.mk hi353_3
    have HC353_3 := Aside0.mk hl353_3
    clear hi353_3 hl353_3
    have HR353_4 := Aside0.mk hi353_4
    have HC353_4 := Aside0.mk hl353_4
    clear hi353_4 hl353_4
    replace p353 := eq_true p353
    replace q353 := eq_true q353
    refine start_ (n := 10) (S := fun w' => w'.cell? (ad352.add ((x5_1).toNat * 5)) = some (.int .i64 ((rd_T31 l0 x5_1).f0)) ∧ w'.cell? ⟨(ad352.add ((x5_1).toNat * 5)).block, (ad352.add ((x5_1).toNat * 5)).off + 1, none⟩ = some (.int .i64 ((rd_T31 l0 x5_1).f1)) ∧ w'.cell? ⟨(ad352.add ((x5_1).toNat * 5)).block, (ad352.add ((x5_1).toNat * 5)).off + 2, none⟩ = some (.int .i64 ((rd_T31 l0 x5_1).f2)) ∧ w'.cell? ⟨(ad352.add ((x5_1).toNat * 5)).block, (ad352.add ((x5_1).toNat * 5)).off + 3, none⟩ = some (.slice A352_3 ((rd_T31 l0 x5_1).f3).length c352_3) ∧ w'.cell? ⟨(ad352.add ((x5_1).toNat * 5)).block, (ad352.add ((x5_1).toNat * 5)).off + 4, none⟩ = some (.slice A352_4 ((rd_T31 l0 x5_1).f4).length c352_4) ∧ w'.cell? (ad353.add ((x5_1).toNat * 5)) = some (.int .i64 ((rd_T31 l1 x5_1).f0)) ∧ w'.cell? ⟨(ad353.add ((x5_1).toNat * 5)).block, (ad353.add ((x5_1).toNat * 5)).off + 1, none⟩ = some (.int .i64 ((rd_T31 l1 x5_1).f1)) ∧ w'.cell? ⟨(ad353.add ((x5_1).toNat * 5)).block, (ad353.add ((x5_1).toNat * 5)).off + 2, none⟩ = some (.int .i64 ((rd_T31 l1 x5_1).f2)) ∧ w'.cell? ⟨(ad353.add ((x5_1).toNat * 5)).block, (ad353.add ((x5_1).toNat * 5)).off + 3, none⟩ = some (.slice A353_3 ((rd_T31 l1 x5_1).f3).length c353_3) ∧ w'.cell? ⟨(ad353.add ((x5_1).toNat * 5)).block, (ad353.add ((x5_1).toNat * 5)).off + 4, none⟩ = some (.slice A353_4 ((rd_T31 l1 x5_1).f4).length c353_4)) (ds := []) #[false,false,false,false,false,false,false,false,false,false] (by kernel_rfl) rfl rfl ⟨((HB.out.cell (World.block_lt_of_cell? w _ hw352_0)).trans hw352_0), ((HB.out.cell (World.block_lt_of_cell? w _ hw352_1)).trans hw352_1), ((HB.out.cell (World.block_lt_of_cell? w _ hw352_2)).trans hw352_2), ((HB.out.cell (World.block_lt_of_cell? w _ hw352_3)).trans hw352_3), ((HB.out.cell (World.block_lt_of_cell? w _ hw352_4)).trans hw352_4), ((HB.out.cell (World.block_lt_of_cell? w _ hw353_0)).trans hw353_0), ((HB.out.cell (World.block_lt_of_cell? w _ hw353_1)).trans hw353_1), ((HB.out.cell (World.block_lt_of_cell? w _ hw353_2)).trans hw353_2), ((HB.out.cell (World.block_lt_of_cell? w _ hw353_3)).trans hw353_3), ((HB.out.cell (World.block_lt_of_cell? w _ hw353_4)).trans hw353_4)⟩ (fun hHeld => ?_); refine with_tabW cellarref0_EqTypes.tab6 cellarref0_EqTypes.bits6 (fun HT_ HW_ => ?_)
    generalize wr.drew = w9 at HB HR352_3 HR352_4 HR353_3 HR353_4 hx352_0 hx352_1 hx352_2 hx352_3 hx352_4 hx353_0 hx353_1 hx353_2 hx353_3 hx353_4 hHeld ⊢
    refine zq 0 (some 17) HT_ ?_; refine zq 1 (some 18) HT_ ?_; refine zq 2 (some 19) HT_ ?_; refine zq 4 (some 21) HT_ ?_; refine zq 5 (some 22) HT_ ?_; refine zq 6 (some 23) HT_ ?_; refine zt 3 (some 20) HT_ HW_ hHeld ?_; refine zt 7 (some 24) HT_ HW_ hHeld ?_
    refine one_ (i := 8) (N := some 25) #[true,true,true,true,true,true,true,true,true,false] rfl rfl (one_of HT_.out (by kernel_rfl)) (by decide) (fun K hK => ?_)
    refine goes_ Try.func61 (by kernel_rfl) rfl #[.agg #[.int .i64 ((rd_T31 l0 x5_1).f0), .int .i64 ((rd_T31 l0 x5_1).f1), .int .i64 ((rd_T31 l0 x5_1).f2), .slice A352_3 ((rd_T31 l0 x5_1).f3).length c352_3, .slice A352_4 ((rd_T31 l0 x5_1).f4).length c352_4], .agg #[.int .i64 ((rd_T31 l1 x5_1).f0), .int .i64 ((rd_T31 l1 x5_1).f1), .int .i64 ((rd_T31 l1 x5_1).f2), .slice A353_3 ((rd_T31 l1 x5_1).f3).length c353_3, .slice A353_4 ((rd_T31 l1 x5_1).f4).length c353_4]] (by rfl) rfl rfl (by (try simp only [List.map_toArray, List.map_cons, List.map_nil]); first | done | rfl | (simp only [List.length_drop, List.length_take]; rfl)) ?_
    with_reducible refine (cellarref0_EqType.calls k1 ((rd_T31 l0 x5_1).f0) ((rd_T31 l0 x5_1).f1) ((rd_T31 l0 x5_1).f2) _ _ ((rd_T31 l0 x5_1).f3) _ _ ((rd_T31 l0 x5_1).f4) ((rd_T31 l1 x5_1).f0) ((rd_T31 l1 x5_1).f1) ((rd_T31 l1 x5_1).f2) _ _ ((rd_T31 l1 x5_1).f3) _ _ ((rd_T31 l1 x5_1).f4) true _ ?side1 ?side2 ?side3 ?side4 ?side5 ?side6 ?side7 ?side8 A7.out).mono ?_
    (case side1 => repeat (first | exact (Kd.C_below HR352_3.out HB.out) | (with_reducible refine Kd.C_alloc ?_ _) | (with_reducible refine Kd.C_drewN ?_ _) | (with_reducible refine Kd.C_drew ?_)))
    (case side2 => exact HC352_3.out)
    (case side3 => repeat (first | exact (Kd.C_below HR352_4.out HB.out) | (with_reducible refine Kd.C_alloc ?_ _) | (with_reducible refine Kd.C_drewN ?_ _) | (with_reducible refine Kd.C_drew ?_)))
    (case side4 => exact HC352_4.out)
    (case side5 => repeat (first | exact (Kd.C_below HR353_3.out HB.out) | (with_reducible refine Kd.C_alloc ?_ _) | (with_reducible refine Kd.C_drewN ?_ _) | (with_reducible refine Kd.C_drew ?_)))
    (case side6 => exact HC353_3.out)
    (case side7 => repeat (first | exact (Kd.C_below HR353_4.out HB.out) | (with_reducible refine Kd.C_alloc ?_ _) | (with_reducible refine Kd.C_drewN ?_ _) | (with_reducible refine Kd.C_drew ?_)))
    (case side8 => exact HC353_4.out)
    rintro e w10 ⟨rfl, hb⟩
    refine ⟨_, rfl, ?_⟩
    have n0_ := Aside0.mk (below_step (zw0 HB.out) hb)
    clear HB
    have HB := n0_
    clear n0_
    (try clear hb)
    (try clear hb2)
    (try clear hk)
    (try clear hi)
    refine hK.out _ _ ⟨((HB.out.cell (World.block_lt_of_cell? w _ hw352_0)).trans hw352_0), ((HB.out.cell (World.block_lt_of_cell? w _ hw352_1)).trans hw352_1), ((HB.out.cell (World.block_lt_of_cell? w _ hw352_2)).trans hw352_2), ((HB.out.cell (World.block_lt_of_cell? w _ hw352_3)).trans hw352_3), ((HB.out.cell (World.block_lt_of_cell? w _ hw352_4)).trans hw352_4), ((HB.out.cell (World.block_lt_of_cell? w _ hw353_0)).trans hw353_0), ((HB.out.cell (World.block_lt_of_cell? w _ hw353_1)).trans hw353_1), ((HB.out.cell (World.block_lt_of_cell? w _ hw353_2)).trans hw353_2), ((HB.out.cell (World.block_lt_of_cell? w _ hw353_3)).trans hw353_3), ((HB.out.cell (World.block_lt_of_cell? w _ hw353_4)).trans hw353_4)⟩ (fun hHeld => ?_)
    clear hK K
    refine norm_ (a' := ?_) ?_ ?_
    rotate_left
    ·show Act.put _ (some 25) _ = _
     simp only [Act.put, List.setIfInBounds_toArray, List.set_cons_zero, List.set_cons_succ, i64_w, i32_w]
     rfl
    refine zq 9 (some 26) HT_ ?_
    refine done_ (done_of HT_.out (by kernel_rfl)) ?_
    try go_wp2
    go_roundg k1
    case measure => have := HK1.out; omega
    case rel => exact ⟨(wrap64 (x5_1 + 1)), (zr), H', ⟨by have := HK1.out; omega⟩, ⟨zw0 HB.out⟩⟩
 ·rw [if_neg c3] at H
  have c3b0 : ((l0.length : Int) == (l1.length : Int)) = false := beq_eq_false_iff_ne.mpr c3
  have c3b1 : ((l0.length : Int) != (l1.length : Int)) = true := bne_iff_ne.mpr c3
  have c3b2 : (l0.length == l1.length) = false := by first | simpa using c3 | (simp at c3 ⊢; omega)
  obtain rfl := Option.some.inj H
  go_enter Try.func24, Try.ntmps24
  go_wp2
  go_ret
  exact ⟨ze, zw0 HB.out⟩

end Go.Proofs.Ytjoplkillkhiaaa.L
