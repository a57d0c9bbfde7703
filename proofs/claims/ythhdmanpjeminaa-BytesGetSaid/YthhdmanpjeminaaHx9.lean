-- Written by this session's own edition of the print.
import Derived.Test.YthhdmanpjeminaaHx0
import Derived.Test.YthhdmanpjeminaaHx2
import Derived.Test.YthhdmanpjeminaaHx8
import Derived.Test.YthhdmanpjeminaaSq
import Derived.Test.YthhdmanpjeminaaSq2
namespace Go.Proofs.Ythhdmanpjeminaa.H
open Go.RowKit Go.Proofs.Ythhdmanpjeminaa.Fn Go.Proofs.YthhdmanpjeminaaW.PrintWords Go.Proofs.YthhdmanpjeminaaW.PrintLast Go.Proofs.YthhdmanpjeminaaW.PrintMore
attribute [local go_sem] max2_int min2_int max_two min_two max_three min_three max_four min_four   -- for this text's walks alone
set_option linter.unusedVariables false
set_option linter.unusedSimpArgs false

attribute [local go_sem high] eqA51
/-! cellarref7_Bytes -/
def cellarref7_Bytes.l0 : Nat → List (S51) → Int → Option (Bool)
 | 0, _, _ => none
 | k + 1, x0, x3 => if x3 < (x0.length : Int) then (if 0 ≤ x3 then ((cellarref7_Byte.f ((rd_T51 x0 x3).f0) ((rd_T51 x0 x3).f1) ((rd_T51 x0 x3).f2) ((rd_T51 x0 x3).f3) ((rd_T51 x0 x3).f4)).bind fun t227 => (if t227 = true then (cellarref7_Bytes.l0 k x0 (wrap64 (x3 + 1))) else (some false))) else (none)) else (some true)
def cellarref7_Bytes.f (k : Nat) (l0 : List (S51)) : Option (Bool) := cellarref7_Bytes.l0 k l0 0
theorem cellarref7_Bytes.mono_l : ∀ k, (∀ y0 y1, LeO (cellarref7_Bytes.l0 k y0 y1) (cellarref7_Bytes.l0 (k + 1) y0 y1))
 | 0 => fun _ _ r h => by simp [cellarref7_Bytes.l0] at h
 | k + 1 => by
  have ih0 := cellarref7_Bytes.mono_l k
  ·intro y0 y1
   unfold cellarref7_Bytes.l0
   repeat' first
   | (with_reducible apply ih0)
   | (with_reducible apply LeO.refl)
   | (with_reducible apply LeO.none)
   | (with_reducible refine LeO.ite ?_ ?_)
   | (with_reducible refine LeO.bind ?_ (fun _ => ?_))
theorem cellarref7_Bytes.mono : ∀ a0 k, LeO (cellarref7_Bytes.f k a0) (cellarref7_Bytes.f (k + 1) a0) := by
 intro a0 k
 have ih0 := cellarref7_Bytes.mono_l k
 unfold cellarref7_Bytes.f
 repeat' first
   | (with_reducible apply ih0)
   | (with_reducible apply LeO.refl)
   | (with_reducible apply LeO.none)
   | (with_reducible refine LeO.ite ?_ ?_)
   | (with_reducible refine LeO.bind ?_ (fun _ => ?_))
set_option maxHeartbeats 8000000 in
set_option maxRecDepth 100000 in
theorem cellarref7_Bytes.calls (k : Nat) (A0 : Option Addr) (c0 : Nat) (l0 : List (S51)) (r : Bool) (w : World) (hr0 : Kd.C k51 w A0 l0.length l0) (hc0 : l0.length ≤ c0) (h : cellarref7_Bytes.f k l0 = some r) :
  Calls Try.prog 21 #[.slice A0 l0.length c0] w fun e w' => e = .returned (.bool r) ∧ Below w.heap.size w w' := by
 have hu51 := Try.underlying51
 have HR0 := Aside0.mk hr0
 have HC0 := Aside0.mk hc0
 clear hr0 hc0
 have HB := Aside0.mk (Below.refl w.heap.size w)
 have H : (cellarref7_Bytes.l0 k l0 0) = some r := h
 clear h
 have H' := Aside0.mk H
 clear H
 go_enter Try.func21, Try.ntmps21
 go_wp2
 go_loopg [3] k (fun kq v3 w' => ∃ (x3_1 : Int), v3 = .int .i64 x3_1 ∧ Aside0 (cellarref7_Bytes.l0 kq l0 x3_1 = some r) ∧ Aside0 (kq ≤ k) ∧ Aside0 (Below w.heap.size w w'))
 case atStart => exact ⟨(0), (zr), H', ⟨Nat.le_refl _⟩, ⟨zw0 HB.out⟩⟩
 case round =>
  clear H'
  obtain ⟨x3_1, rfl, HA, HK1, HB⟩ := hrel
  cases gk with
  | zero => exact absurd HA.out (by simp [cellarref7_Bytes.l0])
  | succ k1 =>
   have H := HA.out
   clear HA
   simp only [cellarref7_Bytes.l0] at H
   by_cases c2 : x3_1 < (l0.length : Int)
   ·rw [if_pos c2] at H
    have c2b0 : decide (x3_1 < (l0.length : Int)) = true := decide_eq_true c2
    clear c2
    by_cases c3 : 0 ≤ x3_1
    rotate_left
    ·rw [if_neg c3] at H
     exact absurd H (by simp)
    rw [if_pos c3] at H
    have c3b0 : decide (0 ≤ x3_1) = true := decide_eq_true c3
    clear c3
    replace H := Option.bind_eq_some_iff.mp H
    obtain ⟨t227, A40, H⟩ := H
    replace H : (if t227 = true then (cellarref7_Bytes.l0 k1 l0 (wrap64 (x3_1 + 1))) else (some false)) = some r := H
    have A4 := Aside0.mk A40
    clear A40
    by_cases c5 : t227 = true
    rotate_left
    ·replace c5 := Bool.eq_false_iff.mpr c5
     subst c5
     have H1 : (some false) = some r := by rw [if_neg (show ¬ (false = true) by decide)] at H; exact H
     clear H
     have H := H1
     clear H1
     obtain rfl := Option.some.inj H
     have p226 : 0 ≤ (x3_1 : Int) := zdec
     have q226 : x3_1 < (l0.length : Int) := zdec
     obtain ⟨ad226, e226, hx226_0, hx226_1, hx226_2, hx226_3, hx226_4⟩ := at_T51 HR0.out x3_1 p226 q226
     cases e226
     replace hx226_0 := zh HB.out hx226_0
     replace hx226_1 := zh HB.out hx226_1
     replace hx226_2 := zh HB.out hx226_2
     replace hx226_3 := zh HB.out hx226_3
     replace hx226_4 := zh HB.out hx226_4
     replace p226 := eq_true p226
     replace q226 := eq_true q226
     go_wp2_with (first | ((with_reducible refine gate_callee (f := 33) rfl ?_); refine zgo (some 14) Try.func33 #[.agg #[.int .i64 ((rd_T51 l0 x3_1).f0), .int .i64 ((rd_T51 l0 x3_1).f1), .int .i64 ((rd_T51 l0 x3_1).f2), .int .i64 ((rd_T51 l0 x3_1).f3), .int .i64 ((rd_T51 l0 x3_1).f4)]] ?_; (with_reducible refine (cellarref7_Byte.calls ((rd_T51 l0 x3_1).f0) ((rd_T51 l0 x3_1).f1) ((rd_T51 l0 x3_1).f2) ((rd_T51 l0 x3_1).f3) ((rd_T51 l0 x3_1).f4) false _ A4.out).mono ?_); rintro e w7 ⟨rfl, hb⟩; refine ⟨_, rfl, ?_⟩; have n0_ := Aside0.mk (below_step (zw0 HB.out) hb); clear HB; have HB := n0_; clear n0_; (try clear hb); (try clear hb2); (try clear hk); (try clear hi)))
     go_ret
     exact ⟨ze, zw0 HB.out⟩
    subst c5
    have H1 : (cellarref7_Bytes.l0 k1 l0 (wrap64 (x3_1 + 1))) = some r := by rw [if_pos rfl] at H; exact H
    clear H
    have H := H1
    clear H1
    have H' := Aside0.mk H
    clear H
    have p226 : 0 ≤ (x3_1 : Int) := zdec
    have q226 : x3_1 < (l0.length : Int) := zdec
    obtain ⟨ad226, e226, hx226_0, hx226_1, hx226_2, hx226_3, hx226_4⟩ := at_T51 HR0.out x3_1 p226 q226
    cases e226
    replace hx226_0 := zh HB.out hx226_0
    replace hx226_1 := zh HB.out hx226_1
    replace hx226_2 := zh HB.out hx226_2
    replace hx226_3 := zh HB.out hx226_3
    replace hx226_4 := zh HB.out hx226_4
    replace p226 := eq_true p226
    replace q226 := eq_true q226
    go_wp2_with (first | ((with_reducible refine gate_callee (f := 33) rfl ?_); refine zgo (some 14) Try.func33 #[.agg #[.int .i64 ((rd_T51 l0 x3_1).f0), .int .i64 ((rd_T51 l0 x3_1).f1), .int .i64 ((rd_T51 l0 x3_1).f2), .int .i64 ((rd_T51 l0 x3_1).f3), .int .i64 ((rd_T51 l0 x3_1).f4)]] ?_; (with_reducible refine (cellarref7_Byte.calls ((rd_T51 l0 x3_1).f0) ((rd_T51 l0 x3_1).f1) ((rd_T51 l0 x3_1).f2) ((rd_T51 l0 x3_1).f3) ((rd_T51 l0 x3_1).f4) true _ A4.out).mono ?_); rintro e w6 ⟨rfl, hb⟩; refine ⟨_, rfl, ?_⟩; have n0_ := Aside0.mk (below_step (zw0 HB.out) hb); clear HB; have HB := n0_; clear n0_; (try clear hb); (try clear hb2); (try clear hk); (try clear hi)))
    go_roundg k1
    case measure => have := HK1.out; omega
    case rel => exact ⟨(wrap64 (x3_1 + 1)), (zr), H', ⟨by have := HK1.out; omega⟩, ⟨zw0 HB.out⟩⟩
   ·rw [if_neg c2] at H
    have c2b0 : decide (x3_1 < (l0.length : Int)) = false := decide_eq_false c2
    clear c2
    obtain rfl := Option.some.inj H
    go_wp2
    go_ret
    exact ⟨ze, zw0 HB.out⟩

/-! cellarref0_EqBytes -/
def cellarref0_EqBytes.l0 : Nat → List (S51) → List (S51) → Int → Option (Bool)
 | 0, _, _, _ => none
 | k + 1, x0, x1, x5 => if x5 < (x0.length : Int) then (if 0 ≤ x5 then (if x5 < (x1.length : Int) then (if (!(((rd_T51 x0 x5).f0) == ((rd_T51 x1 x5).f0)) || (!(((rd_T51 x0 x5).f1) == ((rd_T51 x1 x5).f1)) || (!(((rd_T51 x0 x5).f2) == ((rd_T51 x1 x5).f2)) || (!(((rd_T51 x0 x5).f3) == ((rd_T51 x1 x5).f3)) || (!(((rd_T51 x0 x5).f4) == ((rd_T51 x1 x5).f4))))))) = true then (some false) else (cellarref0_EqBytes.l0 k x0 x1 (wrap64 (x5 + 1)))) else (none)) else (none)) else (some true)
def cellarref0_EqBytes.f (k : Nat) (l0 : List (S51)) (l1 : List (S51)) : Option (Bool) := if (l0.length : Int) = (l1.length : Int) then (cellarref0_EqBytes.l0 k l0 l1 0) else (some false)
theorem cellarref0_EqBytes.mono_l : ∀ k, (∀ y0 y1 y2, LeO (cellarref0_EqBytes.l0 k y0 y1 y2) (cellarref0_EqBytes.l0 (k + 1) y0 y1 y2))
 | 0 => fun _ _ _ r h => by simp [cellarref0_EqBytes.l0] at h
 | k + 1 => by
  have ih0 := cellarref0_EqBytes.mono_l k
  ·intro y0 y1 y2
   unfold cellarref0_EqBytes.l0
   repeat' first
   | (with_reducible apply ih0)
   | (with_reducible apply LeO.refl)
   | (with_reducible apply LeO.none)
   | (with_reducible refine LeO.ite ?_ ?_)
   | (with_reducible refine LeO.bind ?_ (fun _ => ?_))
theorem cellarref0_EqBytes.mono : ∀ a0 a1 k, LeO (cellarref0_EqBytes.f k a0 a1) (cellarref0_EqBytes.f (k + 1) a0 a1) := by
 intro a0 a1 k
 have ih0 := cellarref0_EqBytes.mono_l k
 unfold cellarref0_EqBytes.f
 repeat' first
   | (with_reducible apply ih0)
   | (with_reducible apply LeO.refl)
   | (with_reducible apply LeO.none)
   | (with_reducible refine LeO.ite ?_ ?_)
   | (with_reducible refine LeO.bind ?_ (fun _ => ?_))
set_option maxHeartbeats 8000000 in
set_option maxRecDepth 100000 in
theorem cellarref0_EqBytes.calls (k : Nat) (A0 : Option Addr) (c0 : Nat) (l0 : List (S51)) (A1 : Option Addr) (c1 : Nat) (l1 : List (S51)) (r : Bool) (w : World) (hr0 : Kd.C k51 w A0 l0.length l0) (hc0 : l0.length ≤ c0) (hr1 : Kd.C k51 w A1 l1.length l1) (hc1 : l1.length ≤ c1) (h : cellarref0_EqBytes.f k l0 l1 = some r) :
  Calls Try.prog 24 #[.slice A0 l0.length c0, .slice A1 l1.length c1] w fun e w' => e = .returned (.bool r) ∧ Drawn0 w w' := by
 have hu51 := Try.underlying51
 have HR0 := Aside0.mk hr0
 have HC0 := Aside0.mk hc0
 clear hr0 hc0
 have HR1 := Aside0.mk hr1
 have HC1 := Aside0.mk hc1
 clear hr1 hc1
 have H : (if (l0.length : Int) = (l1.length : Int) then (cellarref0_EqBytes.l0 k l0 l1 0) else (some false)) = some r := h
 clear h
 by_cases c3 : (l0.length : Int) = (l1.length : Int)
 ·rw [if_pos c3] at H
  have c3b0 : ((l0.length : Int) == (l1.length : Int)) = true := beq_iff_eq.mpr c3
  have c3b1 : ((l0.length : Int) != (l1.length : Int)) = false := bne_eq_false_iff_eq.mpr c3
  have c3b2 : (l0.length == l1.length) = true := by first | simpa using c3 | (simp at c3 ⊢; omega)
  clear c3
  have H' := Aside0.mk H
  clear H
  go_enter Try.func24, Try.ntmps24
  go_wp2
  repeat (go_quiet (fail); try go_wp2)
  go_loopg [5] k (fun kq v5 w' => ∃ (x5_1 : Int), v5 = .int .i64 x5_1 ∧ Aside0 (cellarref0_EqBytes.l0 kq l0 l1 x5_1 = some r) ∧ Aside0 (kq ≤ k) ∧ Drawn0 w w')
  case atStart => exact ⟨(0), (zr), H', ⟨Nat.le_refl _⟩, by repeat (first | exact Drawn0.refl _ | apply Drawn0.step)⟩
  case round =>
   clear H'
   try clear c1; try clear c2; try clear p2; try clear c3; try clear c3b0; try clear c3b1; try clear c3b2
   obtain ⟨x5_1, rfl, HA, HK1, ⟨m1, rfl⟩⟩ := hrel
   cases gk with
   | zero => exact absurd HA.out (by simp [cellarref0_EqBytes.l0])
   | succ k1 =>
    have H := HA.out
    clear HA
    simp only [cellarref0_EqBytes.l0] at H
    by_cases c4 : x5_1 < (l0.length : Int)
    rotate_left
    ·rw [if_neg c4] at H
     have c4b0 : decide (x5_1 < (l0.length : Int)) = false := decide_eq_false c4
     clear c4
     obtain rfl := Option.some.inj H
     go_wp2
     repeat (go_quiet (fail); try go_wp2)
     go_ret
     exact ⟨zr, by repeat (first | exact Drawn0.refl _ | apply Drawn0.step)⟩
    rw [if_pos c4] at H
    have c4b0 : decide (x5_1 < (l0.length : Int)) = true := decide_eq_true c4
    clear c4
    by_cases c5 : 0 ≤ x5_1
    rotate_left
    ·rw [if_neg c5] at H
     exact absurd H (by simp)
    rw [if_pos c5] at H
    have c5b0 : decide (0 ≤ x5_1) = true := decide_eq_true c5
    clear c5
    by_cases c6 : x5_1 < (l1.length : Int)
    rotate_left
    ·rw [if_neg c6] at H
     exact absurd H (by simp)
    rw [if_pos c6] at H
    have c6b0 : decide (x5_1 < (l1.length : Int)) = true := decide_eq_true c6
    clear c6
    by_cases c7 : (!(((rd_T51 l0 x5_1).f0) == ((rd_T51 l1 x5_1).f0)) || (!(((rd_T51 l0 x5_1).f1) == ((rd_T51 l1 x5_1).f1)) || (!(((rd_T51 l0 x5_1).f2) == ((rd_T51 l1 x5_1).f2)) || (!(((rd_T51 l0 x5_1).f3) == ((rd_T51 l1 x5_1).f3)) || (!(((rd_T51 l0 x5_1).f4) == ((rd_T51 l1 x5_1).f4))))))) = true
    ·rw [if_pos c7] at H
     have c7b0 : (!(((rd_T51 l0 x5_1).f0) == ((rd_T51 l1 x5_1).f0)) || (!(((rd_T51 l0 x5_1).f1) == ((rd_T51 l1 x5_1).f1)) || (!(((rd_T51 l0 x5_1).f2) == ((rd_T51 l1 x5_1).f2)) || (!(((rd_T51 l0 x5_1).f3) == ((rd_T51 l1 x5_1).f3)) || (!(((rd_T51 l0 x5_1).f4) == ((rd_T51 l1 x5_1).f4))))))) = true := c7
     clear c7
     obtain rfl := Option.some.inj H
     have p228 : 0 ≤ (x5_1 : Int) := zdec
     have q228 : x5_1 < (l0.length : Int) := zdec
     obtain ⟨ad228, e228, hx228_0, hx228_1, hx228_2, hx228_3, hx228_4⟩ := at_T51 HR0.out x5_1 p228 q228
     cases e228
     replace p228 := eq_true p228
     replace q228 := eq_true q228
     have p229 : 0 ≤ (x5_1 : Int) := zdec
     have q229 : x5_1 < (l1.length : Int) := zdec
     obtain ⟨ad229, e229, hx229_0, hx229_1, hx229_2, hx229_3, hx229_4⟩ := at_T51 HR1.out x5_1 p229 q229
     cases e229
     replace p229 := eq_true p229
     replace q229 := eq_true q229
     go_wp2
     repeat (go_quiet (fail); try go_wp2)
     go_ret
     exact ⟨zr, by repeat (first | exact Drawn0.refl _ | apply Drawn0.step)⟩
    rw [if_neg c7] at H
    have c7b0 : (!(((rd_T51 l0 x5_1).f0) == ((rd_T51 l1 x5_1).f0)) || (!(((rd_T51 l0 x5_1).f1) == ((rd_T51 l1 x5_1).f1)) || (!(((rd_T51 l0 x5_1).f2) == ((rd_T51 l1 x5_1).f2)) || (!(((rd_T51 l0 x5_1).f3) == ((rd_T51 l1 x5_1).f3)) || (!(((rd_T51 l0 x5_1).f4) == ((rd_T51 l1 x5_1).f4))))))) = false := by simpa using c7
    clear c7
    have H' := Aside0.mk H
    clear H
    have p228 : 0 ≤ (x5_1 : Int) := zdec
    have q228 : x5_1 < (l0.length : Int) := zdec
    obtain ⟨ad228, e228, hx228_0, hx228_1, hx228_2, hx228_3, hx228_4⟩ := at_T51 HR0.out x5_1 p228 q228
    cases e228
    replace p228 := eq_true p228
    replace q228 := eq_true q228
    have p229 : 0 ≤ (x5_1 : Int) := zdec
    have q229 : x5_1 < (l1.length : Int) := zdec
    obtain ⟨ad229, e229, hx229_0, hx229_1, hx229_2, hx229_3, hx229_4⟩ := at_T51 HR1.out x5_1 p229 q229
    cases e229
    replace p229 := eq_true p229
    replace q229 := eq_true q229
    go_wp2
    repeat (go_quiet (fail); try go_wp2)
    go_roundg k1
    case measure => have := HK1.out; omega
    case rel => exact ⟨(wrap64 (x5_1 + 1)), (zr), H', ⟨by have := HK1.out; omega⟩, by repeat (first | exact Drawn0.refl _ | apply Drawn0.step)⟩
 ·rw [if_neg c3] at H
  have c3b0 : ((l0.length : Int) == (l1.length : Int)) = false := beq_eq_false_iff_ne.mpr c3
  have c3b1 : ((l0.length : Int) != (l1.length : Int)) = true := bne_iff_ne.mpr c3
  have c3b2 : (l0.length == l1.length) = false := by first | simpa using c3 | (simp at c3 ⊢; omega)
  obtain rfl := Option.some.inj H
  go_enter Try.func24, Try.ntmps24
  go_wp2
  repeat (go_quiet (fail); try go_wp2)
  go_ret
  exact ⟨zr, by repeat (first | exact Drawn0.refl _ | apply Drawn0.step)⟩

end Go.Proofs.Ythhdmanpjeminaa.H
