-- Written by this session's own edition of the print.
import Derived.Test.YtjoplkillkhiaaaLx0
import Derived.Test.YtjoplkillkhiaaaLx5
import Derived.Test.YtjoplkillkhiaaaUSq
import Derived.Test.YtjoplkillkhiaaaUSq2
namespace Go.Proofs.Ytjoplkillkhiaaa.L
open Go.RowKit Go.Proofs.Ytjoplkillkhiaaa.Fn Go.Proofs.YtjoplkillkhiaaaW.PrintWords Go.Proofs.YtjoplkillkhiaaaW.PrintLast Go.Proofs.YtjoplkillkhiaaaW.PrintMore
attribute [local go_sem] max2_int min2_int max_two min_two max_three min_three max_four min_four   -- for this text's walks alone
set_option linter.unusedVariables false
set_option linter.unusedSimpArgs false

/-! cellarref1_Width -/
mutual
def cellarref1_Width.j0 : Nat → Int → Bool → Option (Int)
 | 0, _, _ => none
 | k + 1, x3, x4 => if x4 = true then (some 8) else (if x3 = 3 then (cellarref1_Width.j1 k x3 (x3 == 3)) else (cellarref1_Width.j1 k x3 (x3 == 4)))
def cellarref1_Width.j1 : Nat → Int → Bool → Option (Int)
 | 0, _, _ => none
 | k + 1, x3, x7 => if x7 = true then (some 16) else (if x3 = 5 then (some 32) else (if x3 = 6 then (some 32) else (some 0)))
end
def cellarref1_Width.f (k : Nat) (a0 : Int) : Option (Int) := if a0 = 1 then (cellarref1_Width.j0 k a0 (a0 == 1)) else (cellarref1_Width.j0 k a0 (a0 == 2))
theorem cellarref1_Width.mono_l : ∀ k, (∀ y0 y1, LeO (cellarref1_Width.j0 k y0 y1) (cellarref1_Width.j0 (k + 1) y0 y1)) ∧ (∀ y0 y1, LeO (cellarref1_Width.j1 k y0 y1) (cellarref1_Width.j1 (k + 1) y0 y1))
 | 0 => ⟨fun _ _ r h => by simp [cellarref1_Width.j0] at h, fun _ _ r h => by simp [cellarref1_Width.j1] at h⟩
 | k + 1 => by
  obtain ⟨ih0, ih1⟩ := cellarref1_Width.mono_l k
  refine ⟨?_, ?_⟩
  ·intro y0 y1
   unfold cellarref1_Width.j0
   repeat' first
   | (with_reducible apply ih0)
   | (with_reducible apply ih1)
   | (with_reducible apply LeO.refl)
   | (with_reducible apply LeO.none)
   | (with_reducible refine LeO.ite ?_ ?_)
   | (with_reducible refine LeO.bind ?_ (fun _ => ?_))
  ·intro y0 y1
   unfold cellarref1_Width.j1
   repeat' first
   | (with_reducible apply ih0)
   | (with_reducible apply ih1)
   | (with_reducible apply LeO.refl)
   | (with_reducible apply LeO.none)
   | (with_reducible refine LeO.ite ?_ ?_)
   | (with_reducible refine LeO.bind ?_ (fun _ => ?_))
theorem cellarref1_Width.mono : ∀ a0 k, LeO (cellarref1_Width.f k a0) (cellarref1_Width.f (k + 1) a0) := by
 intro a0 k
 obtain ⟨ih0, ih1⟩ := cellarref1_Width.mono_l k
 unfold cellarref1_Width.f
 repeat' first
   | (with_reducible apply ih0)
   | (with_reducible apply ih1)
   | (with_reducible apply LeO.refl)
   | (with_reducible apply LeO.none)
   | (with_reducible refine LeO.ite ?_ ?_)
   | (with_reducible refine LeO.bind ?_ (fun _ => ?_))
set_option maxHeartbeats 8000000 in
set_option maxRecDepth 100000 in
theorem cellarref1_Width.calls (k : Nat) (a0 : Int) (r : Int) (w : World) (h : cellarref1_Width.f k a0 = some r) :
  Calls Try.prog 70 #[.int .i64 a0] w fun e w' => e = .returned (.int .i64 r) ∧ Drawn0 w w' := by
 have H : (if a0 = 1 then (cellarref1_Width.j0 k a0 (a0 == 1)) else (cellarref1_Width.j0 k a0 (a0 == 2))) = some r := h
 clear h
 have HC2 := Aside0.mk H
 clear H
 go_enter Try.func70, Try.ntmps70
 go_upto_if 4 with (fail)
 go_cut [4] (fun v4 wc => ∃ (kq : Nat) (x4_1 : Bool), v4 = .bool x4_1 ∧ Aside0 (cellarref1_Width.j0 kq a0 x4_1 = some r) ∧ Aside0 (kq ≤ k) ∧ Drawn0 w wc)
 case first =>
  have H := HC2.out
  clear HC2
  by_cases c3 : a0 = 1
  rotate_left
  ·rw [if_neg c3] at H
   have c3b0 : (a0 == 1) = false := beq_eq_false_iff_ne.mpr c3
   have c3b1 : (a0 != 1) = true := bne_iff_ne.mpr c3
   (first | rw [c3b0] | (simp only [i64_w, i32_w]; rw [c3b0]) | skip)
   have H' := Aside0.mk H
   clear H
   go_wp2
   go_meet
   case rel => exact ⟨_, ((a0 == 2)), (zr), H', ⟨by first | omega | exact Nat.le_refl _⟩, by repeat (first | exact Drawn0.refl _ | apply Drawn0.step)⟩
  rw [if_pos c3] at H
  have c3b0 : (a0 == 1) = true := beq_iff_eq.mpr c3
  have c3b1 : (a0 != 1) = false := bne_eq_false_iff_eq.mpr c3
  clear c3
  (first | rw [c3b0] | (simp only [i64_w, i32_w]; rw [c3b0]) | skip)
  have H' := Aside0.mk H
  clear H
  go_wp2
  go_meet
  case rel => exact ⟨_, ((a0 == 1)), (zr), H', ⟨by first | omega | exact Nat.le_refl _⟩, by repeat (first | exact Drawn0.refl _ | apply Drawn0.step)⟩
 case rest =>
  clear HC2
  try clear p2; try clear c3; try clear c3b0; try clear c3b1
  obtain ⟨kq, x4_1, rfl, HA, HJ1, ⟨mc1, rfl⟩⟩ := hcut
  cases kq with
  | zero => exact absurd HA.out (by simp [cellarref1_Width.j0])
  | succ kj1 =>
   have H := HA.out
   clear HA
   simp only [cellarref1_Width.j0] at H
   by_cases c4 : x4_1 = true
   ·subst c4
    have H1 : (some 8) = some r := by rw [if_pos rfl] at H; exact H
    clear H
    have H := H1
    clear H1
    obtain rfl := Option.some.inj H
    go_wp2
    go_ret
    exact ⟨zr, by repeat (first | exact Drawn0.refl _ | apply Drawn0.step)⟩
   ·replace c4 := Bool.eq_false_iff.mpr c4
    subst c4
    have H1 : (if a0 = 3 then (cellarref1_Width.j1 kj1 a0 (a0 == 3)) else (cellarref1_Width.j1 kj1 a0 (a0 == 4))) = some r := by rw [if_neg (show ¬ (false = true) by decide)] at H; exact H
    clear H
    have H := H1
    clear H1
    have HC5 := Aside0.mk H
    clear H
    go_upto_if 7 with (fail)
    go_cut [7] (fun v7 wc => ∃ (kq : Nat) (x7_4 : Bool), v7 = .bool x7_4 ∧ Aside0 (cellarref1_Width.j1 kq a0 x7_4 = some r) ∧ Aside0 (kq ≤ kj1) ∧ Drawn0 w wc)
    case first =>
     have H := HC5.out
     clear HC5
     by_cases c6 : a0 = 3
     rotate_left
     ·rw [if_neg c6] at H
      have c6b0 : (a0 == 3) = false := beq_eq_false_iff_ne.mpr c6
      have c6b1 : (a0 != 3) = true := bne_iff_ne.mpr c6
      (first | rw [c6b0] | (simp only [i64_w, i32_w]; rw [c6b0]) | skip)
      have H' := Aside0.mk H
      clear H
      go_wp2
      go_meet
      case rel => exact ⟨_, ((a0 == 4)), (zr), H', ⟨by have := HJ1.out; first | omega | exact Nat.le_refl _⟩, by repeat (first | exact Drawn0.refl _ | apply Drawn0.step)⟩
     rw [if_pos c6] at H
     have c6b0 : (a0 == 3) = true := beq_iff_eq.mpr c6
     have c6b1 : (a0 != 3) = false := bne_eq_false_iff_eq.mpr c6
     clear c6
     (first | rw [c6b0] | (simp only [i64_w, i32_w]; rw [c6b0]) | skip)
     have H' := Aside0.mk H
     clear H
     go_wp2
     go_meet
     case rel => exact ⟨_, ((a0 == 3)), (zr), H', ⟨by have := HJ1.out; first | omega | exact Nat.le_refl _⟩, by repeat (first | exact Drawn0.refl _ | apply Drawn0.step)⟩
    case rest =>
     clear HC5
     try clear c1; try clear p2; try clear c3; try clear c3b0; try clear c3b1; try clear c4; try clear c6; try clear c6b0; try clear c6b1; try clear p2
     obtain ⟨kq, x7_4, rfl, HA, HJ4, ⟨mc4, rfl⟩⟩ := hcut
     cases kq with
     | zero => exact absurd HA.out (by simp [cellarref1_Width.j1])
     | succ kj4 =>
      have H := HA.out
      clear HA
      simp only [cellarref1_Width.j1] at H
      by_cases c7 : x7_4 = true
      ·subst c7
       have H1 : (some 16) = some r := by rw [if_pos rfl] at H; exact H
       clear H
       have H := H1
       clear H1
       obtain rfl := Option.some.inj H
       go_wp2
       go_ret
       exact ⟨zr, by repeat (first | exact Drawn0.refl _ | apply Drawn0.step)⟩
      ·replace c7 := Bool.eq_false_iff.mpr c7
       subst c7
       have H1 : (if a0 = 5 then (some 32) else (if a0 = 6 then (some 32) else (some 0))) = some r := by rw [if_neg (show ¬ (false = true) by decide)] at H; exact H
       clear H
       have H := H1
       clear H1
       by_cases c8 : a0 = 5
       ·rw [if_pos c8] at H
        have c8b0 : (a0 == 5) = true := beq_iff_eq.mpr c8
        have c8b1 : (a0 != 5) = false := bne_eq_false_iff_eq.mpr c8
        clear c8
        obtain rfl := Option.some.inj H
        go_wp2
        go_ret
        exact ⟨zr, by repeat (first | exact Drawn0.refl _ | apply Drawn0.step)⟩
       ·rw [if_neg c8] at H
        have c8b0 : (a0 == 5) = false := beq_eq_false_iff_ne.mpr c8
        have c8b1 : (a0 != 5) = true := bne_iff_ne.mpr c8
        by_cases c9 : a0 = 6
        ·rw [if_pos c9] at H
         have c9b0 : (a0 == 6) = true := beq_iff_eq.mpr c9
         have c9b1 : (a0 != 6) = false := bne_eq_false_iff_eq.mpr c9
         clear c9
         obtain rfl := Option.some.inj H
         go_wp2
         go_ret
         exact ⟨zr, by repeat (first | exact Drawn0.refl _ | apply Drawn0.step)⟩
        ·rw [if_neg c9] at H
         have c9b0 : (a0 == 6) = false := beq_eq_false_iff_ne.mpr c9
         have c9b1 : (a0 != 6) = true := bne_iff_ne.mpr c9
         obtain rfl := Option.some.inj H
         go_wp2
         go_ret
         exact ⟨zr, by repeat (first | exact Drawn0.refl _ | apply Drawn0.step)⟩

/-! cellarref1_Size -/
def cellarref1_Size.f (k : Nat) (a0_0 : Bool) (a0_1 : Int) (a1 : Int) : Option (Int) := if a1 = 7 then (some a0_1) else ((cellarref1_Width.f k a1).bind fun t248 => (some (wrap64 (Int.tdiv t248 8))))
theorem cellarref1_Size.mono : ∀ a0 a1 a2 k, LeO (cellarref1_Size.f k a0 a1 a2) (cellarref1_Size.f (k + 1) a0 a1 a2) := by
 intro a0 a1 a2 k
 unfold cellarref1_Size.f
 repeat' first
   | (with_reducible apply cellarref1_Width.mono)
   | (with_reducible apply LeO.refl)
   | (with_reducible apply LeO.none)
   | (with_reducible refine LeO.ite ?_ ?_)
   | (with_reducible refine LeO.bind ?_ (fun _ => ?_))
set_option maxHeartbeats 8000000 in
set_option maxRecDepth 100000 in
theorem cellarref1_Size.calls (k : Nat) (a0_0 : Bool) (a0_1 : Int) (a1 : Int) (r : Int) (w : World) (h : cellarref1_Size.f k a0_0 a0_1 a1 = some r) :
  Calls Try.prog 43 #[.agg #[.bool a0_0, .int .i64 a0_1], .int .i64 a1] w fun e w' => e = .returned (.int .i64 r) ∧ Below w.heap.size w w' := by
 have hu29 := Try.underlying29
 have HB := Aside0.mk (Below.refl w.heap.size w)
 have H : (if a1 = 7 then (some a0_1) else ((cellarref1_Width.f k a1).bind fun t248 => (some (wrap64 (Int.tdiv t248 8))))) = some r := h
 clear h
 by_cases c3 : a1 = 7
 ·rw [if_pos c3] at H
  have c3b0 : (a1 == 7) = true := beq_iff_eq.mpr c3
  have c3b1 : (a1 != 7) = false := bne_eq_false_iff_eq.mpr c3
  clear c3
  obtain rfl := Option.some.inj H
  go_enter Try.func43, Try.ntmps43
  go_wp2_with (first | ((with_reducible refine gate_dst (N := 2) rfl ?_); refine zbox (N := 2) (cs := #[.bool a0_0, .int .i64 a0_1]) (t := 29) ?_; intro gb247 hg w4 hbox hb; have n0_ := Aside0.mk (below_step (zw0 HB.out) hb); have BK247 := Aside0.mk (hbox); have GW247 := Aside0.mk (zg hg (below_size (zw0 HB.out))); have GE247 := GW247; clear HB; have HB := n0_; clear n0_; clear hb hbox hg; have hcz5_0 := zc BK247.out 0; have hcz5_1 := zc BK247.out 1; have hfz5_0 := blk_frozen BK247.out 0; have hfz5_1 := blk_frozen BK247.out 1))
  go_ret
  exact ⟨ze, zw1 HB.out GE247.out⟩
 ·rw [if_neg c3] at H
  have c3b0 : (a1 == 7) = false := beq_eq_false_iff_ne.mpr c3
  have c3b1 : (a1 != 7) = true := bne_iff_ne.mpr c3
  replace H := Option.bind_eq_some_iff.mp H
  obtain ⟨t248, A60, H⟩ := H
  replace H : (some (wrap64 (Int.tdiv t248 8))) = some r := H
  have A6 := Aside0.mk A60
  clear A60
  obtain rfl := Option.some.inj H
  go_enter Try.func43, Try.ntmps43
  go_wp2_with (first | ((with_reducible refine gate_dst (N := 2) rfl ?_); refine zbox (N := 2) (cs := #[.bool a0_0, .int .i64 a0_1]) (t := 29) ?_; intro gb247 hg w7 hbox hb; have n0_ := Aside0.mk (below_step (zw0 HB.out) hb); have BK247 := Aside0.mk (hbox); have GW247 := Aside0.mk (zg hg (below_size (zw0 HB.out))); have GE247 := GW247; clear HB; have HB := n0_; clear n0_; clear hb hbox hg) | ((with_reducible refine gate_callee (f := 70) rfl ?_); refine zgo (some 10) Try.func70 #[.int .i64 a1] ?_; (with_reducible refine (cellarref1_Width.calls k a1 t248 _ A6.out).mono ?_); rintro e w' ⟨rfl, ⟨nd, rfl⟩⟩; refine ⟨_, rfl, ?_⟩))
  go_ret
  exact ⟨ze, zw1 HB.out GE247.out⟩

/-! cellarref7_name -/
def cellarref7_name.l0 : Nat → ByteArray → Int → Option (Bool)
 | 0, _, _ => none
 | k + 1, x0, x3 => if x3 < (x0.size : Int) then (if x3 > 0 then (if 0 ≤ x3 then (if (bt x0 x3) ≥ 48 then (if ((bt x0 x3) ≤ 57) then (cellarref7_name.l0 k x0 (wrap64 (x3 + 1))) else (if (bt x0 x3) < 97 then (some false) else (if (bt x0 x3) > 122 then (some false) else (cellarref7_name.l0 k x0 (wrap64 (x3 + 1)))))) else (if (bt x0 x3) < 97 then (some false) else (if (bt x0 x3) > 122 then (some false) else (cellarref7_name.l0 k x0 (wrap64 (x3 + 1)))))) else (none)) else (if 0 ≤ x3 then (if (bt x0 x3) < 97 then (some false) else (if (bt x0 x3) > 122 then (some false) else (cellarref7_name.l0 k x0 (wrap64 (x3 + 1))))) else (none))) else ((cellarref0_Between.f (x0.size : Int) 1 8).bind fun t249 => (some t249))
def cellarref7_name.f (k : Nat) (a0 : ByteArray) : Option (Bool) := cellarref7_name.l0 k a0 0
theorem cellarref7_name.mono_l : ∀ k, (∀ y0 y1, LeO (cellarref7_name.l0 k y0 y1) (cellarref7_name.l0 (k + 1) y0 y1))
 | 0 => fun _ _ r h => by simp [cellarref7_name.l0] at h
 | k + 1 => by
  have ih0 := cellarref7_name.mono_l k
  ·intro y0 y1
   unfold cellarref7_name.l0
   repeat' first
   | (with_reducible apply ih0)
   | (with_reducible apply LeO.refl)
   | (with_reducible apply LeO.none)
   | (with_reducible refine LeO.ite ?_ ?_)
   | (with_reducible refine LeO.bind ?_ (fun _ => ?_))
theorem cellarref7_name.mono : ∀ a0 k, LeO (cellarref7_name.f k a0) (cellarref7_name.f (k + 1) a0) := by
 intro a0 k
 have ih0 := cellarref7_name.mono_l k
 unfold cellarref7_name.f
 repeat' first
   | (with_reducible apply ih0)
   | (with_reducible apply LeO.refl)
   | (with_reducible apply LeO.none)
   | (with_reducible refine LeO.ite ?_ ?_)
   | (with_reducible refine LeO.bind ?_ (fun _ => ?_))
set_option maxHeartbeats 8000000 in
set_option maxRecDepth 100000 in
theorem cellarref7_name.calls (k : Nat) (a0 : ByteArray) (r : Bool) (w : World) (h : cellarref7_name.f k a0 = some r) :
  Calls Try.prog 89 #[.string a0] w fun e w' => e = .returned (.bool r) ∧ Drawn0 w w' := by
 have H : (cellarref7_name.l0 k a0 0) = some r := h
 clear h
 have H' := Aside0.mk H
 clear H
 go_enter Try.func89, Try.ntmps89
 go_wp2
 go_loopg [3] k (fun kq v3 w' => ∃ (x3_1 : Int), v3 = .int .i64 x3_1 ∧ Aside0 (cellarref7_name.l0 kq a0 x3_1 = some r) ∧ Aside0 (kq ≤ k) ∧ Drawn0 w w')
 case atStart => exact ⟨(0), (zr), H', ⟨Nat.le_refl _⟩, by repeat (first | exact Drawn0.refl _ | apply Drawn0.step)⟩
 case round =>
  clear H'
  obtain ⟨x3_1, rfl, HA, HK1, ⟨m1, rfl⟩⟩ := hrel
  cases gk with
  | zero => exact absurd HA.out (by simp [cellarref7_name.l0])
  | succ k1 =>
   have H := HA.out
   clear HA
   simp only [cellarref7_name.l0] at H
   by_cases c2 : x3_1 < (a0.size : Int)
   ·rw [if_pos c2] at H
    have c2b0 : decide (x3_1 < (a0.size : Int)) = true := decide_eq_true c2
    clear c2
    by_cases c3 : x3_1 > 0
    rotate_left
    ·rw [if_neg c3] at H
     have c3b0 : decide (0 < x3_1) = false := decide_eq_false c3
     clear c3
     by_cases c17 : 0 ≤ x3_1
     rotate_left
     ·rw [if_neg c17] at H
      exact absurd H (by simp)
     rw [if_pos c17] at H
     have c17b0 : decide (0 ≤ x3_1) = true := decide_eq_true c17
     clear c17
     by_cases c19 : (bt a0 x3_1) < 97
     ·rw [if_pos c19] at H
      have c19b0 : decide ((bt a0 x3_1) < 97) = true := decide_eq_true c19
      clear c19
      obtain rfl := Option.some.inj H
      have p18 : 0 ≤ (x3_1 : Int) := zdec
      have q18 : x3_1 < (a0.size : Int) := zdec
      have hx18 := bt_at a0 x3_1
      replace p18 := eq_true p18
      replace q18 := eq_true q18
      go_wp2
      go_ret
      exact ⟨zr, by repeat (first | exact Drawn0.refl _ | apply Drawn0.step)⟩
     rw [if_neg c19] at H
     have c19b0 : decide ((bt a0 x3_1) < 97) = false := decide_eq_false c19
     clear c19
     by_cases c21 : (bt a0 x3_1) > 122
     ·rw [if_pos c21] at H
      have c21b0 : decide (122 < (bt a0 x3_1)) = true := decide_eq_true c21
      clear c21
      obtain rfl := Option.some.inj H
      have p18 : 0 ≤ (x3_1 : Int) := zdec
      have q18 : x3_1 < (a0.size : Int) := zdec
      have hx18 := bt_at a0 x3_1
      replace p18 := eq_true p18
      replace q18 := eq_true q18
      have p20 : 0 ≤ (x3_1 : Int) := zdec
      have q20 : x3_1 < (a0.size : Int) := zdec
      have hx20 := bt_at a0 x3_1
      replace p20 := eq_true p20
      replace q20 := eq_true q20
      go_wp2
      go_ret
      exact ⟨zr, by repeat (first | exact Drawn0.refl _ | apply Drawn0.step)⟩
     rw [if_neg c21] at H
     have c21b0 : decide (122 < (bt a0 x3_1)) = false := decide_eq_false c21
     clear c21
     have H' := Aside0.mk H
     clear H
     have p18 : 0 ≤ (x3_1 : Int) := zdec
     have q18 : x3_1 < (a0.size : Int) := zdec
     have hx18 := bt_at a0 x3_1
     replace p18 := eq_true p18
     replace q18 := eq_true q18
     have p20 : 0 ≤ (x3_1 : Int) := zdec
     have q20 : x3_1 < (a0.size : Int) := zdec
     have hx20 := bt_at a0 x3_1
     replace p20 := eq_true p20
     replace q20 := eq_true q20
     go_wp2
     go_roundg k1
     case measure => have := HK1.out; omega
     case rel => exact ⟨(wrap64 (x3_1 + 1)), (zr), H', ⟨by have := HK1.out; omega⟩, by repeat (first | exact Drawn0.refl _ | apply Drawn0.step)⟩
    rw [if_pos c3] at H
    have c3b0 : decide (0 < x3_1) = true := decide_eq_true c3
    clear c3
    by_cases c4 : 0 ≤ x3_1
    rotate_left
    ·rw [if_neg c4] at H
     exact absurd H (by simp)
    rw [if_pos c4] at H
    have c4b0 : decide (0 ≤ x3_1) = true := decide_eq_true c4
    clear c4
    by_cases c6 : (bt a0 x3_1) ≥ 48
    rotate_left
    ·rw [if_neg c6] at H
     have c6b0 : decide (48 ≤ (bt a0 x3_1)) = false := decide_eq_false c6
     clear c6
     by_cases c14 : (bt a0 x3_1) < 97
     ·rw [if_pos c14] at H
      have c14b0 : decide ((bt a0 x3_1) < 97) = true := decide_eq_true c14
      clear c14
      obtain rfl := Option.some.inj H
      have p5 : 0 ≤ (x3_1 : Int) := zdec
      have q5 : x3_1 < (a0.size : Int) := zdec
      have hx5 := bt_at a0 x3_1
      replace p5 := eq_true p5
      replace q5 := eq_true q5
      have p13 : 0 ≤ (x3_1 : Int) := zdec
      have q13 : x3_1 < (a0.size : Int) := zdec
      have hx13 := bt_at a0 x3_1
      replace p13 := eq_true p13
      replace q13 := eq_true q13
      go_wp2
      go_ret
      exact ⟨zr, by repeat (first | exact Drawn0.refl _ | apply Drawn0.step)⟩
     rw [if_neg c14] at H
     have c14b0 : decide ((bt a0 x3_1) < 97) = false := decide_eq_false c14
     clear c14
     by_cases c16 : (bt a0 x3_1) > 122
     ·rw [if_pos c16] at H
      have c16b0 : decide (122 < (bt a0 x3_1)) = true := decide_eq_true c16
      clear c16
      obtain rfl := Option.some.inj H
      have p5 : 0 ≤ (x3_1 : Int) := zdec
      have q5 : x3_1 < (a0.size : Int) := zdec
      have hx5 := bt_at a0 x3_1
      replace p5 := eq_true p5
      replace q5 := eq_true q5
      have p13 : 0 ≤ (x3_1 : Int) := zdec
      have q13 : x3_1 < (a0.size : Int) := zdec
      have hx13 := bt_at a0 x3_1
      replace p13 := eq_true p13
      replace q13 := eq_true q13
      have p15 : 0 ≤ (x3_1 : Int) := zdec
      have q15 : x3_1 < (a0.size : Int) := zdec
      have hx15 := bt_at a0 x3_1
      replace p15 := eq_true p15
      replace q15 := eq_true q15
      go_wp2
      go_ret
      exact ⟨zr, by repeat (first | exact Drawn0.refl _ | apply Drawn0.step)⟩
     rw [if_neg c16] at H
     have c16b0 : decide (122 < (bt a0 x3_1)) = false := decide_eq_false c16
     clear c16
     have H' := Aside0.mk H
     clear H
     have p5 : 0 ≤ (x3_1 : Int) := zdec
     have q5 : x3_1 < (a0.size : Int) := zdec
     have hx5 := bt_at a0 x3_1
     replace p5 := eq_true p5
     replace q5 := eq_true q5
     have p13 : 0 ≤ (x3_1 : Int) := zdec
     have q13 : x3_1 < (a0.size : Int) := zdec
     have hx13 := bt_at a0 x3_1
     replace p13 := eq_true p13
     replace q13 := eq_true q13
     have p15 : 0 ≤ (x3_1 : Int) := zdec
     have q15 : x3_1 < (a0.size : Int) := zdec
     have hx15 := bt_at a0 x3_1
     replace p15 := eq_true p15
     replace q15 := eq_true q15
     go_wp2
     go_roundg k1
     case measure => have := HK1.out; omega
     case rel => exact ⟨(wrap64 (x3_1 + 1)), (zr), H', ⟨by have := HK1.out; omega⟩, by repeat (first | exact Drawn0.refl _ | apply Drawn0.step)⟩
    rw [if_pos c6] at H
    have c6b0 : decide (48 ≤ (bt a0 x3_1)) = true := decide_eq_true c6
    clear c6
    by_cases c8 : ((bt a0 x3_1) ≤ 57)
    ·rw [if_pos c8] at H
     have c8b0 : decide ((bt a0 x3_1) ≤ 57) = true := decide_eq_true c8
     clear c8
     have H' := Aside0.mk H
     clear H
     have p5 : 0 ≤ (x3_1 : Int) := zdec
     have q5 : x3_1 < (a0.size : Int) := zdec
     have hx5 := bt_at a0 x3_1
     replace p5 := eq_true p5
     replace q5 := eq_true q5
     have p7 : 0 ≤ (x3_1 : Int) := zdec
     have q7 : x3_1 < (a0.size : Int) := zdec
     have hx7 := bt_at a0 x3_1
     replace p7 := eq_true p7
     replace q7 := eq_true q7
     go_wp2
     go_roundg k1
     case measure => have := HK1.out; omega
     case rel => exact ⟨(wrap64 (x3_1 + 1)), (zr), H', ⟨by have := HK1.out; omega⟩, by repeat (first | exact Drawn0.refl _ | apply Drawn0.step)⟩
    rw [if_neg c8] at H
    have c8b0 : decide ((bt a0 x3_1) ≤ 57) = false := decide_eq_false c8
    clear c8
    by_cases c10 : (bt a0 x3_1) < 97
    ·rw [if_pos c10] at H
     have c10b0 : decide ((bt a0 x3_1) < 97) = true := decide_eq_true c10
     clear c10
     obtain rfl := Option.some.inj H
     have p5 : 0 ≤ (x3_1 : Int) := zdec
     have q5 : x3_1 < (a0.size : Int) := zdec
     have hx5 := bt_at a0 x3_1
     replace p5 := eq_true p5
     replace q5 := eq_true q5
     have p7 : 0 ≤ (x3_1 : Int) := zdec
     have q7 : x3_1 < (a0.size : Int) := zdec
     have hx7 := bt_at a0 x3_1
     replace p7 := eq_true p7
     replace q7 := eq_true q7
     have p9 : 0 ≤ (x3_1 : Int) := zdec
     have q9 : x3_1 < (a0.size : Int) := zdec
     have hx9 := bt_at a0 x3_1
     replace p9 := eq_true p9
     replace q9 := eq_true q9
     go_wp2
     go_ret
     exact ⟨zr, by repeat (first | exact Drawn0.refl _ | apply Drawn0.step)⟩
    rw [if_neg c10] at H
    have c10b0 : decide ((bt a0 x3_1) < 97) = false := decide_eq_false c10
    clear c10
    by_cases c12 : (bt a0 x3_1) > 122
    ·rw [if_pos c12] at H
     have c12b0 : decide (122 < (bt a0 x3_1)) = true := decide_eq_true c12
     clear c12
     obtain rfl := Option.some.inj H
     have p5 : 0 ≤ (x3_1 : Int) := zdec
     have q5 : x3_1 < (a0.size : Int) := zdec
     have hx5 := bt_at a0 x3_1
     replace p5 := eq_true p5
     replace q5 := eq_true q5
     have p7 : 0 ≤ (x3_1 : Int) := zdec
     have q7 : x3_1 < (a0.size : Int) := zdec
     have hx7 := bt_at a0 x3_1
     replace p7 := eq_true p7
     replace q7 := eq_true q7
     have p9 : 0 ≤ (x3_1 : Int) := zdec
     have q9 : x3_1 < (a0.size : Int) := zdec
     have hx9 := bt_at a0 x3_1
     replace p9 := eq_true p9
     replace q9 := eq_true q9
     have p11 : 0 ≤ (x3_1 : Int) := zdec
     have q11 : x3_1 < (a0.size : Int) := zdec
     have hx11 := bt_at a0 x3_1
     replace p11 := eq_true p11
     replace q11 := eq_true q11
     go_wp2
     go_ret
     exact ⟨zr, by repeat (first | exact Drawn0.refl _ | apply Drawn0.step)⟩
    rw [if_neg c12] at H
    have c12b0 : decide (122 < (bt a0 x3_1)) = false := decide_eq_false c12
    clear c12
    have H' := Aside0.mk H
    clear H
    have p5 : 0 ≤ (x3_1 : Int) := zdec
    have q5 : x3_1 < (a0.size : Int) := zdec
    have hx5 := bt_at a0 x3_1
    replace p5 := eq_true p5
    replace q5 := eq_true q5
    have p7 : 0 ≤ (x3_1 : Int) := zdec
    have q7 : x3_1 < (a0.size : Int) := zdec
    have hx7 := bt_at a0 x3_1
    replace p7 := eq_true p7
    replace q7 := eq_true q7
    have p9 : 0 ≤ (x3_1 : Int) := zdec
    have q9 : x3_1 < (a0.size : Int) := zdec
    have hx9 := bt_at a0 x3_1
    replace p9 := eq_true p9
    replace q9 := eq_true q9
    have p11 : 0 ≤ (x3_1 : Int) := zdec
    have q11 : x3_1 < (a0.size : Int) := zdec
    have hx11 := bt_at a0 x3_1
    replace p11 := eq_true p11
    replace q11 := eq_true q11
    go_wp2
    go_roundg k1
    case measure => have := HK1.out; omega
    case rel => exact ⟨(wrap64 (x3_1 + 1)), (zr), H', ⟨by have := HK1.out; omega⟩, by repeat (first | exact Drawn0.refl _ | apply Drawn0.step)⟩
   ·rw [if_neg c2] at H
    have c2b0 : decide (x3_1 < (a0.size : Int)) = false := decide_eq_false c2
    clear c2
    replace H := Option.bind_eq_some_iff.mp H
    obtain ⟨t249, A220, H⟩ := H
    replace H : (some t249) = some r := H
    have A22 := Aside0.mk A220
    clear A220
    obtain rfl := Option.some.inj H
    go_wp2_with (first | ((with_reducible refine gate_callee (f := 64) rfl ?_); refine zgo (some 41) Try.func64 #[.int .i64 (a0.size : Int), .int .i64 1, .int .i64 8] ?_; (with_reducible refine (cellarref0_Between.calls (a0.size : Int) 1 8 t249 _ A22.out).mono ?_); rintro e w' ⟨rfl, ⟨nd, rfl⟩⟩; refine ⟨_, rfl, ?_⟩))
    go_ret
    exact ⟨zr, by repeat (first | exact Drawn0.refl _ | apply Drawn0.step)⟩

/-! cellarref0_Has -/
def cellarref0_Has.l0 : Nat → List ByteArray → ByteArray → Int → Option (Bool)
 | 0, _, _, _ => none
 | k + 1, x0, x1, x5 => if x5 < (x0.length : Int) then (if 0 ≤ x5 then (if (rdOf ByteArray.empty x0 x5).toList = x1.toList then (some true) else (cellarref0_Has.l0 k x0 x1 (wrap64 (x5 + 1)))) else (none)) else (some false)
def cellarref0_Has.f (k : Nat) (l0 : List ByteArray) (a1 : ByteArray) : Option (Bool) := cellarref0_Has.l0 k l0 a1 0
theorem cellarref0_Has.mono_l : ∀ k, (∀ y0 y1 y2, LeO (cellarref0_Has.l0 k y0 y1 y2) (cellarref0_Has.l0 (k + 1) y0 y1 y2))
 | 0 => fun _ _ _ r h => by simp [cellarref0_Has.l0] at h
 | k + 1 => by
  have ih0 := cellarref0_Has.mono_l k
  ·intro y0 y1 y2
   unfold cellarref0_Has.l0
   repeat' first
   | (with_reducible apply ih0)
   | (with_reducible apply LeO.refl)
   | (with_reducible apply LeO.none)
   | (with_reducible refine LeO.ite ?_ ?_)
   | (with_reducible refine LeO.bind ?_ (fun _ => ?_))
theorem cellarref0_Has.mono : ∀ a0 a1 k, LeO (cellarref0_Has.f k a0 a1) (cellarref0_Has.f (k + 1) a0 a1) := by
 intro a0 a1 k
 have ih0 := cellarref0_Has.mono_l k
 unfold cellarref0_Has.f
 repeat' first
   | (with_reducible apply ih0)
   | (with_reducible apply LeO.refl)
   | (with_reducible apply LeO.none)
   | (with_reducible refine LeO.ite ?_ ?_)
   | (with_reducible refine LeO.bind ?_ (fun _ => ?_))
set_option maxHeartbeats 8000000 in
set_option maxRecDepth 100000 in
theorem cellarref0_Has.calls (k : Nat) (A0 : Option Addr) (c0 : Nat) (l0 : List ByteArray) (a1 : ByteArray) (r : Bool) (w : World) (hr0 : Kd.C Kd.string w A0 l0.length l0) (hc0 : l0.length ≤ c0) (h : cellarref0_Has.f k l0 a1 = some r) :
  Calls Try.prog 90 #[.slice A0 l0.length c0, .string a1] w fun e w' => e = .returned (.bool r) ∧ Drawn0 w w' := by
 have HR0 := Aside0.mk hr0
 have HC0 := Aside0.mk hc0
 clear hr0 hc0
 have H : (cellarref0_Has.l0 k l0 a1 0) = some r := h
 clear h
 have H' := Aside0.mk H
 clear H
 go_enter Try.func90, Try.ntmps90
 go_wp2
 go_loopg [5] k (fun kq v5 w' => ∃ (x5_1 : Int), v5 = .int .i64 x5_1 ∧ Aside0 (cellarref0_Has.l0 kq l0 a1 x5_1 = some r) ∧ Aside0 (kq ≤ k) ∧ Drawn0 w w')
 case atStart => exact ⟨(0), (zr), H', ⟨Nat.le_refl _⟩, by repeat (first | exact Drawn0.refl _ | apply Drawn0.step)⟩
 case round =>
  clear H'
  try clear p2
  obtain ⟨x5_1, rfl, HA, HK1, ⟨m1, rfl⟩⟩ := hrel
  cases gk with
  | zero => exact absurd HA.out (by simp [cellarref0_Has.l0])
  | succ k1 =>
   have H := HA.out
   clear HA
   simp only [cellarref0_Has.l0] at H
   by_cases c3 : x5_1 < (l0.length : Int)
   ·rw [if_pos c3] at H
    have c3b0 : decide (x5_1 < (l0.length : Int)) = true := decide_eq_true c3
    clear c3
    by_cases c4 : 0 ≤ x5_1
    rotate_left
    ·rw [if_neg c4] at H
     exact absurd H (by simp)
    rw [if_pos c4] at H
    have c4b0 : decide (0 ≤ x5_1) = true := decide_eq_true c4
    clear c4
    by_cases c5 : (rdOf ByteArray.empty l0 x5_1).toList = a1.toList
    ·rw [if_pos c5] at H
     have c5b0 : ((rdOf ByteArray.empty l0 x5_1).toList == a1.toList) = true := beq_iff_eq.mpr c5
     have c5b1 : ((rdOf ByteArray.empty l0 x5_1).toList != a1.toList) = false := bne_eq_false_iff_eq.mpr c5
     clear c5
     obtain rfl := Option.some.inj H
     have p250 : 0 ≤ (x5_1 : Int) := zdec
     have q250 : x5_1 < (l0.length : Int) := zdec
     obtain ⟨ad250, e250, hx250_0⟩ := Kd.at_string HR0.out x5_1 p250 q250
     cases e250
     replace p250 := eq_true p250
     replace q250 := eq_true q250
     go_wp2
     go_ret
     exact ⟨zr, by repeat (first | exact Drawn0.refl _ | apply Drawn0.step)⟩
    rw [if_neg c5] at H
    have c5b0 : ((rdOf ByteArray.empty l0 x5_1).toList == a1.toList) = false := beq_eq_false_iff_ne.mpr c5
    have c5b1 : ((rdOf ByteArray.empty l0 x5_1).toList != a1.toList) = true := bne_iff_ne.mpr c5
    have H' := Aside0.mk H
    clear H
    have p250 : 0 ≤ (x5_1 : Int) := zdec
    have q250 : x5_1 < (l0.length : Int) := zdec
    obtain ⟨ad250, e250, hx250_0⟩ := Kd.at_string HR0.out x5_1 p250 q250
    cases e250
    replace p250 := eq_true p250
    replace q250 := eq_true q250
    go_wp2
    go_roundg k1
    case measure => have := HK1.out; omega
    case rel => exact ⟨(wrap64 (x5_1 + 1)), (zr), H', ⟨by have := HK1.out; omega⟩, by repeat (first | exact Drawn0.refl _ | apply Drawn0.step)⟩
   ·rw [if_neg c3] at H
    have c3b0 : decide (x5_1 < (l0.length : Int)) = false := decide_eq_false c3
    clear c3
    obtain rfl := Option.some.inj H
    go_wp2
    go_ret
    exact ⟨zr, by repeat (first | exact Drawn0.refl _ | apply Drawn0.step)⟩

/-! cellarref7_up -/
def cellarref7_up.f (a0 : Int) (a1 : Int) : Option (Int) := if a1 = 0 then (none) else (some (wrap64 ((wrap64 (Int.tdiv (wrap64 ((wrap64 (a0 + a1)) - 1)) a1)) * a1)))
set_option maxHeartbeats 8000000 in
set_option maxRecDepth 100000 in
theorem cellarref7_up.calls (a0 : Int) (a1 : Int) (r : Int) (w : World) (h : cellarref7_up.f a0 a1 = some r) :
  Calls Try.prog 91 #[.int .i64 a0, .int .i64 a1] w fun e w' => e = .returned (.int .i64 r) ∧ Drawn0 w w' := by
 have H : (if a1 = 0 then (none) else (some (wrap64 ((wrap64 (Int.tdiv (wrap64 ((wrap64 (a0 + a1)) - 1)) a1)) * a1)))) = some r := h
 clear h
 by_cases c3 : a1 = 0
 ·rw [if_pos c3] at H
  exact absurd H (by simp)
 ·rw [if_neg c3] at H
  have c3b0 : (a1 == 0) = false := beq_eq_false_iff_ne.mpr c3
  have c3b1 : (a1 != 0) = true := bne_iff_ne.mpr c3
  obtain rfl := Option.some.inj H
  go_enter Try.func91, Try.ntmps91
  go_wp2
  go_ret
  exact ⟨zr, by repeat (first | exact Drawn0.refl _ | apply Drawn0.step)⟩

end Go.Proofs.Ytjoplkillkhiaaa.L
