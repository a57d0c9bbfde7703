-- Written by this session's own edition of the print.
import Derived.Test.YtjoplkillkhiaaaStx0
import Derived.Test.YtjoplkillkhiaaaStx2
import Derived.Test.YtjoplkillkhiaaaZSq
import Derived.Test.YtjoplkillkhiaaaZSq2
namespace Go.Proofs.Ytjoplkillkhiaaa.St
open Go.RowKit Go.Proofs.Ytjoplkillkhiaaa.Fn Go.Proofs.YtjoplkillkhiaaaW.PrintWords Go.Proofs.YtjoplkillkhiaaaW.PrintLast Go.Proofs.YtjoplkillkhiaaaW.PrintMore
attribute [local go_sem] max2_int min2_int max_two min_two max_three min_three max_four min_four   -- for this text's walks alone
set_option linter.unusedVariables false
set_option linter.unusedSimpArgs false

/-! cellarref7_Bytes -/
def cellarref7_Bytes.l0 : Nat → List (S74) → Int → Option (Bool)
 | 0, _, _ => none
 | k + 1, x0, x3 => if x3 < (x0.length : Int) then (if 0 ≤ x3 then ((cellarref7_Byte.f ((rd_T74 x0 x3).f0) ((rd_T74 x0 x3).f1) ((rd_T74 x0 x3).f2) ((rd_T74 x0 x3).f3) ((rd_T74 x0 x3).f4)).bind fun t138 => (if t138 = true then (cellarref7_Bytes.l0 k x0 (wrap64 (x3 + 1))) else (some false))) else (none)) else (some true)
def cellarref7_Bytes.f (k : Nat) (l0 : List (S74)) : Option (Bool) := cellarref7_Bytes.l0 k l0 0
theorem cellarref7_Bytes.mono_l : ∀ k, (∀ y0 y1, LeO (cellarref7_Bytes.l0 k y0 y1) (cellarref7_Bytes.l0 (k + 1) y0 y1))
 | 0 => fun _ _ r h => by simp [cellarref7_Bytes.l0] at h
 | k + 1 => by
  have ih0 := cellarref7_Bytes.mono_l k
  ·intro y0 y1
   unfold cellarref7_Bytes.l0
   repeat' first
   | (with_reducible apply ih0)
   | (with_reducible apply LeO.refl)
   | (with_reducible apply LeO.none)
   | (with_reducible refine LeO.ite ?_ ?_)
   | (with_reducible refine LeO.bind ?_ (fun _ => ?_))
theorem cellarref7_Bytes.mono : ∀ a0 k, LeO (cellarref7_Bytes.f k a0) (cellarref7_Bytes.f (k + 1) a0) := by
 intro a0 k
 have ih0 := cellarref7_Bytes.mono_l k
 unfold cellarref7_Bytes.f
 repeat' first
   | (with_reducible apply ih0)
   | (with_reducible apply LeO.refl)
   | (with_reducible apply LeO.none)
   | (with_reducible refine LeO.ite ?_ ?_)
   | (with_reducible refine LeO.bind ?_ (fun _ => ?_))
set_option maxHeartbeats 8000000 in
set_option maxRecDepth 100000 in
theorem cellarref7_Bytes.calls (k : Nat) (A0 : Option Addr) (c0 : Nat) (l0 : List (S74)) (r : Bool) (w : World) (hr0 : Kd.C k74 w A0 l0.length l0) (hc0 : l0.length ≤ c0) (h : cellarref7_Bytes.f k l0 = some r) :
  Calls Try.prog 65 #[.slice A0 l0.length c0] w fun e w' => e = .returned (.bool r) ∧ Below w.heap.size w w' := by
 have hu74 := Try.underlying74
 have HR0 := Aside0.mk hr0
 have HC0 := Aside0.mk hc0
 clear hr0 hc0
 have HB := Aside0.mk (Below.refl w.heap.size w)
 have H : (cellarref7_Bytes.l0 k l0 0) = some r := h
 clear h
 have H' := Aside0.mk H
 clear H
 go_enter Try.func65, Try.ntmps65
 go_wp2
 go_loopg [3] k (fun kq v3 w' => ∃ (x3_1 : Int), v3 = .int .i64 x3_1 ∧ Aside0 (cellarref7_Bytes.l0 kq l0 x3_1 = some r) ∧ Aside0 (kq ≤ k) ∧ Aside0 (Below w.heap.size w w'))
 case atStart => exact ⟨(0), (zr), H', ⟨Nat.le_refl _⟩, ⟨zw0 HB.out⟩⟩
 case round =>
  clear H'
  obtain ⟨x3_1, rfl, HA, HK1, HB⟩ := hrel
  cases gk with
  | zero => exact absurd HA.out (by simp [cellarref7_Bytes.l0])
  | succ k1 =>
   have H := HA.out
   clear HA
   simp only [cellarref7_Bytes.l0] at H
   by_cases c2 : x3_1 < (l0.length : Int)
   ·rw [if_pos c2] at H
    have c2b0 : decide (x3_1 < (l0.length : Int)) = true := decide_eq_true c2
    clear c2
    by_cases c3 : 0 ≤ x3_1
    rotate_left
    ·rw [if_neg c3] at H
     exact absurd H (by simp)
    rw [if_pos c3] at H
    have c3b0 : decide (0 ≤ x3_1) = true := decide_eq_true c3
    clear c3
    replace H := Option.bind_eq_some_iff.mp H
    obtain ⟨t138, A40, H⟩ := H
    replace H : (if t138 = true then (cellarref7_Bytes.l0 k1 l0 (wrap64 (x3_1 + 1))) else (some false)) = some r := H
    have A4 := Aside0.mk A40
    clear A40
    by_cases c5 : t138 = true
    rotate_left
    ·replace c5 := Bool.eq_false_iff.mpr c5
     subst c5
     have H1 : (some false) = some r := by rw [if_neg (show ¬ (false = true) by decide)] at H; exact H
     clear H
     have H := H1
     clear H1
     obtain rfl := Option.some.inj H
     have p137 : 0 ≤ (x3_1 : Int) := zdec
     have q137 : x3_1 < (l0.length : Int) := zdec
     obtain ⟨ad137, e137, hx137_0, hx137_1, hx137_2, hx137_3, hx137_4⟩ := at_T74 HR0.out x3_1 p137 q137
     cases e137
     replace hx137_0 := zh HB.out hx137_0
     replace hx137_1 := zh HB.out hx137_1
     replace hx137_2 := zh HB.out hx137_2
     replace hx137_3 := zh HB.out hx137_3
     replace hx137_4 := zh HB.out hx137_4
     replace p137 := eq_true p137
     replace q137 := eq_true q137
     go_wp2_with (first | ((with_reducible refine gate_callee (f := 96) rfl ?_); refine zgo (some 14) Try.func96 #[.agg #[.int .i64 ((rd_T74 l0 x3_1).f0), .int .i64 ((rd_T74 l0 x3_1).f1), .int .i64 ((rd_T74 l0 x3_1).f2), .int .i64 ((rd_T74 l0 x3_1).f3), .int .i64 ((rd_T74 l0 x3_1).f4)]] ?_; (with_reducible refine (cellarref7_Byte.calls ((rd_T74 l0 x3_1).f0) ((rd_T74 l0 x3_1).f1) ((rd_T74 l0 x3_1).f2) ((rd_T74 l0 x3_1).f3) ((rd_T74 l0 x3_1).f4) false _ A4.out).mono ?_); rintro e w7 ⟨rfl, hb⟩; refine ⟨_, rfl, ?_⟩; have n0_ := Aside0.mk (below_step (zw0 HB.out) hb); clear HB; have HB := n0_; clear n0_; (try clear hb); (try clear hb2); (try clear hk); (try clear hi)))
     go_ret
     exact ⟨ze, zw0 HB.out⟩
    subst c5
    have H1 : (cellarref7_Bytes.l0 k1 l0 (wrap64 (x3_1 + 1))) = some r := by rw [if_pos rfl] at H; exact H
    clear H
    have H := H1
    clear H1
    have H' := Aside0.mk H
    clear H
    have p137 : 0 ≤ (x3_1 : Int) := zdec
    have q137 : x3_1 < (l0.length : Int) := zdec
    obtain ⟨ad137, e137, hx137_0, hx137_1, hx137_2, hx137_3, hx137_4⟩ := at_T74 HR0.out x3_1 p137 q137
    cases e137
    replace hx137_0 := zh HB.out hx137_0
    replace hx137_1 := zh HB.out hx137_1
    replace hx137_2 := zh HB.out hx137_2
    replace hx137_3 := zh HB.out hx137_3
    replace hx137_4 := zh HB.out hx137_4
    replace p137 := eq_true p137
    replace q137 := eq_true q137
    go_wp2_with (first | ((with_reducible refine gate_callee (f := 96) rfl ?_); refine zgo (some 14) Try.func96 #[.agg #[.int .i64 ((rd_T74 l0 x3_1).f0), .int .i64 ((rd_T74 l0 x3_1).f1), .int .i64 ((rd_T74 l0 x3_1).f2), .int .i64 ((rd_T74 l0 x3_1).f3), .int .i64 ((rd_T74 l0 x3_1).f4)]] ?_; (with_reducible refine (cellarref7_Byte.calls ((rd_T74 l0 x3_1).f0) ((rd_T74 l0 x3_1).f1) ((rd_T74 l0 x3_1).f2) ((rd_T74 l0 x3_1).f3) ((rd_T74 l0 x3_1).f4) true _ A4.out).mono ?_); rintro e w6 ⟨rfl, hb⟩; refine ⟨_, rfl, ?_⟩; have n0_ := Aside0.mk (below_step (zw0 HB.out) hb); clear HB; have HB := n0_; clear n0_; (try clear hb); (try clear hb2); (try clear hk); (try clear hi)))
    go_roundg k1
    case measure => have := HK1.out; omega
    case rel => exact ⟨(wrap64 (x3_1 + 1)), (zr), H', ⟨by have := HK1.out; omega⟩, ⟨zw0 HB.out⟩⟩
   ·rw [if_neg c2] at H
    have c2b0 : decide (x3_1 < (l0.length : Int)) = false := decide_eq_false c2
    clear c2
    obtain rfl := Option.some.inj H
    go_wp2
    go_ret
    exact ⟨ze, zw0 HB.out⟩

/-! cellarref7_Mem -/
mutual
def cellarref7_Mem.j0 : Nat → List (S76) → Bool → Option (Bool)
 | 0, _, _ => none
 | k + 1, x0, x14 => if x14 = true then (some false) else (cellarref7_Mem.l0 k x0 0)
def cellarref7_Mem.l0 : Nat → List (S76) → Int → Option (Bool)
 | 0, _, _ => none
 | k + 1, x0, x3 => if x3 < (x0.length : Int) then (if 0 ≤ x3 then ((cellarref0_Num.f ((rd_T76 x0 x3).f0) 3).bind fun t142 => (if t142 = true then (if (((rd_T76 x0 x3).f1).length : Int) > 32 then (some false) else (if ((rd_T76 x0 x3).f0) = 1 then ((cellarref7_Bytes.f k ((rd_T76 x0 x3).f1)).bind fun t146 => (if t146 = true then (cellarref7_Mem.l0 k x0 (wrap64 (x3 + 1))) else (some false))) else (if (((rd_T76 x0 x3).f1).length : Int) > 0 then (some false) else ((cellarref7_Bytes.f k ((rd_T76 x0 x3).f1)).bind fun t149 => (if t149 = true then (cellarref7_Mem.l0 k x0 (wrap64 (x3 + 1))) else (some false)))))) else (some false))) else (none)) else (some true)
end
def cellarref7_Mem.f (k : Nat) (l0 : List (S76)) : Option (Bool) := (cellarref0_Between.f (l0.length : Int) 1 33).bind fun t139 => (if t139 = true then (if 0 < (l0.length : Int) then (cellarref7_Mem.j0 k l0 (((rd_T76 l0 0).f0) != 0)) else (none)) else (cellarref7_Mem.j0 k l0 true))
theorem cellarref7_Mem.mono_l : ∀ k, (∀ y0 y1, LeO (cellarref7_Mem.j0 k y0 y1) (cellarref7_Mem.j0 (k + 1) y0 y1)) ∧ (∀ y0 y1, LeO (cellarref7_Mem.l0 k y0 y1) (cellarref7_Mem.l0 (k + 1) y0 y1))
 | 0 => ⟨fun _ _ r h => by simp [cellarref7_Mem.j0] at h, fun _ _ r h => by simp [cellarref7_Mem.l0] at h⟩
 | k + 1 => by
  obtain ⟨ih0, ih1⟩ := cellarref7_Mem.mono_l k
  refine ⟨?_, ?_⟩
  ·intro y0 y1
   unfold cellarref7_Mem.j0
   repeat' first
   | (with_reducible apply ih0)
   | (with_reducible apply ih1)
   | (with_reducible apply cellarref7_Bytes.mono)
   | (with_reducible apply LeO.refl)
   | (with_reducible apply LeO.none)
   | (with_reducible refine LeO.ite ?_ ?_)
   | (with_reducible refine LeO.bind ?_ (fun _ => ?_))
  ·intro y0 y1
   unfold cellarref7_Mem.l0
   repeat' first
   | (with_reducible apply ih0)
   | (with_reducible apply ih1)
   | (with_reducible apply cellarref7_Bytes.mono)
   | (with_reducible apply LeO.refl)
   | (with_reducible apply LeO.none)
   | (with_reducible refine LeO.ite ?_ ?_)
   | (with_reducible refine LeO.bind ?_ (fun _ => ?_))
theorem cellarref7_Mem.mono : ∀ a0 k, LeO (cellarref7_Mem.f k a0) (cellarref7_Mem.f (k + 1) a0) := by
 intro a0 k
 obtain ⟨ih0, ih1⟩ := cellarref7_Mem.mono_l k
 unfold cellarref7_Mem.f
 repeat' first
   | (with_reducible apply ih0)
   | (with_reducible apply ih1)
   | (with_reducible apply cellarref7_Bytes.mono)
   | (with_reducible apply LeO.refl)
   | (with_reducible apply LeO.none)
   | (with_reducible refine LeO.ite ?_ ?_)
   | (with_reducible refine LeO.bind ?_ (fun _ => ?_))
set_option maxHeartbeats 8000000 in
set_option maxRecDepth 100000 in
theorem cellarref7_Mem.calls (k : Nat) (A0 : Option Addr) (c0 : Nat) (l0 : List (S76)) (r : Bool) (w : World) (hr0 : Kd.C k76 w A0 l0.length l0) (hc0 : l0.length ≤ c0) (h : cellarref7_Mem.f k l0 = some r) :
  Calls Try.prog 28 #[.slice A0 l0.length c0] w fun e w' => e = .returned (.bool r) ∧ Below w.heap.size w w' := by
 have HR0 := Aside0.mk hr0
 have HC0 := Aside0.mk hc0
 clear hr0 hc0
 have HB := Aside0.mk (Below.refl w.heap.size w)
 have H : ((cellarref0_Between.f (l0.length : Int) 1 33).bind fun t139 => (if t139 = true then (if 0 < (l0.length : Int) then (cellarref7_Mem.j0 k l0 (((rd_T76 l0 0).f0) != 0)) else (none)) else (cellarref7_Mem.j0 k l0 true))) = some r := h
 clear h
 have HC2 := Aside0.mk H
 clear H
 go_enter Try.func28, Try.ntmps28
 go_upto_region 1 with (fail)
 go_cut [14] (fun v14 wc => ∃ (kq : Nat) (x14_1 : Bool), v14 = .bool x14_1 ∧ Aside0 (cellarref7_Mem.j0 kq l0 x14_1 = some r) ∧ Aside0 (kq ≤ k) ∧ Aside0 (Below w.heap.size w wc))
 case first =>
  have H := HC2.out
  clear HC2
  replace H := Option.bind_eq_some_iff.mp H
  obtain ⟨t139, A30, H⟩ := H
  replace H : (if t139 = true then (if 0 < (l0.length : Int) then (cellarref7_Mem.j0 k l0 (((rd_T76 l0 0).f0) != 0)) else (none)) else (cellarref7_Mem.j0 k l0 true)) = some r := H
  have A3 := Aside0.mk A30
  clear A30
  by_cases c4 : t139 = true
  rotate_left
  ·replace c4 := Bool.eq_false_iff.mpr c4
   subst c4
   have H1 : (cellarref7_Mem.j0 k l0 true) = some r := by rw [if_neg (show ¬ (false = true) by decide)] at H; exact H
   clear H
   have H := H1
   clear H1
   have H' := Aside0.mk H
   clear H
   go_wp2_with (first | ((with_reducible refine gate_callee (f := 64) rfl ?_); refine zgo (some 6) Try.func64 #[.int .i64 (l0.length : Int), .int .i64 1, .int .i64 33] ?_; (with_reducible refine (cellarref0_Between.calls (l0.length : Int) 1 33 false _ A3.out).mono ?_); rintro e w' ⟨rfl, ⟨nd, rfl⟩⟩; refine ⟨_, rfl, ?_⟩))
   go_meet
   case rel => exact ⟨_, (true), (zr), H', ⟨by first | omega | exact Nat.le_refl _⟩, ⟨zw0 HB.out⟩⟩
  subst c4
  have H1 : (if 0 < (l0.length : Int) then (cellarref7_Mem.j0 k l0 (((rd_T76 l0 0).f0) != 0)) else (none)) = some r := by rw [if_pos rfl] at H; exact H
  clear H
  have H := H1
  clear H1
  by_cases c5 : 0 < (l0.length : Int)
  rotate_left
  ·rw [if_neg c5] at H
   exact absurd H (by simp)
  rw [if_pos c5] at H
  have c5b0 : decide (0 < (l0.length : Int)) = true := decide_eq_true c5
  have c5b1 : decide (0 < l0.length) = true := decide_eq_true (by omega)
  clear c5
  (first | rw [c5b0] | (simp only [i64_w, i32_w]; rw [c5b0]) | skip)
  have H' := Aside0.mk H
  clear H
  go_wp2_with (first | ((with_reducible refine gate_callee (f := 64) rfl ?_); refine zgo (some 6) Try.func64 #[.int .i64 (l0.length : Int), .int .i64 1, .int .i64 33] ?_; (with_reducible refine (cellarref0_Between.calls (l0.length : Int) 1 33 true _ A3.out).mono ?_); rintro e w' ⟨rfl, ⟨nd, rfl⟩⟩; refine ⟨_, rfl, ?_⟩; have p140 : 0 ≤ (0 : Int) := (by omega); have q140 : 0 < (l0.length : Int) := zdec; obtain ⟨ad140, A140_1, c140_1, e140, hx140_0, hx140_1, hl140_1, hi140_1⟩ := at_T76 HR0.out 0 p140 q140; cases e140; have qi140 : (0 < l0.length) = True := eq_true (by omega); (try rw [show ((0 : Int)).toNat = 0 from rfl] at hx140_0); (try rw [show 0 * 2 = 0 from rfl] at hx140_0); (try rw [Addr.add_zero'] at hx140_0); (try rw [show ((0 : Int)).toNat = 0 from rfl] at hx140_1); (try rw [show 0 * 2 = 0 from rfl] at hx140_1); (try rw [Addr.add_zero'] at hx140_1); replace hx140_0 := zh HB.out hx140_0; replace hx140_1 := zh HB.out hx140_1; have HR140_1 := Aside0.mk hi140_1; have HC140_1 := Aside0.mk hl140_1; clear hi140_1 hl140_1; replace p140 := eq_true p140; replace q140 := eq_true q140))
  go_meet
  case rel => exact ⟨_, ((((rd_T76 l0 0).f0) != 0)), (zr), H', ⟨by first | omega | exact Nat.le_refl _⟩, ⟨zw0 HB.out⟩⟩
 case rest =>
  clear HC2
  try clear c1; try clear p1; try clear q1; try clear qi1; try clear c2; try clear p2; try clear c4; try clear c5; try clear c5b0; try clear c5b1; try clear p140; try clear q140
  obtain ⟨kq, x14_1, rfl, HA, HJ1, HB⟩ := hcut
  cases kq with
  | zero => exact absurd HA.out (by simp [cellarref7_Mem.j0])
  | succ kj1 =>
   have H := HA.out
   clear HA
   simp only [cellarref7_Mem.j0] at H
   by_cases c6 : x14_1 = true
   ·subst c6
    have H1 : (some false) = some r := by rw [if_pos rfl] at H; exact H
    clear H
    have H := H1
    clear H1
    obtain rfl := Option.some.inj H
    go_wp2
    go_ret
    exact ⟨ze, zw0 HB.out⟩
   ·replace c6 := Bool.eq_false_iff.mpr c6
    subst c6
    have H1 : (cellarref7_Mem.l0 kj1 l0 0) = some r := by rw [if_neg (show ¬ (false = true) by decide)] at H; exact H
    clear H
    have H := H1
    clear H1
    have H' := Aside0.mk H
    clear H
    go_wp2
    go_loopg [3] kj1 (fun kq v3 w' => ∃ (x3_2 : Int), v3 = .int .i64 x3_2 ∧ Aside0 (cellarref7_Mem.l0 kq l0 x3_2 = some r) ∧ Aside0 (kq ≤ kj1) ∧ Aside0 (Below w.heap.size w w'))
    case atStart => exact ⟨(0), (zr), H', ⟨Nat.le_refl _⟩, ⟨zw0 HB.out⟩⟩
    case round =>
     clear H'
     try clear c1; try clear p1; try clear q1; try clear qi1; try clear c2; try clear p2; try clear c4; try clear c5; try clear c5b0; try clear c5b1; try clear c6; try clear p1; try clear p140; try clear p2; try clear q1; try clear q140
     obtain ⟨x3_2, rfl, HA, HK2, HB⟩ := hrel
     cases gk with
     | zero => exact absurd HA.out (by simp [cellarref7_Mem.l0])
     | succ k2 =>
      have H := HA.out
      clear HA
      simp only [cellarref7_Mem.l0] at H
      by_cases c7 : x3_2 < (l0.length : Int)
      ·rw [if_pos c7] at H
       have c7b0 : decide (x3_2 < (l0.length : Int)) = true := decide_eq_true c7
       clear c7
       by_cases c8 : 0 ≤ x3_2
       rotate_left
       ·rw [if_neg c8] at H
        exact absurd H (by simp)
       rw [if_pos c8] at H
       have c8b0 : decide (0 ≤ x3_2) = true := decide_eq_true c8
       clear c8
       replace H := Option.bind_eq_some_iff.mp H
       obtain ⟨t142, A90, H⟩ := H
       replace H : (if t142 = true then (if (((rd_T76 l0 x3_2).f1).length : Int) > 32 then (some false) else (if ((rd_T76 l0 x3_2).f0) = 1 then ((cellarref7_Bytes.f k2 ((rd_T76 l0 x3_2).f1)).bind fun t146 => (if t146 = true then (cellarref7_Mem.l0 k2 l0 (wrap64 (x3_2 + 1))) else (some false))) else (if (((rd_T76 l0 x3_2).f1).length : Int) > 0 then (some false) else ((cellarref7_Bytes.f k2 ((rd_T76 l0 x3_2).f1)).bind fun t149 => (if t149 = true then (cellarref7_Mem.l0 k2 l0 (wrap64 (x3_2 + 1))) else (some false)))))) else (some false)) = some r := H
       have A9 := Aside0.mk A90
       clear A90
       by_cases c10 : t142 = true
       rotate_left
       ·replace c10 := Bool.eq_false_iff.mpr c10
        subst c10
        have H1 : (some false) = some r := by rw [if_neg (show ¬ (false = true) by decide)] at H; exact H
        clear H
        have H := H1
        clear H1
        obtain rfl := Option.some.inj H
        have p141 : 0 ≤ (x3_2 : Int) := zdec
        have q141 : x3_2 < (l0.length : Int) := zdec
        obtain ⟨ad141, A141_1, c141_1, e141, hx141_0, hx141_1, hl141_1, hi141_1⟩ := at_T76 HR0.out x3_2 p141 q141
        cases e141
        replace hx141_0 := zh HB.out hx141_0
        replace hx141_1 := zh HB.out hx141_1
        have HR141_1 := Aside0.mk hi141_1
        have HC141_1 := Aside0.mk hl141_1
        clear hi141_1 hl141_1
        replace p141 := eq_true p141
        replace q141 := eq_true q141
        go_wp2_with (first | ((with_reducible refine gate_callee (f := 18) rfl ?_); refine zgo (some 26) Try.func18 #[.int .i64 ((rd_T76 l0 x3_2).f0), .int .i64 3] ?_; (with_reducible refine (cellarref0_Num.calls ((rd_T76 l0 x3_2).f0) 3 false _ A9.out).mono ?_); rintro e w' ⟨rfl, ⟨nd, rfl⟩⟩; refine ⟨_, rfl, ?_⟩))
        go_ret
        exact ⟨ze, zw0 HB.out⟩
       subst c10
       have H1 : (if (((rd_T76 l0 x3_2).f1).length : Int) > 32 then (some false) else (if ((rd_T76 l0 x3_2).f0) = 1 then ((cellarref7_Bytes.f k2 ((rd_T76 l0 x3_2).f1)).bind fun t146 => (if t146 = true then (cellarref7_Mem.l0 k2 l0 (wrap64 (x3_2 + 1))) else (some false))) else (if (((rd_T76 l0 x3_2).f1).length : Int) > 0 then (some false) else ((cellarref7_Bytes.f k2 ((rd_T76 l0 x3_2).f1)).bind fun t149 => (if t149 = true then (cellarref7_Mem.l0 k2 l0 (wrap64 (x3_2 + 1))) else (some false)))))) = some r := by rw [if_pos rfl] at H; exact H
       clear H
       have H := H1
       clear H1
       by_cases c11 : (((rd_T76 l0 x3_2).f1).length : Int) > 32
       ·rw [if_pos c11] at H
        have c11b0 : decide (32 < (((rd_T76 l0 x3_2).f1).length : Int)) = true := decide_eq_true c11
        have c11b1 : decide (32 < ((rd_T76 l0 x3_2).f1).length) = true := decide_eq_true (by omega)
        clear c11
        obtain rfl := Option.some.inj H
        have p141 : 0 ≤ (x3_2 : Int) := zdec
        have q141 : x3_2 < (l0.length : Int) := zdec
        obtain ⟨ad141, A141_1, c141_1, e141, hx141_0, hx141_1, hl141_1, hi141_1⟩ := at_T76 HR0.out x3_2 p141 q141
        cases e141
        replace hx141_0 := zh HB.out hx141_0
        replace hx141_1 := zh HB.out hx141_1
        have HR141_1 := Aside0.mk hi141_1
        have HC141_1 := Aside0.mk hl141_1
        clear hi141_1 hl141_1
        replace p141 := eq_true p141
        replace q141 := eq_true q141
        go_wp2_with (first | ((with_reducible refine gate_callee (f := 18) rfl ?_); refine zgo (some 26) Try.func18 #[.int .i64 ((rd_T76 l0 x3_2).f0), .int .i64 3] ?_; (with_reducible refine (cellarref0_Num.calls ((rd_T76 l0 x3_2).f0) 3 true _ A9.out).mono ?_); rintro e w' ⟨rfl, ⟨nd, rfl⟩⟩; refine ⟨_, rfl, ?_⟩; have p143 : 0 ≤ (x3_2 : Int) := zdec; have q143 : x3_2 < (l0.length : Int) := zdec; obtain ⟨ad143, A143_1, c143_1, e143, hx143_0, hx143_1, hl143_1, hi143_1⟩ := at_T76 HR0.out x3_2 p143 q143; obtain rfl : ad141 = ad143 := (by injection e143); replace hx143_0 := zh HB.out hx143_0; replace hx143_1 := zh HB.out hx143_1; have HR143_1 := Aside0.mk hi143_1; have HC143_1 := Aside0.mk hl143_1; clear hi143_1 hl143_1; replace p143 := eq_true p143; replace q143 := eq_true q143; have ea_ := Option.some.inj (hx141_1.symm.trans hx143_1); injection ea_ with ea_ en_ ec_; subst ea_; subst ec_; clear en_))
        go_ret
        exact ⟨ze, zw0 HB.out⟩
       rw [if_neg c11] at H
       have c11b0 : decide (32 < (((rd_T76 l0 x3_2).f1).length : Int)) = false := decide_eq_false c11
       have c11b1 : decide (32 < ((rd_T76 l0 x3_2).f1).length) = false := decide_eq_false (by omega)
       clear c11
       by_cases c12 : ((rd_T76 l0 x3_2).f0) = 1
       ·rw [if_pos c12] at H
        have c12b0 : (((rd_T76 l0 x3_2).f0) == 1) = true := beq_iff_eq.mpr c12
        have c12b1 : (((rd_T76 l0 x3_2).f0) != 1) = false := bne_eq_false_iff_eq.mpr c12
        clear c12
        replace H := Option.bind_eq_some_iff.mp H
        obtain ⟨t146, A130, H⟩ := H
        replace H : (if t146 = true then (cellarref7_Mem.l0 k2 l0 (wrap64 (x3_2 + 1))) else (some false)) = some r := H
        have A13 := Aside0.mk A130
        clear A130
        by_cases c14 : t146 = true
        rotate_left
        ·replace c14 := Bool.eq_false_iff.mpr c14
         subst c14
         have H1 : (some false) = some r := by rw [if_neg (show ¬ (false = true) by decide)] at H; exact H
         clear H
         have H := H1
         clear H1
         obtain rfl := Option.some.inj H
         have p141 : 0 ≤ (x3_2 : Int) := zdec
         have q141 : x3_2 < (l0.length : Int) := zdec
         obtain ⟨ad141, A141_1, c141_1, e141, hx141_0, hx141_1, hl141_1, hi141_1⟩ := at_T76 HR0.out x3_2 p141 q141
         cases e141
         replace hx141_0 := zh HB.out hx141_0
         replace hx141_1 := zh HB.out hx141_1
         have HR141_1 := Aside0.mk hi141_1
         have HC141_1 := Aside0.mk hl141_1
         clear hi141_1 hl141_1
         replace p141 := eq_true p141
         replace q141 := eq_true q141
         go_wp2_with (first | ((with_reducible refine gate_callee (f := 18) rfl ?_); refine zgo (some 26) Try.func18 #[.int .i64 ((rd_T76 l0 x3_2).f0), .int .i64 3] ?_; (with_reducible refine (cellarref0_Num.calls ((rd_T76 l0 x3_2).f0) 3 true _ A9.out).mono ?_); rintro e w' ⟨rfl, ⟨nd, rfl⟩⟩; refine ⟨_, rfl, ?_⟩; have p143 : 0 ≤ (x3_2 : Int) := zdec; have q143 : x3_2 < (l0.length : Int) := zdec; obtain ⟨ad143, A143_1, c143_1, e143, hx143_0, hx143_1, hl143_1, hi143_1⟩ := at_T76 HR0.out x3_2 p143 q143; obtain rfl : ad141 = ad143 := (by injection e143); replace hx143_0 := zh HB.out hx143_0; replace hx143_1 := zh HB.out hx143_1; have HR143_1 := Aside0.mk hi143_1; have HC143_1 := Aside0.mk hl143_1; clear hi143_1 hl143_1; replace p143 := eq_true p143; replace q143 := eq_true q143; have ea_ := Option.some.inj (hx141_1.symm.trans hx143_1); injection ea_ with ea_ en_ ec_; subst ea_; subst ec_; clear en_; have p144 : 0 ≤ (x3_2 : Int) := zdec; have q144 : x3_2 < (l0.length : Int) := zdec; obtain ⟨ad144, A144_1, c144_1, e144, hx144_0, hx144_1, hl144_1, hi144_1⟩ := at_T76 HR0.out x3_2 p144 q144; obtain rfl : ad141 = ad144 := (by injection e144); replace hx144_0 := zh HB.out hx144_0; replace hx144_1 := zh HB.out hx144_1; have HR144_1 := Aside0.mk hi144_1; have HC144_1 := Aside0.mk hl144_1; clear hi144_1 hl144_1; replace p144 := eq_true p144; replace q144 := eq_true q144; have ea_ := Option.some.inj (hx141_1.symm.trans hx144_1); injection ea_ with ea_ en_ ec_; subst ea_; subst ec_; clear en_; have p145 : 0 ≤ (x3_2 : Int) := zdec; have q145 : x3_2 < (l0.length : Int) := zdec; obtain ⟨ad145, A145_1, c145_1, e145, hx145_0, hx145_1, hl145_1, hi145_1⟩ := at_T76 HR0.out x3_2 p145 q145; obtain rfl : ad141 = ad145 := (by injection e145); replace hx145_0 := zh HB.out hx145_0; replace hx145_1 := zh HB.out hx145_1; have HR145_1 := Aside0.mk hi145_1; have HC145_1 := Aside0.mk hl145_1; clear hi145_1 hl145_1; replace p145 := eq_true p145; replace q145 := eq_true q145; have ea_ := Option.some.inj (hx141_1.symm.trans hx145_1); injection ea_ with ea_ en_ ec_; subst ea_; subst ec_; clear en_) | (go_at_call 65; (with_reducible refine (cellarref7_Bytes.calls k2 _ _ ((rd_T76 l0 x3_2).f1) false _ ?side1 ?side2 A13.out).mono ?_); (case side1 => repeat (first | exact (Kd.C_below HR145_1.out (zw0 HB.out)) | (with_reducible refine Kd.C_alloc ?_ _) | (with_reducible refine Kd.C_drewN ?_ _) | (with_reducible refine Kd.C_drew ?_))); (case side2 => exact HC145_1.out); rintro e w16 ⟨rfl, hb⟩; have n0_ := Aside0.mk (below_step (zw0 HB.out) hb); clear HB; have HB := n0_; clear n0_; (try clear hb); (try clear hb2); (try clear hk); (try clear hi)))
         go_ret
         exact ⟨ze, zw0 HB.out⟩
        subst c14
        have H1 : (cellarref7_Mem.l0 k2 l0 (wrap64 (x3_2 + 1))) = some r := by rw [if_pos rfl] at H; exact H
        clear H
        have H := H1
        clear H1
        have H' := Aside0.mk H
        clear H
        have p141 : 0 ≤ (x3_2 : Int) := zdec
        have q141 : x3_2 < (l0.length : Int) := zdec
        obtain ⟨ad141, A141_1, c141_1, e141, hx141_0, hx141_1, hl141_1, hi141_1⟩ := at_T76 HR0.out x3_2 p141 q141
        cases e141
        replace hx141_0 := zh HB.out hx141_0
        replace hx141_1 := zh HB.out hx141_1
        have HR141_1 := Aside0.mk hi141_1
        have HC141_1 := Aside0.mk hl141_1
        clear hi141_1 hl141_1
        replace p141 := eq_true p141
        replace q141 := eq_true q141
        go_wp2_with (first | ((with_reducible refine gate_callee (f := 18) rfl ?_); refine zgo (some 26) Try.func18 #[.int .i64 ((rd_T76 l0 x3_2).f0), .int .i64 3] ?_; (with_reducible refine (cellarref0_Num.calls ((rd_T76 l0 x3_2).f0) 3 true _ A9.out).mono ?_); rintro e w' ⟨rfl, ⟨nd, rfl⟩⟩; refine ⟨_, rfl, ?_⟩; have p143 : 0 ≤ (x3_2 : Int) := zdec; have q143 : x3_2 < (l0.length : Int) := zdec; obtain ⟨ad143, A143_1, c143_1, e143, hx143_0, hx143_1, hl143_1, hi143_1⟩ := at_T76 HR0.out x3_2 p143 q143; obtain rfl : ad141 = ad143 := (by injection e143); replace hx143_0 := zh HB.out hx143_0; replace hx143_1 := zh HB.out hx143_1; have HR143_1 := Aside0.mk hi143_1; have HC143_1 := Aside0.mk hl143_1; clear hi143_1 hl143_1; replace p143 := eq_true p143; replace q143 := eq_true q143; have ea_ := Option.some.inj (hx141_1.symm.trans hx143_1); injection ea_ with ea_ en_ ec_; subst ea_; subst ec_; clear en_; have p144 : 0 ≤ (x3_2 : Int) := zdec; have q144 : x3_2 < (l0.length : Int) := zdec; obtain ⟨ad144, A144_1, c144_1, e144, hx144_0, hx144_1, hl144_1, hi144_1⟩ := at_T76 HR0.out x3_2 p144 q144; obtain rfl : ad141 = ad144 := (by injection e144); replace hx144_0 := zh HB.out hx144_0; replace hx144_1 := zh HB.out hx144_1; have HR144_1 := Aside0.mk hi144_1; have HC144_1 := Aside0.mk hl144_1; clear hi144_1 hl144_1; replace p144 := eq_true p144; replace q144 := eq_true q144; have ea_ := Option.some.inj (hx141_1.symm.trans hx144_1); injection ea_ with ea_ en_ ec_; subst ea_; subst ec_; clear en_; have p145 : 0 ≤ (x3_2 : Int) := zdec; have q145 : x3_2 < (l0.length : Int) := zdec; obtain ⟨ad145, A145_1, c145_1, e145, hx145_0, hx145_1, hl145_1, hi145_1⟩ := at_T76 HR0.out x3_2 p145 q145; obtain rfl : ad141 = ad145 := (by injection e145); replace hx145_0 := zh HB.out hx145_0; replace hx145_1 := zh HB.out hx145_1; have HR145_1 := Aside0.mk hi145_1; have HC145_1 := Aside0.mk hl145_1; clear hi145_1 hl145_1; replace p145 := eq_true p145; replace q145 := eq_true q145; have ea_ := Option.some.inj (hx141_1.symm.trans hx145_1); injection ea_ with ea_ en_ ec_; subst ea_; subst ec_; clear en_) | (go_at_call 65; (with_reducible refine (cellarref7_Bytes.calls k2 _ _ ((rd_T76 l0 x3_2).f1) true _ ?side1 ?side2 A13.out).mono ?_); (case side1 => repeat (first | exact (Kd.C_below HR145_1.out (zw0 HB.out)) | (with_reducible refine Kd.C_alloc ?_ _) | (with_reducible refine Kd.C_drewN ?_ _) | (with_reducible refine Kd.C_drew ?_))); (case side2 => exact HC145_1.out); rintro e w15 ⟨rfl, hb⟩; have n0_ := Aside0.mk (below_step (zw0 HB.out) hb); clear HB; have HB := n0_; clear n0_; (try clear hb); (try clear hb2); (try clear hk); (try clear hi)))
        go_roundg k2
        case measure => have := HJ1.out; have := HK2.out; omega
        case rel => exact ⟨(wrap64 (x3_2 + 1)), (zr), H', ⟨by have := HJ1.out; have := HK2.out; omega⟩, ⟨zw0 HB.out⟩⟩
       rw [if_neg c12] at H
       have c12b0 : (((rd_T76 l0 x3_2).f0) == 1) = false := beq_eq_false_iff_ne.mpr c12
       have c12b1 : (((rd_T76 l0 x3_2).f0) != 1) = true := bne_iff_ne.mpr c12
       by_cases c17 : (((rd_T76 l0 x3_2).f1).length : Int) > 0
       ·rw [if_pos c17] at H
        have c17b0 : decide (0 < (((rd_T76 l0 x3_2).f1).length : Int)) = true := decide_eq_true c17
        have c17b1 : decide (0 < ((rd_T76 l0 x3_2).f1).length) = true := decide_eq_true (by omega)
        clear c17
        obtain rfl := Option.some.inj H
        have p141 : 0 ≤ (x3_2 : Int) := zdec
        have q141 : x3_2 < (l0.length : Int) := zdec
        obtain ⟨ad141, A141_1, c141_1, e141, hx141_0, hx141_1, hl141_1, hi141_1⟩ := at_T76 HR0.out x3_2 p141 q141
        cases e141
        replace hx141_0 := zh HB.out hx141_0
        replace hx141_1 := zh HB.out hx141_1
        have HR141_1 := Aside0.mk hi141_1
        have HC141_1 := Aside0.mk hl141_1
        clear hi141_1 hl141_1
        replace p141 := eq_true p141
        replace q141 := eq_true q141
        go_wp2_with (first | ((with_reducible refine gate_callee (f := 18) rfl ?_); refine zgo (some 26) Try.func18 #[.int .i64 ((rd_T76 l0 x3_2).f0), .int .i64 3] ?_; (with_reducible refine (cellarref0_Num.calls ((rd_T76 l0 x3_2).f0) 3 true _ A9.out).mono ?_); rintro e w' ⟨rfl, ⟨nd, rfl⟩⟩; refine ⟨_, rfl, ?_⟩; have p143 : 0 ≤ (x3_2 : Int) := zdec; have q143 : x3_2 < (l0.length : Int) := zdec; obtain ⟨ad143, A143_1, c143_1, e143, hx143_0, hx143_1, hl143_1, hi143_1⟩ := at_T76 HR0.out x3_2 p143 q143; obtain rfl : ad141 = ad143 := (by injection e143); replace hx143_0 := zh HB.out hx143_0; replace hx143_1 := zh HB.out hx143_1; have HR143_1 := Aside0.mk hi143_1; have HC143_1 := Aside0.mk hl143_1; clear hi143_1 hl143_1; replace p143 := eq_true p143; replace q143 := eq_true q143; have ea_ := Option.some.inj (hx141_1.symm.trans hx143_1); injection ea_ with ea_ en_ ec_; subst ea_; subst ec_; clear en_; have p144 : 0 ≤ (x3_2 : Int) := zdec; have q144 : x3_2 < (l0.length : Int) := zdec; obtain ⟨ad144, A144_1, c144_1, e144, hx144_0, hx144_1, hl144_1, hi144_1⟩ := at_T76 HR0.out x3_2 p144 q144; obtain rfl : ad141 = ad144 := (by injection e144); replace hx144_0 := zh HB.out hx144_0; replace hx144_1 := zh HB.out hx144_1; have HR144_1 := Aside0.mk hi144_1; have HC144_1 := Aside0.mk hl144_1; clear hi144_1 hl144_1; replace p144 := eq_true p144; replace q144 := eq_true q144; have ea_ := Option.some.inj (hx141_1.symm.trans hx144_1); injection ea_ with ea_ en_ ec_; subst ea_; subst ec_; clear en_; have p147 : 0 ≤ (x3_2 : Int) := zdec; have q147 : x3_2 < (l0.length : Int) := zdec; obtain ⟨ad147, A147_1, c147_1, e147, hx147_0, hx147_1, hl147_1, hi147_1⟩ := at_T76 HR0.out x3_2 p147 q147; obtain rfl : ad141 = ad147 := (by injection e147); replace hx147_0 := zh HB.out hx147_0; replace hx147_1 := zh HB.out hx147_1; have HR147_1 := Aside0.mk hi147_1; have HC147_1 := Aside0.mk hl147_1; clear hi147_1 hl147_1; replace p147 := eq_true p147; replace q147 := eq_true q147; have ea_ := Option.some.inj (hx141_1.symm.trans hx147_1); injection ea_ with ea_ en_ ec_; subst ea_; subst ec_; clear en_))
        go_ret
        exact ⟨ze, zw0 HB.out⟩
       rw [if_neg c17] at H
       have c17b0 : decide (0 < (((rd_T76 l0 x3_2).f1).length : Int)) = false := decide_eq_false c17
       have c17b1 : decide (0 < ((rd_T76 l0 x3_2).f1).length) = false := decide_eq_false (by omega)
       clear c17
       replace H := Option.bind_eq_some_iff.mp H
       obtain ⟨t149, A180, H⟩ := H
       replace H : (if t149 = true then (cellarref7_Mem.l0 k2 l0 (wrap64 (x3_2 + 1))) else (some false)) = some r := H
       have A18 := Aside0.mk A180
       clear A180
       by_cases c19 : t149 = true
       rotate_left
       ·replace c19 := Bool.eq_false_iff.mpr c19
        subst c19
        have H1 : (some false) = some r := by rw [if_neg (show ¬ (false = true) by decide)] at H; exact H
        clear H
        have H := H1
        clear H1
        obtain rfl := Option.some.inj H
        have p141 : 0 ≤ (x3_2 : Int) := zdec
        have q141 : x3_2 < (l0.length : Int) := zdec
        obtain ⟨ad141, A141_1, c141_1, e141, hx141_0, hx141_1, hl141_1, hi141_1⟩ := at_T76 HR0.out x3_2 p141 q141
        cases e141
        replace hx141_0 := zh HB.out hx141_0
        replace hx141_1 := zh HB.out hx141_1
        have HR141_1 := Aside0.mk hi141_1
        have HC141_1 := Aside0.mk hl141_1
        clear hi141_1 hl141_1
        replace p141 := eq_true p141
        replace q141 := eq_true q141
        go_wp2_with (first | ((with_reducible refine gate_callee (f := 18) rfl ?_); refine zgo (some 26) Try.func18 #[.int .i64 ((rd_T76 l0 x3_2).f0), .int .i64 3] ?_; (with_reducible refine (cellarref0_Num.calls ((rd_T76 l0 x3_2).f0) 3 true _ A9.out).mono ?_); rintro e w' ⟨rfl, ⟨nd, rfl⟩⟩; refine ⟨_, rfl, ?_⟩; have p143 : 0 ≤ (x3_2 : Int) := zdec; have q143 : x3_2 < (l0.length : Int) := zdec; obtain ⟨ad143, A143_1, c143_1, e143, hx143_0, hx143_1, hl143_1, hi143_1⟩ := at_T76 HR0.out x3_2 p143 q143; obtain rfl : ad141 = ad143 := (by injection e143); replace hx143_0 := zh HB.out hx143_0; replace hx143_1 := zh HB.out hx143_1; have HR143_1 := Aside0.mk hi143_1; have HC143_1 := Aside0.mk hl143_1; clear hi143_1 hl143_1; replace p143 := eq_true p143; replace q143 := eq_true q143; have ea_ := Option.some.inj (hx141_1.symm.trans hx143_1); injection ea_ with ea_ en_ ec_; subst ea_; subst ec_; clear en_; have p144 : 0 ≤ (x3_2 : Int) := zdec; have q144 : x3_2 < (l0.length : Int) := zdec; obtain ⟨ad144, A144_1, c144_1, e144, hx144_0, hx144_1, hl144_1, hi144_1⟩ := at_T76 HR0.out x3_2 p144 q144; obtain rfl : ad141 = ad144 := (by injection e144); replace hx144_0 := zh HB.out hx144_0; replace hx144_1 := zh HB.out hx144_1; have HR144_1 := Aside0.mk hi144_1; have HC144_1 := Aside0.mk hl144_1; clear hi144_1 hl144_1; replace p144 := eq_true p144; replace q144 := eq_true q144; have ea_ := Option.some.inj (hx141_1.symm.trans hx144_1); injection ea_ with ea_ en_ ec_; subst ea_; subst ec_; clear en_; have p147 : 0 ≤ (x3_2 : Int) := zdec; have q147 : x3_2 < (l0.length : Int) := zdec; obtain ⟨ad147, A147_1, c147_1, e147, hx147_0, hx147_1, hl147_1, hi147_1⟩ := at_T76 HR0.out x3_2 p147 q147; obtain rfl : ad141 = ad147 := (by injection e147); replace hx147_0 := zh HB.out hx147_0; replace hx147_1 := zh HB.out hx147_1; have HR147_1 := Aside0.mk hi147_1; have HC147_1 := Aside0.mk hl147_1; clear hi147_1 hl147_1; replace p147 := eq_true p147; replace q147 := eq_true q147; have ea_ := Option.some.inj (hx141_1.symm.trans hx147_1); injection ea_ with ea_ en_ ec_; subst ea_; subst ec_; clear en_; have p148 : 0 ≤ (x3_2 : Int) := zdec; have q148 : x3_2 < (l0.length : Int) := zdec; obtain ⟨ad148, A148_1, c148_1, e148, hx148_0, hx148_1, hl148_1, hi148_1⟩ := at_T76 HR0.out x3_2 p148 q148; obtain rfl : ad141 = ad148 := (by injection e148); replace hx148_0 := zh HB.out hx148_0; replace hx148_1 := zh HB.out hx148_1; have HR148_1 := Aside0.mk hi148_1; have HC148_1 := Aside0.mk hl148_1; clear hi148_1 hl148_1; replace p148 := eq_true p148; replace q148 := eq_true q148; have ea_ := Option.some.inj (hx141_1.symm.trans hx148_1); injection ea_ with ea_ en_ ec_; subst ea_; subst ec_; clear en_) | (go_at_call 65; (with_reducible refine (cellarref7_Bytes.calls k2 _ _ ((rd_T76 l0 x3_2).f1) false _ ?side1 ?side2 A18.out).mono ?_); (case side1 => repeat (first | exact (Kd.C_below HR148_1.out (zw0 HB.out)) | (with_reducible refine Kd.C_alloc ?_ _) | (with_reducible refine Kd.C_drewN ?_ _) | (with_reducible refine Kd.C_drew ?_))); (case side2 => exact HC148_1.out); rintro e w21 ⟨rfl, hb⟩; have n0_ := Aside0.mk (below_step (zw0 HB.out) hb); clear HB; have HB := n0_; clear n0_; (try clear hb); (try clear hb2); (try clear hk); (try clear hi)))
        go_ret
        exact ⟨ze, zw0 HB.out⟩
       subst c19
       have H1 : (cellarref7_Mem.l0 k2 l0 (wrap64 (x3_2 + 1))) = some r := by rw [if_pos rfl] at H; exact H
       clear H
       have H := H1
       clear H1
       have H' := Aside0.mk H
       clear H
       have p141 : 0 ≤ (x3_2 : Int) := zdec
       have q141 : x3_2 < (l0.length : Int) := zdec
       obtain ⟨ad141, A141_1, c141_1, e141, hx141_0, hx141_1, hl141_1, hi141_1⟩ := at_T76 HR0.out x3_2 p141 q141
       cases e141
       replace hx141_0 := zh HB.out hx141_0
       replace hx141_1 := zh HB.out hx141_1
       have HR141_1 := Aside0.mk hi141_1
       have HC141_1 := Aside0.mk hl141_1
       clear hi141_1 hl141_1
       replace p141 := eq_true p141
       replace q141 := eq_true q141
       go_wp2_with (first | ((with_reducible refine gate_callee (f := 18) rfl ?_); refine zgo (some 26) Try.func18 #[.int .i64 ((rd_T76 l0 x3_2).f0), .int .i64 3] ?_; (with_reducible refine (cellarref0_Num.calls ((rd_T76 l0 x3_2).f0) 3 true _ A9.out).mono ?_); rintro e w' ⟨rfl, ⟨nd, rfl⟩⟩; refine ⟨_, rfl, ?_⟩; have p143 : 0 ≤ (x3_2 : Int) := zdec; have q143 : x3_2 < (l0.length : Int) := zdec; obtain ⟨ad143, A143_1, c143_1, e143, hx143_0, hx143_1, hl143_1, hi143_1⟩ := at_T76 HR0.out x3_2 p143 q143; obtain rfl : ad141 = ad143 := (by injection e143); replace hx143_0 := zh HB.out hx143_0; replace hx143_1 := zh HB.out hx143_1; have HR143_1 := Aside0.mk hi143_1; have HC143_1 := Aside0.mk hl143_1; clear hi143_1 hl143_1; replace p143 := eq_true p143; replace q143 := eq_true q143; have ea_ := Option.some.inj (hx141_1.symm.trans hx143_1); injection ea_ with ea_ en_ ec_; subst ea_; subst ec_; clear en_; have p144 : 0 ≤ (x3_2 : Int) := zdec; have q144 : x3_2 < (l0.length : Int) := zdec; obtain ⟨ad144, A144_1, c144_1, e144, hx144_0, hx144_1, hl144_1, hi144_1⟩ := at_T76 HR0.out x3_2 p144 q144; obtain rfl : ad141 = ad144 := (by injection e144); replace hx144_0 := zh HB.out hx144_0; replace hx144_1 := zh HB.out hx144_1; have HR144_1 := Aside0.mk hi144_1; have HC144_1 := Aside0.mk hl144_1; clear hi144_1 hl144_1; replace p144 := eq_true p144; replace q144 := eq_true q144; have ea_ := Option.some.inj (hx141_1.symm.trans hx144_1); injection ea_ with ea_ en_ ec_; subst ea_; subst ec_; clear en_; have p147 : 0 ≤ (x3_2 : Int) := zdec; have q147 : x3_2 < (l0.length : Int) := zdec; obtain ⟨ad147, A147_1, c147_1, e147, hx147_0, hx147_1, hl147_1, hi147_1⟩ := at_T76 HR0.out x3_2 p147 q147; obtain rfl : ad141 = ad147 := (by injection e147); replace hx147_0 := zh HB.out hx147_0; replace hx147_1 := zh HB.out hx147_1; have HR147_1 := Aside0.mk hi147_1; have HC147_1 := Aside0.mk hl147_1; clear hi147_1 hl147_1; replace p147 := eq_true p147; replace q147 := eq_true q147; have ea_ := Option.some.inj (hx141_1.symm.trans hx147_1); injection ea_ with ea_ en_ ec_; subst ea_; subst ec_; clear en_; have p148 : 0 ≤ (x3_2 : Int) := zdec; have q148 : x3_2 < (l0.length : Int) := zdec; obtain ⟨ad148, A148_1, c148_1, e148, hx148_0, hx148_1, hl148_1, hi148_1⟩ := at_T76 HR0.out x3_2 p148 q148; obtain rfl : ad141 = ad148 := (by injection e148); replace hx148_0 := zh HB.out hx148_0; replace hx148_1 := zh HB.out hx148_1; have HR148_1 := Aside0.mk hi148_1; have HC148_1 := Aside0.mk hl148_1; clear hi148_1 hl148_1; replace p148 := eq_true p148; replace q148 := eq_true q148; have ea_ := Option.some.inj (hx141_1.symm.trans hx148_1); injection ea_ with ea_ en_ ec_; subst ea_; subst ec_; clear en_) | (go_at_call 65; (with_reducible refine (cellarref7_Bytes.calls k2 _ _ ((rd_T76 l0 x3_2).f1) true _ ?side1 ?side2 A18.out).mono ?_); (case side1 => repeat (first | exact (Kd.C_below HR148_1.out (zw0 HB.out)) | (with_reducible refine Kd.C_alloc ?_ _) | (with_reducible refine Kd.C_drewN ?_ _) | (with_reducible refine Kd.C_drew ?_))); (case side2 => exact HC148_1.out); rintro e w20 ⟨rfl, hb⟩; have n0_ := Aside0.mk (below_step (zw0 HB.out) hb); clear HB; have HB := n0_; clear n0_; (try clear hb); (try clear hb2); (try clear hk); (try clear hi)))
       go_roundg k2
       case measure => have := HJ1.out; have := HK2.out; omega
       case rel => exact ⟨(wrap64 (x3_2 + 1)), (zr), H', ⟨by have := HJ1.out; have := HK2.out; omega⟩, ⟨zw0 HB.out⟩⟩
      ·rw [if_neg c7] at H
       have c7b0 : decide (x3_2 < (l0.length : Int)) = false := decide_eq_false c7
       clear c7
       obtain rfl := Option.some.inj H
       go_wp2
       go_ret
       exact ⟨ze, zw0 HB.out⟩

end Go.Proofs.Ytjoplkillkhiaaa.St
