-- Written by this session's own edition of the print.
import Derived.Test.YtjoplkillkhiaaaQ2x0
import Derived.Test.YtjoplkillkhiaaaYSq
import Derived.Test.YtjoplkillkhiaaaYSq2
import Derived.Test.YtjoplkillkhiaaaYSq3
namespace Go.Proofs.Ytjoplkillkhiaaa.Q2
open Go.RowKit Go.Proofs.Ytjoplkillkhiaaa.Fn Go.Proofs.YtjoplkillkhiaaaW.PrintWords Go.Proofs.YtjoplkillkhiaaaW.PrintLast Go.Proofs.YtjoplkillkhiaaaW.PrintMore
attribute [local go_sem] max2_int min2_int max_two min_two max_three min_three max_four min_four   -- for this text's walks alone
set_option linter.unusedVariables false
set_option linter.unusedSimpArgs false

/-! cellarlaw0_BlocksWeight -/
def cellarlaw0_BlocksWeight.l0 : Nat → List (S76) → Int → Int → Option (Int)
 | 0, _, _, _ => none
 | k + 1, x0, x3, x4 => if x4 < (x0.length : Int) then (if x3 < 1048576 then (if 0 ≤ x4 then (cellarlaw0_BlocksWeight.l0 k x0 (wrap64 (x3 + (((rd_T76 x0 x4).f1).length : Int))) (wrap64 (x4 + 1))) else (none)) else (some x3)) else (some x3)
def cellarlaw0_BlocksWeight.f (k : Nat) (l0 : List (S76)) : Option (Int) := cellarlaw0_BlocksWeight.l0 k l0 (l0.length : Int) 0
theorem cellarlaw0_BlocksWeight.mono_l : ∀ k, (∀ y0 y1 y2, LeO (cellarlaw0_BlocksWeight.l0 k y0 y1 y2) (cellarlaw0_BlocksWeight.l0 (k + 1) y0 y1 y2))
 | 0 => fun _ _ _ r h => by simp [cellarlaw0_BlocksWeight.l0] at h
 | k + 1 => by
  have ih0 := cellarlaw0_BlocksWeight.mono_l k
  ·intro y0 y1 y2
   unfold cellarlaw0_BlocksWeight.l0
   repeat' first
   | (with_reducible apply ih0)
   | (with_reducible apply LeO.refl)
   | (with_reducible apply LeO.none)
   | (with_reducible refine LeO.ite ?_ ?_)
   | (with_reducible refine LeO.bind ?_ (fun _ => ?_))
theorem cellarlaw0_BlocksWeight.mono : ∀ a0 k, LeO (cellarlaw0_BlocksWeight.f k a0) (cellarlaw0_BlocksWeight.f (k + 1) a0) := by
 intro a0 k
 have ih0 := cellarlaw0_BlocksWeight.mono_l k
 unfold cellarlaw0_BlocksWeight.f
 repeat' first
   | (with_reducible apply ih0)
   | (with_reducible apply LeO.refl)
   | (with_reducible apply LeO.none)
   | (with_reducible refine LeO.ite ?_ ?_)
   | (with_reducible refine LeO.bind ?_ (fun _ => ?_))
set_option maxHeartbeats 8000000 in
set_option maxRecDepth 100000 in
theorem cellarlaw0_BlocksWeight.calls (k : Nat) (A0 : Option Addr) (c0 : Nat) (l0 : List (S76)) (r : Int) (w : World) (hr0 : Kd.C k76 w A0 l0.length l0) (hc0 : l0.length ≤ c0) (h : cellarlaw0_BlocksWeight.f k l0 = some r) :
  Calls Try.prog 62 #[.slice A0 l0.length c0] w fun e w' => e = .returned (.int .i64 r) ∧ Drawn0 w w' := by
 have HR0 := Aside0.mk hr0
 have HC0 := Aside0.mk hc0
 clear hr0 hc0
 have H : (cellarlaw0_BlocksWeight.l0 k l0 (l0.length : Int) 0) = some r := h
 clear h
 have H' := Aside0.mk H
 clear H
 go_enter Try.func62, Try.ntmps62
 go_wp2
 go_loopg [3, 4] k (fun kq v3 v4 w' => ∃ (x3_1 : Int) (x4_1 : Int), v3 = .int .i64 x3_1 ∧ v4 = .int .i64 x4_1 ∧ Aside0 (cellarlaw0_BlocksWeight.l0 kq l0 x3_1 x4_1 = some r) ∧ Aside0 (kq ≤ k) ∧ Drawn0 w w')
 case atStart => exact ⟨((l0.length : Int)), (0), (zr), (zr), H', ⟨Nat.le_refl _⟩, by repeat (first | exact Drawn0.refl _ | apply Drawn0.step)⟩
 case round =>
  clear H'
  obtain ⟨x3_1, x4_1, rfl, rfl, HA, HK1, ⟨m1, rfl⟩⟩ := hrel
  cases gk with
  | zero => exact absurd HA.out (by simp [cellarlaw0_BlocksWeight.l0])
  | succ k1 =>
   have H := HA.out
   clear HA
   simp only [cellarlaw0_BlocksWeight.l0] at H
   by_cases c2 : x4_1 < (l0.length : Int)
   ·rw [if_pos c2] at H
    have c2b0 : decide (x4_1 < (l0.length : Int)) = true := decide_eq_true c2
    clear c2
    by_cases c3 : x3_1 < 1048576
    rotate_left
    ·rw [if_neg c3] at H
     have c3b0 : decide (x3_1 < 1048576) = false := decide_eq_false c3
     clear c3
     obtain rfl := Option.some.inj H
     go_wp2
     go_ret
     exact ⟨zr, by repeat (first | exact Drawn0.refl _ | apply Drawn0.step)⟩
    rw [if_pos c3] at H
    have c3b0 : decide (x3_1 < 1048576) = true := decide_eq_true c3
    clear c3
    by_cases c4 : 0 ≤ x4_1
    rotate_left
    ·rw [if_neg c4] at H
     exact absurd H (by simp)
    rw [if_pos c4] at H
    have c4b0 : decide (0 ≤ x4_1) = true := decide_eq_true c4
    clear c4
    have H' := Aside0.mk H
    clear H
    have p101 : 0 ≤ (x4_1 : Int) := zdec
    have q101 : x4_1 < (l0.length : Int) := zdec
    obtain ⟨ad101, A101_1, c101_1, e101, hx101_0, hx101_1, hl101_1, hi101_1⟩ := at_T76 HR0.out x4_1 p101 q101
    cases e101
    have HR101_1 := Aside0.mk hi101_1
    have HC101_1 := Aside0.mk hl101_1
    clear hi101_1 hl101_1
    replace p101 := eq_true p101
    replace q101 := eq_true q101
    go_wp2
    go_roundg k1
    case measure => have := HK1.out; omega
    case rel => exact ⟨(wrap64 (x3_1 + (((rd_T76 l0 x4_1).f1).length : Int))), (wrap64 (x4_1 + 1)), (zr), (zr), H', ⟨by have := HK1.out; omega⟩, by repeat (first | exact Drawn0.refl _ | apply Drawn0.step)⟩
   ·rw [if_neg c2] at H
    have c2b0 : decide (x4_1 < (l0.length : Int)) = false := decide_eq_false c2
    clear c2
    obtain rfl := Option.some.inj H
    go_wp2
    go_ret
    exact ⟨zr, by repeat (first | exact Drawn0.refl _ | apply Drawn0.step)⟩

/-! cellarlaw9_Heavy -/
def cellarlaw9_Heavy.l0 : Nat → Int → Int → List (List (S76)) → List (S62) → List Int → List (S29) → Option (Bool)
 | 0, _, _, _, _, _, _ => none
 | k + 1, x3, x4, x103000, x103001, x103002, x103003 => if x4 < (x103000.length : Int) then (if x3 < 1048576 then (if 0 ≤ x4 then ((cellarlaw0_BlocksWeight.f k (rd_L4 x103000 x4)).bind fun t104 => (cellarlaw9_Heavy.l0 k (wrap64 (x3 + t104)) (wrap64 (x4 + 1)) x103000 x103001 x103002 x103003)) else (none)) else (some (decide (x3 > 700)))) else (some (decide (x3 > 700)))
def cellarlaw9_Heavy.f (k : Nat) (l0_0 : List (List (S76))) (l0_1 : List (S62)) (l0_2 : List Int) (l0_3 : List (S29)) : Option (Bool) := cellarlaw9_Heavy.l0 k (wrap64 ((wrap64 ((l0_1.length : Int) + (l0_2.length : Int))) + (l0_3.length : Int))) 0 l0_0 l0_1 l0_2 l0_3
theorem cellarlaw9_Heavy.mono_l : ∀ k, (∀ y0 y1 y2 y3 y4 y5, LeO (cellarlaw9_Heavy.l0 k y0 y1 y2 y3 y4 y5) (cellarlaw9_Heavy.l0 (k + 1) y0 y1 y2 y3 y4 y5))
 | 0 => fun _ _ _ _ _ _ r h => by simp [cellarlaw9_Heavy.l0] at h
 | k + 1 => by
  have ih0 := cellarlaw9_Heavy.mono_l k
  ·intro y0 y1 y2 y3 y4 y5
   unfold cellarlaw9_Heavy.l0
   repeat' first
   | (with_reducible apply ih0)
   | (with_reducible apply cellarlaw0_BlocksWeight.mono)
   | (with_reducible apply LeO.refl)
   | (with_reducible apply LeO.none)
   | (with_reducible refine LeO.ite ?_ ?_)
   | (with_reducible refine LeO.bind ?_ (fun _ => ?_))
theorem cellarlaw9_Heavy.mono : ∀ a0 a1 a2 a3 k, LeO (cellarlaw9_Heavy.f k a0 a1 a2 a3) (cellarlaw9_Heavy.f (k + 1) a0 a1 a2 a3) := by
 intro a0 a1 a2 a3 k
 have ih0 := cellarlaw9_Heavy.mono_l k
 unfold cellarlaw9_Heavy.f
 repeat' first
   | (with_reducible apply ih0)
   | (with_reducible apply cellarlaw0_BlocksWeight.mono)
   | (with_reducible apply LeO.refl)
   | (with_reducible apply LeO.none)
   | (with_reducible refine LeO.ite ?_ ?_)
   | (with_reducible refine LeO.bind ?_ (fun _ => ?_))
set_option maxHeartbeats 8000000 in
set_option maxRecDepth 100000 in
theorem cellarlaw9_Heavy.calls (k : Nat) (A0_0 : Option Addr) (c0_0 : Nat) (l0_0 : List (List (S76))) (A0_1 : Option Addr) (c0_1 : Nat) (l0_1 : List (S62)) (A0_2 : Option Addr) (c0_2 : Nat) (l0_2 : List Int) (A0_3 : Option Addr) (c0_3 : Nat) (l0_3 : List (S29)) (r : Bool) (w : World) (hr0_0 : Kd.C (Kd.slice 76 k76) w A0_0 l0_0.length l0_0) (hc0_0 : l0_0.length ≤ c0_0) (hr0_1 : Kd.C k62 w A0_1 l0_1.length l0_1) (hc0_1 : l0_1.length ≤ c0_1) (hr0_2 : Kd.C (Kd.int .i64) w A0_2 l0_2.length l0_2) (hc0_2 : l0_2.length ≤ c0_2) (hr0_3 : Kd.C k29 w A0_3 l0_3.length l0_3) (hc0_3 : l0_3.length ≤ c0_3) (h : cellarlaw9_Heavy.f k l0_0 l0_1 l0_2 l0_3 = some r) :
  Calls Try.prog 25 #[.agg #[.slice A0_0 l0_0.length c0_0, .slice A0_1 l0_1.length c0_1, .slice A0_2 l0_2.length c0_2, .slice A0_3 l0_3.length c0_3]] w fun e w' => e = .returned (.bool r) ∧ Below w.heap.size w w' := by
 have hu54 := Try.underlying54
 have HR0_0 := Aside0.mk hr0_0
 have HC0_0 := Aside0.mk hc0_0
 clear hr0_0 hc0_0
 have HR0_1 := Aside0.mk hr0_1
 have HC0_1 := Aside0.mk hc0_1
 clear hr0_1 hc0_1
 have HR0_2 := Aside0.mk hr0_2
 have HC0_2 := Aside0.mk hc0_2
 clear hr0_2 hc0_2
 have HR0_3 := Aside0.mk hr0_3
 have HC0_3 := Aside0.mk hc0_3
 clear hr0_3 hc0_3
 have HB := Aside0.mk (Below.refl w.heap.size w)
 have H : (cellarlaw9_Heavy.l0 k (wrap64 ((wrap64 ((l0_1.length : Int) + (l0_2.length : Int))) + (l0_3.length : Int))) 0 l0_0 l0_1 l0_2 l0_3) = some r := h
 clear h
 have H' := Aside0.mk H
 clear H
 go_enter Try.func25, Try.ntmps25
 go_wp2_with (first | ((with_reducible refine gate_dst (N := 1) rfl ?_); refine zbox (N := 1) (cs := #[.slice A0_0 l0_0.length c0_0, .slice A0_1 l0_1.length c0_1, .slice A0_2 l0_2.length c0_2, .slice A0_3 l0_3.length c0_3]) (t := 54) ?_; intro gb102 hg w2 hbox hb; have n0_ := Aside0.mk (below_step (zw0 HB.out) hb); have BK102 := Aside0.mk (hbox); have GW102 := Aside0.mk (zg hg (below_size (zw0 HB.out))); have GE102 := GW102; clear HB; have HB := n0_; clear n0_; clear hb hbox hg; have hcz3_0 := zc BK102.out 0; have hcz3_1 := zc BK102.out 1; have hcz3_2 := zc BK102.out 2; have hcz3_3 := zc BK102.out 3; have hfz3_0 := blk_frozen BK102.out 0; have hfz3_1 := blk_frozen BK102.out 1; have hfz3_2 := blk_frozen BK102.out 2; have hfz3_3 := blk_frozen BK102.out 3))
 go_loopg [3, 4] k (fun kq v3 v4 w' => ∃ (x3_1 : Int) (x4_1 : Int), v3 = .int .i64 x3_1 ∧ v4 = .int .i64 x4_1 ∧ Aside0 (cellarlaw9_Heavy.l0 kq x3_1 x4_1 l0_0 l0_1 l0_2 l0_3 = some r) ∧ Aside0 (kq ≤ k) ∧ Aside0 (w'.heap[gb102]? = some (.cells #[(.slice A0_0 l0_0.length c0_0), (.slice A0_1 l0_1.length c0_1), (.slice A0_2 l0_2.length c0_2), (.slice A0_3 l0_3.length c0_3)] 54 (0, 0))) ∧ Aside0 (Below w.heap.size w w'))
 case atStart => exact ⟨(wrap64 ((wrap64 ((l0_1.length : Int) + (l0_2.length : Int))) + (l0_3.length : Int))), (0), (zr), (zr), H', ⟨Nat.le_refl _⟩, ⟨zb BK102.out⟩, ⟨zw1 HB.out GE102.out⟩⟩
 case round =>
  clear H'
  try clear c2; try clear p2
  obtain ⟨x3_1, x4_1, rfl, rfl, HA, HK1, BK102, HB⟩ := hrel
  cases gk with
  | zero => exact absurd HA.out (by simp [cellarlaw9_Heavy.l0])
  | succ k1 =>
   have H := HA.out
   clear HA
   simp only [cellarlaw9_Heavy.l0] at H
   by_cases c4 : x4_1 < (l0_0.length : Int)
   ·rw [if_pos c4] at H
    have c4b0 : decide (x4_1 < (l0_0.length : Int)) = true := decide_eq_true c4
    clear c4
    by_cases c5 : x3_1 < 1048576
    rotate_left
    ·rw [if_neg c5] at H
     have c5b0 : decide (x3_1 < 1048576) = false := decide_eq_false c5
     clear c5
     obtain rfl := Option.some.inj H
     have hcz9_0 := zc BK102.out 0
     have hcz9_1 := zc BK102.out 1
     have hcz9_2 := zc BK102.out 2
     have hcz9_3 := zc BK102.out 3
     have hfz9_0 := blk_frozen BK102.out 0
     have hfz9_1 := blk_frozen BK102.out 1
     have hfz9_2 := blk_frozen BK102.out 2
     have hfz9_3 := blk_frozen BK102.out 3
     go_wp2
     go_ret
     exact ⟨ze, zw1 HB.out GE102.out⟩
    rw [if_pos c5] at H
    have c5b0 : decide (x3_1 < 1048576) = true := decide_eq_true c5
    clear c5
    by_cases c6 : 0 ≤ x4_1
    rotate_left
    ·rw [if_neg c6] at H
     exact absurd H (by simp)
    rw [if_pos c6] at H
    have c6b0 : decide (0 ≤ x4_1) = true := decide_eq_true c6
    clear c6
    replace H := Option.bind_eq_some_iff.mp H
    obtain ⟨t104, A70, H⟩ := H
    replace H : (cellarlaw9_Heavy.l0 k1 (wrap64 (x3_1 + t104)) (wrap64 (x4_1 + 1)) l0_0 l0_1 l0_2 l0_3) = some r := H
    have A7 := Aside0.mk A70
    clear A70
    have H' := Aside0.mk H
    clear H
    have hcz8_0 := zc BK102.out 0
    have hcz8_1 := zc BK102.out 1
    have hcz8_2 := zc BK102.out 2
    have hcz8_3 := zc BK102.out 3
    have hfz8_0 := blk_frozen BK102.out 0
    have hfz8_1 := blk_frozen BK102.out 1
    have hfz8_2 := blk_frozen BK102.out 2
    have hfz8_3 := blk_frozen BK102.out 3
    have p103 : 0 ≤ (x4_1 : Int) := zdec
    have q103 : x4_1 < (l0_0.length : Int) := zdec
    obtain ⟨ad103, A103_0, c103_0, e103, hx103_0, hl103_0, hi103_0⟩ := at_L4 HR0_0.out x4_1 p103 q103
    cases e103
    replace hx103_0 := zh HB.out hx103_0
    have HR103_0 := Aside0.mk hi103_0
    have HC103_0 := Aside0.mk hl103_0
    clear hi103_0 hl103_0
    replace p103 := eq_true p103
    replace q103 := eq_true q103
    go_wp2_with (first | ((with_reducible refine gate_callee (f := 62) rfl ?_); refine zgo (some 33) Try.func62 #[.slice A103_0 (rd_L4 l0_0 x4_1).length c103_0] ?_; (with_reducible refine (cellarlaw0_BlocksWeight.calls k1 _ _ (rd_L4 l0_0 x4_1) t104 _ ?side1 ?side2 A7.out).mono ?_); (case side1 => repeat (first | exact (Kd.C_below HR103_0.out HB.out) | (with_reducible refine Kd.C_alloc ?_ _) | (with_reducible refine Kd.C_drewN ?_ _) | (with_reducible refine Kd.C_drew ?_))); (case side2 => exact HC103_0.out); rintro e w' ⟨rfl, ⟨nd, rfl⟩⟩; refine ⟨_, rfl, ?_⟩))
    go_roundg k1
    case measure => have := HK1.out; omega
    case rel => exact ⟨(wrap64 (x3_1 + t104)), (wrap64 (x4_1 + 1)), (zr), (zr), H', ⟨by have := HK1.out; omega⟩, ⟨zb BK102.out⟩, ⟨zw1 HB.out GE102.out⟩⟩
   ·rw [if_neg c4] at H
    have c4b0 : decide (x4_1 < (l0_0.length : Int)) = false := decide_eq_false c4
    clear c4
    obtain rfl := Option.some.inj H
    have hcz10_0 := zc BK102.out 0
    have hcz10_1 := zc BK102.out 1
    have hcz10_2 := zc BK102.out 2
    have hcz10_3 := zc BK102.out 3
    have hfz10_0 := blk_frozen BK102.out 0
    have hfz10_1 := blk_frozen BK102.out 1
    have hfz10_2 := blk_frozen BK102.out 2
    have hfz10_3 := blk_frozen BK102.out 3
    go_wp2
    go_ret
    exact ⟨ze, zw1 HB.out GE102.out⟩

/-! cellarlaw9_pointers -/
mutual
def cellarlaw9_pointers.j0 : Nat → List (S76) → List (S62) → List (List (S76)) → List (S62) → List Int → List (S29) → Option ((List (S62)))
 | 0, _, _, _, _, _, _ => none
 | k + 1, x1, x5, x106000, x106001, x106002, x106003 => cellarlaw9_pointers.l0 k x1 x5 1 x106000 x106001 x106002 x106003
def cellarlaw9_pointers.l0 : Nat → List (S76) → List (S62) → Int → List (List (S76)) → List (S62) → List Int → List (S29) → Option ((List (S62)))
 | 0, _, _, _, _, _, _, _ => none
 | k + 1, x1, x5, x6, x106000, x106001, x106002, x106003 => if x6 < (x1.length : Int) then (if x6 < 7 then (if 0 ≤ x6 then ((some (([(⟨true, 0, x6, 0⟩ : S62), (⟨true, 0, x6, mn (((rd_T76 x1 x6).f1).length : Int) 32⟩ : S62), (⟨true, 0, x6, Int.tmod (wrap64 ((wrap64 (x6 * 3)) + (x106002.length : Int))) 9⟩ : S62)] : List (S62)) : List (S62))).bind fun y116 => (if x5.length + y116.length < 4398046511104 then (cellarlaw9_pointers.l0 k x1 (x5 ++ y116) (wrap64 (x6 + 1)) x106000 x106001 x106002 x106003) else (none))) else (none)) else (some x5)) else (some x5)
end
def cellarlaw9_pointers.f (k : Nat) (l0_0 : List (List (S76))) (l0_1 : List (S62)) (l0_2 : List Int) (l0_3 : List (S29)) (l1 : List (S76)) : Option ((List (S62))) := (some (([(⟨true, 0, 0, 0⟩ : S62), (⟨true, 0, 50, 0⟩ : S62)] : List (S62)) : List (S62))).bind fun y106 => (if y106.length + l0_1.length < 4398046511104 then ((some (y106 ++ l0_1 : List (S62))).bind fun y109 => (if (y109.length : Int) > 7 then (if 7 ≤ (y109.length : Int) then (cellarlaw9_pointers.j0 k l1 (y109.take (7 : Int).toNat) l0_0 l0_1 l0_2 l0_3) else (none)) else (cellarlaw9_pointers.j0 k l1 y109 l0_0 l0_1 l0_2 l0_3))) else (none))
theorem cellarlaw9_pointers.mono_l : ∀ k, (∀ y0 y1 y2 y3 y4 y5, LeO (cellarlaw9_pointers.j0 k y0 y1 y2 y3 y4 y5) (cellarlaw9_pointers.j0 (k + 1) y0 y1 y2 y3 y4 y5)) ∧ (∀ y0 y1 y2 y3 y4 y5 y6, LeO (cellarlaw9_pointers.l0 k y0 y1 y2 y3 y4 y5 y6) (cellarlaw9_pointers.l0 (k + 1) y0 y1 y2 y3 y4 y5 y6))
 | 0 => ⟨fun _ _ _ _ _ _ r h => by simp [cellarlaw9_pointers.j0] at h, fun _ _ _ _ _ _ _ r h => by simp [cellarlaw9_pointers.l0] at h⟩
 | k + 1 => by
  obtain ⟨ih0, ih1⟩ := cellarlaw9_pointers.mono_l k
  refine ⟨?_, ?_⟩
  ·intro y0 y1 y2 y3 y4 y5
   unfold cellarlaw9_pointers.j0
   repeat' first
   | (with_reducible apply ih0)
   | (with_reducible apply ih1)
   | (with_reducible apply LeO.refl)
   | (with_reducible apply LeO.none)
   | (with_reducible refine LeO.ite ?_ ?_)
   | (with_reducible refine LeO.bind ?_ (fun _ => ?_))
  ·intro y0 y1 y2 y3 y4 y5 y6
   unfold cellarlaw9_pointers.l0
   repeat' first
   | (with_reducible apply ih0)
   | (with_reducible apply ih1)
   | (with_reducible apply LeO.refl)
   | (with_reducible apply LeO.none)
   | (with_reducible refine LeO.ite ?_ ?_)
   | (with_reducible refine LeO.bind ?_ (fun _ => ?_))
theorem cellarlaw9_pointers.mono : ∀ a0 a1 a2 a3 a4 k, LeO (cellarlaw9_pointers.f k a0 a1 a2 a3 a4) (cellarlaw9_pointers.f (k + 1) a0 a1 a2 a3 a4) := by
 intro a0 a1 a2 a3 a4 k
 obtain ⟨ih0, ih1⟩ := cellarlaw9_pointers.mono_l k
 unfold cellarlaw9_pointers.f
 repeat' first
   | (with_reducible apply ih0)
   | (with_reducible apply ih1)
   | (with_reducible apply LeO.refl)
   | (with_reducible apply LeO.none)
   | (with_reducible refine LeO.ite ?_ ?_)
   | (with_reducible refine LeO.bind ?_ (fun _ => ?_))
def cellarlaw9_pointers.T7 : Bool × List (List Nat × List Nat) := (true, [([], []), ([], []), ([1], [1]), ([], []), ([], []), ([], []), ([4, 5], [4, 5]), ([6], [6]), ([7], [7]), ([8], [8]), ([9], [9]), ([3, 10], [3, 10]), ([], []), ([], []), ([13], [13]), ([], []), ([15], [15]), ([16], [16]), ([14, 17], [14, 17]), ([18], [18]), ([12, 19], [12, 19]), ([2, 11, 20], [2, 11, 20]), ([0, 21], [0, 21]), ([22, 22, 0, 1, 2, 3, 4, 5, 6, 7, 8, 9, 10, 11, 12, 13, 14, 15, 16, 17, 18, 19, 20, 21, 22], [0, 22])])
def cellarlaw9_pointers.B7 : List Nat := [0, 0, 2, 0, 0, 0, 48, 112, 240, 496, 1008, 2040, 0, 0, 8192, 0, 32768, 98304, 253952, 516096, 1044480, 2097150, 4194303, 8388607]
theorem cellarlaw9_pointers.tab7 : rtab .any (opsOf Try.f29 7) = cellarlaw9_pointers.T7 := by kernel_rfl
theorem cellarlaw9_pointers.bits7 : waitsOk cellarlaw9_pointers.T7.2 cellarlaw9_pointers.B7 = true := by kernel_rfl
set_option maxHeartbeats 8000000 in
set_option maxRecDepth 100000 in
theorem cellarlaw9_pointers.calls (k : Nat) (A0_0 : Option Addr) (c0_0 : Nat) (l0_0 : List (List (S76))) (A0_1 : Option Addr) (c0_1 : Nat) (l0_1 : List (S62)) (A0_2 : Option Addr) (c0_2 : Nat) (l0_2 : List Int) (A0_3 : Option Addr) (c0_3 : Nat) (l0_3 : List (S29)) (A1 : Option Addr) (c1 : Nat) (l1 : List (S76)) (r : List (S62)) (w : World) (hr0_0 : Kd.C (Kd.slice 76 k76) w A0_0 l0_0.length l0_0) (hc0_0 : l0_0.length ≤ c0_0) (hr0_1 : Kd.C k62 w A0_1 l0_1.length l0_1) (hc0_1 : l0_1.length ≤ c0_1) (hr0_2 : Kd.C (Kd.int .i64) w A0_2 l0_2.length l0_2) (hc0_2 : l0_2.length ≤ c0_2) (hr0_3 : Kd.C k29 w A0_3 l0_3.length l0_3) (hc0_3 : l0_3.length ≤ c0_3) (hr1 : Kd.C k76 w A1 l1.length l1) (hc1 : l1.length ≤ c1) (h : cellarlaw9_pointers.f k l0_0 l0_1 l0_2 l0_3 l1 = some r) :
  Calls Try.prog 29 #[.agg #[.slice A0_0 l0_0.length c0_0, .slice A0_1 l0_1.length c0_1, .slice A0_2 l0_2.length c0_2, .slice A0_3 l0_3.length c0_3], .slice A1 l1.length c1] w fun e w' => ∃ v0_ : Value, e = .returned (v0_) ∧ Kd.R k62 62 w' w.heap.size (fun _ => True) v0_ r ∧ Below w.heap.size w w' := by
 have hu54 := Try.underlying54
 have hu62 := Try.underlying62
 have HR0_0 := Aside0.mk hr0_0
 have HC0_0 := Aside0.mk hc0_0
 clear hr0_0 hc0_0
 have HR0_1 := Aside0.mk hr0_1
 have HC0_1 := Aside0.mk hc0_1
 clear hr0_1 hc0_1
 have HR0_2 := Aside0.mk hr0_2
 have HC0_2 := Aside0.mk hc0_2
 clear hr0_2 hc0_2
 have HR0_3 := Aside0.mk hr0_3
 have HC0_3 := Aside0.mk hc0_3
 clear hr0_3 hc0_3
 have HR1 := Aside0.mk hr1
 have HC1 := Aside0.mk hc1
 clear hr1 hc1
 have HB := Aside0.mk (Below.refl w.heap.size w)
 have H : ((some (([(⟨true, 0, 0, 0⟩ : S62), (⟨true, 0, 50, 0⟩ : S62)] : List (S62)) : List (S62))).bind fun y106 => (if y106.length + l0_1.length < 4398046511104 then ((some (y106 ++ l0_1 : List (S62))).bind fun y109 => (if (y109.length : Int) > 7 then (if 7 ≤ (y109.length : Int) then (cellarlaw9_pointers.j0 k l1 (y109.take (7 : Int).toNat) l0_0 l0_1 l0_2 l0_3) else (none)) else (cellarlaw9_pointers.j0 k l1 y109 l0_0 l0_1 l0_2 l0_3))) else (none))) = some r := h
 clear h
 obtain ⟨y106, hy106⟩ : ∃ y_ : List (S62), y_ = (([(⟨true, 0, 0, 0⟩ : S62), (⟨true, 0, 50, 0⟩ : S62)] : List (S62))) := ⟨_, rfl⟩
 replace H : (if y106.length + l0_1.length < 4398046511104 then ((some (y106 ++ l0_1 : List (S62))).bind fun y109 => (if (y109.length : Int) > 7 then (if 7 ≤ (y109.length : Int) then (cellarlaw9_pointers.j0 k l1 (y109.take (7 : Int).toNat) l0_0 l0_1 l0_2 l0_3) else (none)) else (cellarlaw9_pointers.j0 k l1 y109 l0_0 l0_1 l0_2 l0_3))) else (none)) = some r := by first | (rw [hy106]; with_reducible exact H) | (have H2_ := (Option.bind_some _ _).symm.trans H; rw [hy106]; with_reducible exact H2_) | (have H2_ := (Option.bind_some _ _).symm.trans H; with_reducible exact H2_) | with_reducible exact H | (rw [hy106]; exact H) | exact H
 have Ny106 := Aside0.mk hy106
 clear hy106
 by_cases c3 : y106.length + l0_1.length < 4398046511104
 ·rw [if_pos c3] at H
  have LMc3 := Aside0.mk c3
  clear c3
  obtain ⟨y109, hy109⟩ : ∃ y_ : List (S62), y_ = (y106 ++ l0_1) := ⟨_, rfl⟩
  replace H : (if (y109.length : Int) > 7 then (if 7 ≤ (y109.length : Int) then (cellarlaw9_pointers.j0 k l1 (y109.take (7 : Int).toNat) l0_0 l0_1 l0_2 l0_3) else (none)) else (cellarlaw9_pointers.j0 k l1 y109 l0_0 l0_1 l0_2 l0_3)) = some r := by first | (rw [hy109]; with_reducible exact H) | (have H2_ := (Option.bind_some _ _).symm.trans H; rw [hy109]; with_reducible exact H2_) | (have H2_ := (Option.bind_some _ _).symm.trans H; with_reducible exact H2_) | with_reducible exact H | (rw [hy109]; exact H) | exact H
  have Ny109 := Aside0.mk hy109
  clear hy109
  have HC4 := Aside0.mk H
  clear H
  go_enter Try.func29, Try.ntmps29
  go_upto_if 15 with (first | ((with_reducible refine gate_dst (N := 2) rfl ?_); refine zbox (N := 2) (cs := #[.slice A0_0 l0_0.length c0_0, .slice A0_1 l0_1.length c0_1, .slice A0_2 l0_2.length c0_2, .slice A0_3 l0_3.length c0_3]) (t := 54) ?_; intro gb105 hg w5 hbox hb; have n0_ := Aside0.mk (below_step (zw0 HB.out) hb); have BK105 := Aside0.mk (hbox); have GW105 := Aside0.mk (zg hg (below_size (zw0 HB.out))); have GE105 := GW105; clear HB; have HB := n0_; clear n0_; clear hb hbox hg) | ((with_reducible refine gate_dst (N := 9) rfl ?_); refine Kd.R_lit k62 _ 62 ?hg (N := 9) ?hd (xs := ([(⟨true, 0, 0, 0⟩ : S62), (⟨true, 0, 50, 0⟩ : S62)] : List (S62))) (inner := [.bool true, .int .i64 0, .int .i64 0, .int .i64 0, .bool true, .int .i64 0, .int .i64 50, .int .i64 0]) (ok := fun _ => True) (okp := fun _ => True) ?hr ?hp (fun _ hk => hk) trivial (Below.refl _ _) (Nat.le_refl _) (by simp) ?_; (case hd => rfl); (case hg => rfl); (case hr => first | (go_simp; done) | (go_simp; rfl)); (case hp => exact (Reps.c4 (show Kd.M k62 _ _ _ (⟨true, 0, 0, 0⟩ : S62) [.bool true, .int .i64 0, .int .i64 0, .int .i64 0] from (k62_mkM _ _ _ (⟨true, 0, 0, 0⟩ : S62) )) (Reps.c4 (show Kd.M k62 _ _ _ (⟨true, 0, 50, 0⟩ : S62) [.bool true, .int .i64 0, .int .i64 50, .int .i64 0] from (k62_mkM _ _ _ (⟨true, 0, 50, 0⟩ : S62) )) (Reps.none _ _)))); intro v107 w6 ho7 hb hg_ hnew_; clear hg_ hnew_; (first | rw [← Ny106.out] at ho7 | (simp only [Int.reduceToNat] at ho7; rw [← Ny106.out] at ho7)); have HO108 := Aside0.mk (Kd.R_lower ho7 (below_size (zw1 HB.out GE105.out))); have n1_ := Aside0.mk (zbb BK105.out hb); have n2_ := Aside0.mk (below_step (zw1 HB.out GE105.out) hb); clear BK105 HB; have BK105 := n1_; have HB := n2_; clear n1_ n2_; clear hb ho7; have hcz8_0 := zc BK105.out 0; have hcz8_1 := zc BK105.out 1; have hcz8_2 := zc BK105.out 2; have hcz8_3 := zc BK105.out 3; have hfz8_0 := blk_frozen BK105.out 0; have hfz8_1 := blk_frozen BK105.out 1; have hfz8_2 := blk_frozen BK105.out 2; have hfz8_3 := blk_frozen BK105.out 3) | ((with_reducible refine gate_builtin (b := .append) (xs := #[.tmp 9, .tmp 11]) rfl ?_); at_builtin; refine Kd.R_append_rows k62 (w0 := w) w.heap.size rfl (.tmp 9) (.tmp 11) 52 62 (.agg #[(.bool false), (.int .i64 0), (.int .i64 0), (.int .i64 0)]) 32 rfl Try.underlying52 info62 rfl (by decide) (by omega) v107 y106 l0_1 _ _ _ (fun _ => True) (fun _ => False) rfl rfl ?aO ?aR (fun _ _ h => h) (fun _ h => h.elim) ?aF ?aB ?aS ?aL ?_; (case aR => repeat (first | exact (Kd.C_below HR0_1.out HB.out) | (with_reducible refine Kd.C_alloc ?_ _) | (with_reducible refine Kd.C_drewN ?_ _) | (with_reducible refine Kd.C_drew ?_))); (case aB => exact (zw1 HB.out GE105.out)); (case aF => exact (fun _ _ => trivial)); (case aO => exact (by (with_reducible repeat (first | apply Kd.R_alloc | apply Kd.R_drewN | apply Kd.R_drew)); exact HO108.out)); (case aS => exact (below_size (zw1 HB.out GE105.out))); (case aL => have := LMc3.out; omega); intro v110 w9 ho hb hg hat; rw [← Ny109.out] at ho; have n0_ := Aside0.mk (blk_grown (g := gb105) (o := .cells #[.slice A0_0 l0_0.length c0_0, .slice A0_1 l0_1.length c0_1, .slice A0_2 l0_2.length c0_2, .slice A0_3 l0_3.length c0_3] 54 (0, 0)) (zb BK105.out) hg (Kd.R_ne HO108.out BK105.out (by decide))); have n1_ := Aside0.mk (hb); have HO111 := Aside0.mk (ho); clear BK105 HB HO108; have BK105 := n0_; have HB := n1_; clear n0_ n1_; clear ho hb hg hat; obtain ⟨Ao10, co10, eo10⟩ := Kd.R_slice HO111.out; subst eo10))
  (try simp only [Act.put, List.setIfInBounds_toArray, List.set_cons_zero, List.set_cons_succ])
  go_cut [5] (fun v5 wc => ∃ (kq : Nat) (x5_3 : List (S62)), Aside0 (cellarlaw9_pointers.j0 kq l1 x5_3 l0_0 l0_1 l0_2 l0_3 = some r) ∧ Aside0 (kq ≤ k) ∧ Aside0 (Kd.R k62 62 wc w.heap.size (fun _ => True) v5 x5_3) ∧ Aside0 (wc.heap[gb105]? = some (.cells #[(.slice A0_0 l0_0.length c0_0), (.slice A0_1 l0_1.length c0_1), (.slice A0_2 l0_2.length c0_2), (.slice A0_3 l0_3.length c0_3)] 54 (0, 0))) ∧ Aside0 (Below w.heap.size w wc))
  case first =>
   have H := HC4.out
   clear HC4
   by_cases c11 : (y109.length : Int) > 7
   rotate_left
   ·rw [if_neg c11] at H
    have c11b0 : decide (7 < (y109.length : Int)) = false := decide_eq_false c11
    have c11b1 : decide (7 < y109.length) = false := decide_eq_false (by omega)
    clear c11
    (first | rw [c11b0] | (simp only [i64_w, i32_w]; rw [c11b0]) | skip)
    have H' := Aside0.mk H
    clear H
    go_wp2
    go_meet
    case rel => exact ⟨_, (y109), H', ⟨by first | omega | exact Nat.le_refl _⟩, ⟨by (with_reducible repeat (first | apply Kd.R_alloc | apply Kd.R_drewN | apply Kd.R_drew)); exact HO111.out⟩, ⟨zb BK105.out⟩, ⟨zw1 HB.out GE105.out⟩⟩
   rw [if_pos c11] at H
   have c11b0 : decide (7 < (y109.length : Int)) = true := decide_eq_true c11
   have c11b1 : decide (7 < y109.length) = true := decide_eq_true (by omega)
   clear c11
   (first | rw [c11b0] | (simp only [i64_w, i32_w]; rw [c11b0]) | skip)
   by_cases c12 : 7 ≤ (y109.length : Int)
   rotate_left
   ·rw [if_neg c12] at H
    exact absurd H (by simp)
   rw [if_pos c12] at H
   have c12b0 := eq_true c12
   have c12b1 : decide (7 ≤ (y109.length : Int)) = true := decide_eq_true c12
   clear c12
   obtain ⟨y112, hy112⟩ : ∃ y_ : List (S62), y_ = (y109.take (7 : Int).toNat) := ⟨_, rfl⟩
   replace H : (cellarlaw9_pointers.j0 k l1 y112 l0_0 l0_1 l0_2 l0_3) = some r := by first | (rw [hy112]; with_reducible exact H) | (have H2_ := (Option.bind_some _ _).symm.trans H; rw [hy112]; with_reducible exact H2_) | (have H2_ := (Option.bind_some _ _).symm.trans H; with_reducible exact H2_) | with_reducible exact H | (rw [hy112]; exact H) | exact H
   have Ny112 := Aside0.mk hy112
   clear hy112
   have H' := Aside0.mk H
   clear H
   have q13 : (7 : Int) ≤ ((y109.length : Int) : Int) := zdec
   obtain ⟨i013, hi013, _, hsz13, _⟩ := info_parts info62
   have hcut13 := cut_to (P := Try.prog) 52 62 .i64 Try.underlying52 hi013 Ao10 y109.length co10 7 (by omega) q13 (Kd.R_reads' HO111.out).2.1
   have hr13 := Kd.R_take (m := (7 : Int).toNat) HO111.out (by omega)
   have hy13 : y112.length = (7 : Int).toNat := (by rw [Ny112.out, List.length_take]; omega)
   rw [← Ny112.out] at hr13
   rw [← hy13] at hr13 hcut13
   clear hy13 hi013 hsz13 HO111
   have HO114 := Aside0.mk hr13
   clear hr13
   replace q13 := eq_true q13
   go_wp2
   go_meet
   case rel => exact ⟨_, (y112), H', ⟨by first | omega | exact Nat.le_refl _⟩, ⟨by (with_reducible repeat (first | apply Kd.R_alloc | apply Kd.R_drewN | apply Kd.R_drew)); exact HO114.out⟩, ⟨zb BK105.out⟩, ⟨zw1 HB.out GE105.out⟩⟩
  case rest =>
   clear HC4
   try clear c1; try clear q1; try clear c2; try clear p2; try clear c3; try clear c4; try clear c11; try clear c11b0; try clear c11b1; try clear c12; try clear c12b0; try clear c12b1; try clear q13; try clear q13
   obtain ⟨kq, x5_3, HA, HJ3, HO_5, BK105, HB⟩ := hcut
   cases kq with
   | zero => exact absurd HA.out (by simp [cellarlaw9_pointers.j0])
   | succ kj3 =>
    have H := HA.out
    clear HA
    simp only [cellarlaw9_pointers.j0] at H
    have H' := Aside0.mk H
    clear H
    go_wp2
    go_loopg [5, 6] kj3 (fun kq v5 v6 w' => ∃ (x5_2 : List (S62)) (x6_2 : Int), v6 = .int .i64 x6_2 ∧ Aside0 (cellarlaw9_pointers.l0 kq l1 x5_2 x6_2 l0_0 l0_1 l0_2 l0_3 = some r) ∧ Aside0 (kq ≤ kj3) ∧ Aside0 (Kd.R k62 62 w' w.heap.size (fun _ => True) v5 x5_2) ∧ Aside0 (w'.heap[gb105]? = some (.cells #[(.slice A0_0 l0_0.length c0_0), (.slice A0_1 l0_1.length c0_1), (.slice A0_2 l0_2.length c0_2), (.slice A0_3 l0_3.length c0_3)] 54 (0, 0))) ∧ Aside0 (Below w.heap.size w w'))
    case atStart => exact ⟨(x5_3), (1), (zr), H', ⟨Nat.le_refl _⟩, ⟨by (with_reducible repeat (first | apply Kd.R_alloc | apply Kd.R_drewN | apply Kd.R_drew)); exact HO_5.out⟩, ⟨zb BK105.out⟩, ⟨zw1 HB.out GE105.out⟩⟩
    case round =>
     clear H'
     try clear c1; try clear q1; try clear c2; try clear p2; try clear c3; try clear c4; try clear c11; try clear c11b0; try clear c11b1; try clear c12; try clear c12b0; try clear c12b1; try clear q13; try clear p2; try clear q1; try clear q13
     obtain ⟨x5_2, x6_2, rfl, HA, HK2, HO_5, BK105, HB⟩ := hrel
     cases gk with
     | zero => exact absurd HA.out (by simp [cellarlaw9_pointers.l0])
     | succ k2 =>
      have H := HA.out
      clear HA
      simp only [cellarlaw9_pointers.l0] at H
      by_cases c14 : x6_2 < (l1.length : Int)
      rotate_left
      ·rw [if_neg c14] at H
       have c14b0 : decide (x6_2 < (l1.length : Int)) = false := decide_eq_false c14
       clear c14
       obtain rfl := Option.some.inj H
       go_wp2
       go_ret
       exact ⟨_, ze, by (with_reducible repeat (first | apply Kd.R_alloc | apply Kd.R_drewN | apply Kd.R_drew)); exact HO_5.out, zw1 HB.out GE105.out⟩
      rw [if_pos c14] at H
      have c14b0 : decide (x6_2 < (l1.length : Int)) = true := decide_eq_true c14
      clear c14
      by_cases c15 : x6_2 < 7
      rotate_left
      ·rw [if_neg c15] at H
       have c15b0 : decide (x6_2 < 7) = false := decide_eq_false c15
       clear c15
       obtain rfl := Option.some.inj H
       go_wp2
       go_ret
       exact ⟨_, ze, by (with_reducible repeat (first | apply Kd.R_alloc | apply Kd.R_drewN | apply Kd.R_drew)); exact HO_5.out, zw1 HB.out GE105.out⟩
      rw [if_pos c15] at H
      have c15b0 : decide (x6_2 < 7) = true := decide_eq_true c15
      clear c15
      by_cases c16 : 0 ≤ x6_2
      rotate_left
      ·rw [if_neg c16] at H
       exact absurd H (by simp)
      rw [if_pos c16] at H
      have c16b0 : decide (0 ≤ x6_2) = true := decide_eq_true c16
      clear c16
      obtain ⟨ji17, hji17⟩ : ∃ j_ : Int, (mn (((rd_T76 l1 x6_2).f1).length : Int) 32) = j_ := ⟨_, rfl⟩
      replace H : ((some (([(⟨true, 0, x6_2, 0⟩ : S62), (⟨true, 0, x6_2, ji17⟩ : S62), (⟨true, 0, x6_2, Int.tmod (wrap64 ((wrap64 (x6_2 * 3)) + (l0_2.length : Int))) 9⟩ : S62)] : List (S62)) : List (S62))).bind fun y116 => (if x5_2.length + y116.length < 4398046511104 then (cellarlaw9_pointers.l0 k2 l1 (x5_2 ++ y116) (wrap64 (x6_2 + 1)) l0_0 l0_1 l0_2 l0_3) else (none))) = some r := by first | (rw [hji17] at H; exact H) | (simp only [hji17] at H ⊢; exact H)
      have hji17_ : (if 32 < (((rd_T76 l1 x6_2).f1).length : Int) then 32 else (((rd_T76 l1 x6_2).f1).length : Int)) = ji17 := hji17
      obtain ⟨y116, hy116⟩ : ∃ y_ : List (S62), y_ = (([(⟨true, 0, x6_2, 0⟩ : S62), (⟨true, 0, x6_2, ji17⟩ : S62), (⟨true, 0, x6_2, Int.tmod (wrap64 ((wrap64 (x6_2 * 3)) + (l0_2.length : Int))) 9⟩ : S62)] : List (S62))) := ⟨_, rfl⟩
      replace H : (if x5_2.length + y116.length < 4398046511104 then (cellarlaw9_pointers.l0 k2 l1 (x5_2 ++ y116) (wrap64 (x6_2 + 1)) l0_0 l0_1 l0_2 l0_3) else (none)) = some r := by first | (rw [hy116]; with_reducible exact H) | (have H2_ := (Option.bind_some _ _).symm.trans H; rw [hy116]; with_reducible exact H2_) | (have H2_ := (Option.bind_some _ _).symm.trans H; with_reducible exact H2_) | with_reducible exact H | (rw [hy116]; exact H) | exact H
      have Ny116 := Aside0.mk hy116
      clear hy116
      by_cases c18 : x5_2.length + y116.length < 4398046511104
      rotate_left
      ·rw [if_neg c18] at H
       exact absurd H (by simp)
      rw [if_pos c18] at H
      have LMc18 := Aside0.mk c18
      clear c18
      obtain ⟨y119, hy119⟩ : ∃ y_ : List (S62), y_ = (x5_2 ++ y116) := ⟨_, rfl⟩
      replace H : (cellarlaw9_pointers.l0 k2 l1 y119 (wrap64 (x6_2 + 1)) l0_0 l0_1 l0_2 l0_3) = some r := by first | (rw [hy119]; with_reducible exact H) | (have H2_ := (Option.bind_some _ _).symm.trans H; rw [hy119]; with_reducible exact H2_) | (have H2_ := (Option.bind_some _ _).symm.trans H; with_reducible exact H2_) | with_reducible exact H | (rw [hy119]; exact H) | exact H
      have Ny119 := Aside0.mk hy119
      clear hy119
      have H' := Aside0.mk H
      clear H
      try go_wp2
      have n0_ := Aside0.mk (Kd.R_drew HO_5.out)
      have n1_ := Aside0.mk (blk_drew BK105.out)
      have n2_ := Aside0.mk (below_drew1 HB.out)
      clear HO_5
      clear BK105
      clear HB
      have HO_5 := n0_
      have BK105 := n1_
      have HB := n2_
      clear n0_ n1_ n2_
      have p115 : 0 ≤ (x6_2 : Int) := zdec
      have q115 : x6_2 < (l1.length : Int) := zdec
      obtain ⟨ad115, A115_1, c115_1, e115, hx115_0, hx115_1, hl115_1, hi115_1⟩ := at_T76 HR1.out x6_2 p115 q115
      have hw115_1 := hx115_1
      have hw115_0 := hx115_0
      cases e115
      replace hx115_0 := zh HB.out hx115_0
      replace hx115_1 := zh HB.out hx115_1
      have HR115_1 := Aside0.mk hi115_1
      have HC115_1 := Aside0.mk hl115_1
      clear hi115_1 hl115_1
      replace p115 := eq_true p115
      replace q115 := eq_true q115
      refine start_ (n := 24) (S := fun w' => w'.cell? ⟨gb105, 0, none⟩ = some (.slice A0_0 l0_0.length c0_0) ∧ w'.cell? ⟨gb105, 1, none⟩ = some (.slice A0_1 l0_1.length c0_1) ∧ w'.cell? ⟨gb105, 2, none⟩ = some (.slice A0_2 l0_2.length c0_2) ∧ w'.cell? ⟨gb105, 3, none⟩ = some (.slice A0_3 l0_3.length c0_3) ∧ w'.cell? (ad115.add ((x6_2).toNat * 2)) = some (.int .i64 ((rd_T76 l1 x6_2).f0)) ∧ w'.cell? ⟨(ad115.add ((x6_2).toNat * 2)).block, (ad115.add ((x6_2).toNat * 2)).off + 1, none⟩ = some (.slice A115_1 ((rd_T76 l1 x6_2).f1).length c115_1)) (ds := []) #[false,false,false,false,false,false,false,false,false,false,false,false,false,false,false,false,false,false,false,false,false,false,false,false] (by kernel_rfl) rfl rfl ⟨(blk_cell BK105.out 0).trans rfl, (blk_cell BK105.out 1).trans rfl, (blk_cell BK105.out 2).trans rfl, (blk_cell BK105.out 3).trans rfl, ((HB.out.cell (World.block_lt_of_cell? w _ hw115_0)).trans hw115_0), ((HB.out.cell (World.block_lt_of_cell? w _ hw115_1)).trans hw115_1)⟩ (fun hHeld => ?_); refine with_tabW cellarlaw9_pointers.tab7 cellarlaw9_pointers.bits7 (fun HT_ HW_ => ?_)
      generalize wr.drew = w19 at HO_5 BK105 HB HR115_1 hx115_0 hx115_1 hHeld ⊢
      refine zq 0 (some 28) HT_ ?_; refine zq 1 (some 29) HT_ ?_; refine zq 2 (some 30) HT_ ?_; refine zq 3 (some 31) HT_ ?_; refine zq 4 (some 32) HT_ ?_; refine zq 5 (some 33) HT_ ?_; refine zq 6 (some 34) HT_ ?_; refine zq 7 (some 35) HT_ ?_; refine zq 12 (some 40) HT_ ?_; refine zq 13 (some 41) HT_ ?_; refine zq 14 (some 42) HT_ ?_; refine zq 15 (some 43) HT_ ?_; refine zt 8 (some 36) HT_ HW_ hHeld ?_; refine zq 9 (some 37) HT_ ?_; refine zq 10 (some 38) HT_ ?_; refine zq 11 (some 39) HT_ ?_; refine zt 16 (some 44) HT_ HW_ hHeld ?_; refine zq 17 (some 45) HT_ ?_; refine zq 18 (some 46) HT_ ?_; refine zq 19 (some 47) HT_ ?_; refine zq 20 (some 48) HT_ ?_
      refine one_ (i := 21) (N := some 49) #[true,true,true,true,true,true,true,true,true,true,true,true,true,true,true,true,true,true,true,true,true,true,false,false] rfl rfl (one_of HT_.out (by kernel_rfl)) (by decide) (fun K hK => ?_)
      refine Kd.R_lit_step k62 _ 62 ?hg (N := 49) ?hd (xs := ([(⟨true, 0, x6_2, 0⟩ : S62), (⟨true, 0, x6_2, ji17⟩ : S62), (⟨true, 0, x6_2, Int.tmod (wrap64 ((wrap64 (x6_2 * 3)) + (l0_2.length : Int))) 9⟩ : S62)] : List (S62))) (inner := [.bool true, .int .i64 0, .int .i64 x6_2, .int .i64 0, .bool true, .int .i64 0, .int .i64 x6_2, .int .i64 ji17, .bool true, .int .i64 0, .int .i64 x6_2, .int .i64 (Int.tmod (wrap64 ((wrap64 (x6_2 * 3)) + (l0_2.length : Int))) 9)]) (ok := fun _ => True) (okp := fun _ => True) ?hr ?hp (fun _ hk => hk) trivial (Below.refl _ _) (Nat.le_refl _) (by simp) ?_; (case hd => rfl); (case hg => rfl); (case hr => first | (go_simp; done) | (go_simp; rfl)); (case hp => exact (Reps.c4 (show Kd.M k62 _ _ _ (⟨true, 0, x6_2, 0⟩ : S62) [.bool true, .int .i64 0, .int .i64 x6_2, .int .i64 0] from (k62_mkM _ _ _ (⟨true, 0, x6_2, 0⟩ : S62) )) (Reps.c4 (show Kd.M k62 _ _ _ (⟨true, 0, x6_2, ji17⟩ : S62) [.bool true, .int .i64 0, .int .i64 x6_2, .int .i64 ji17] from (k62_mkM _ _ _ (⟨true, 0, x6_2, ji17⟩ : S62) )) (Reps.c4 (show Kd.M k62 _ _ _ (⟨true, 0, x6_2, Int.tmod (wrap64 ((wrap64 (x6_2 * 3)) + (l0_2.length : Int))) 9⟩ : S62) [.bool true, .int .i64 0, .int .i64 x6_2, .int .i64 (Int.tmod (wrap64 ((wrap64 (x6_2 * 3)) + (l0_2.length : Int))) 9)] from (k62_mkM _ _ _ (⟨true, 0, x6_2, Int.tmod (wrap64 ((wrap64 (x6_2 * 3)) + (l0_2.length : Int))) 9⟩ : S62) )) (Reps.none _ _)))))
      intro v117 w20 ho21 hb hg_ hnew_
      clear hg_ hnew_
      (first | rw [← Ny116.out] at ho21 | (simp only [Int.reduceToNat] at ho21; rw [← Ny116.out] at ho21))
      have n0_ := Aside0.mk (Kd.R_elder' (by (with_reducible repeat (first | apply Kd.R_alloc | apply Kd.R_drewN | apply Kd.R_drew)); exact HO_5.out) (Kd.R_base ho21) hb)
      have n1_ := Aside0.mk (Kd.R_lower (Kd.R_new' ho21 (Kd.R_lt (by (with_reducible repeat (first | apply Kd.R_alloc | apply Kd.R_drewN | apply Kd.R_drew)); exact HO_5.out))) (below_size (zw1 HB.out GE105.out)))
      have n2_ := Aside0.mk (zbb BK105.out hb)
      have n3_ := Aside0.mk (below_step (zw1 HB.out GE105.out) hb)
      clear HO_5
      clear BK105
      clear HB
      have HO_5 := n0_
      have HO118 := n1_
      have BK105 := n2_
      have HB := n3_
      clear n0_ n1_ n2_ n3_
      clear hb ho21
      obtain ⟨Ao23, co23, eo23⟩ := Kd.R_slice HO118.out
      (first | subst eo23 | (injection eo23 with f1_ f2_ f3_; have f4_ := f1_.symm; have f5_ := f3_.symm; clear f1_ f2_ f3_; subst f4_; subst f5_))
      refine hK.out _ _ ⟨(blk_cell BK105.out 0).trans rfl, (blk_cell BK105.out 1).trans rfl, (blk_cell BK105.out 2).trans rfl, (blk_cell BK105.out 3).trans rfl, ((HB.out.cell (World.block_lt_of_cell? w _ hw115_0)).trans hw115_0), ((HB.out.cell (World.block_lt_of_cell? w _ hw115_1)).trans hw115_1)⟩ (fun hHeld => ?_)
      clear hK K
      refine norm_ (a' := ?_) ?_ ?_
      rotate_left
      ·show Act.put _ (some 49) _ = _
       simp only [Act.put, List.setIfInBounds_toArray, List.set_cons_zero, List.set_cons_succ, i64_w, i32_w]
       rfl
      refine one_ (i := 22) (N := some 50) #[true,true,true,true,true,true,true,true,true,true,true,true,true,true,true,true,true,true,true,true,true,true,true,false] rfl rfl (one_of HT_.out (by kernel_rfl)) (by decide) (fun K hK => ?_)
      refine Kd.R_append_rows_step k62 (w0 := w) w.heap.size (by rfl) (.tmp 28) (.tmp 49) 52 62 (.agg #[(.bool false), (.int .i64 0), (.int .i64 0), (.int .i64 0)]) 32 rfl Try.underlying52 info62 rfl (by decide) (by omega) u5 x5_2 y116 _ _ _ (fun k_ => some k_ ≠ (.slice Ao23 y116.length co23 : Value).ownBlock) (fun _ => False) rfl rfl ?aO ?aR (fun _ _ h => h) (fun _ h => h.elim) ?aF ?aB ?aS ?aL ?_
      (case aR => repeat (first | exact (Kd.R_reads' HO118.out).2.2 | (with_reducible refine Kd.C_alloc ?_ _) | (with_reducible refine Kd.C_drewN ?_ _) | (with_reducible refine Kd.C_drew ?_)))
      (case aB => exact (zw1 HB.out GE105.out))
      (case aF => exact (fun k_ hk => Kd.fresh' (Kd.R_lt (by (with_reducible repeat (first | apply Kd.R_alloc | apply Kd.R_drewN | apply Kd.R_drew)); exact HO118.out)) k_ hk))
      (case aO => exact (by (with_reducible repeat (first | apply Kd.R_alloc | apply Kd.R_drewN | apply Kd.R_drew)); exact Kd.R_mono HO_5.out (fun _ hk => hk.2)))
      (case aS => exact (below_size (zw1 HB.out GE105.out)))
      (case aL => have := LMc18.out; omega)
      intro v120 w22 ho hb hg hat
      rw [← Ny119.out] at ho
      have n0_ := Aside0.mk (blk_grown (g := gb105) (o := .cells #[.slice A0_0 l0_0.length c0_0, .slice A0_1 l0_1.length c0_1, .slice A0_2 l0_2.length c0_2, .slice A0_3 l0_3.length c0_3] 54 (0, 0)) (zb BK105.out) hg (Kd.R_ne HO_5.out BK105.out (by decide)))
      have n1_ := Aside0.mk (Kd.R_after (ok := (fun _ => True)) (by (with_reducible repeat (first | apply Kd.R_alloc | apply Kd.R_drewN | apply Kd.R_drew)); exact HO118.out) hg hat)
      have n2_ := Aside0.mk (hb)
      have n3_ := Aside0.mk (ho)
      clear BK105
      clear HO118
      clear HB
      clear HO_5
      have BK105 := n0_
      have HO118 := n1_
      have HB := n2_
      have HO121 := n3_
      clear n0_ n1_ n2_ n3_
      clear ho hb hg hat
      refine hK.out _ _ ⟨(blk_cell BK105.out 0).trans rfl, (blk_cell BK105.out 1).trans rfl, (blk_cell BK105.out 2).trans rfl, (blk_cell BK105.out 3).trans rfl, ((HB.out.cell (World.block_lt_of_cell? w _ hw115_0)).trans hw115_0), ((HB.out.cell (World.block_lt_of_cell? w _ hw115_1)).trans hw115_1)⟩ (fun hHeld => ?_)
      clear hK K
      refine norm_ (a' := ?_) ?_ ?_
      rotate_left
      ·show Act.put _ (some 50) _ = _
       simp only [Act.put, List.setIfInBounds_toArray, List.set_cons_zero, List.set_cons_succ, i64_w, i32_w]
       rfl
      refine zq 23 (some 5) HT_ ?_
      refine done_ (done_of HT_.out (by kernel_rfl)) ?_
      try go_wp2
      go_roundg k2
      case measure => have := HJ3.out; have := HK2.out; omega
      case rel => exact ⟨(y119), (wrap64 (x6_2 + 1)), (zr), H', ⟨by have := HJ3.out; have := HK2.out; omega⟩, ⟨by (with_reducible repeat (first | apply Kd.R_alloc | apply Kd.R_drewN | apply Kd.R_drew)); exact Kd.R_mono HO121.out (fun _ hk => trivial)⟩, ⟨zb BK105.out⟩, ⟨zw1 HB.out GE105.out⟩⟩
 ·rw [if_neg c3] at H
  exact absurd H (by simp)

/-! bytes_up -/
def bytes_up.f (a0 : Int) (a1 : Int) : Option (Bool) := if a0 ≥ 0 then (some (decide (a0 ≤ a1))) else (some false)
set_option maxHeartbeats 8000000 in
set_option maxRecDepth 100000 in
theorem bytes_up.calls (a0 : Int) (a1 : Int) (r : Bool) (w : World) (h : bytes_up.f a0 a1 = some r) :
  Calls Try.prog 100 #[.int .i64 a0, .int .i64 a1] w fun e w' => e = .returned (.bool r) ∧ Drawn0 w w' := by
 have H : (if a0 ≥ 0 then (some (decide (a0 ≤ a1))) else (some false)) = some r := h
 clear h
 by_cases c3 : a0 ≥ 0
 ·rw [if_pos c3] at H
  have c3b0 : decide (0 ≤ a0) = true := decide_eq_true c3
  clear c3
  obtain rfl := Option.some.inj H
  go_enter Try.func100, Try.ntmps100
  go_wp2
  go_ret
  exact ⟨zr, by repeat (first | exact Drawn0.refl _ | apply Drawn0.step)⟩
 ·rw [if_neg c3] at H
  have c3b0 : decide (0 ≤ a0) = false := decide_eq_false c3
  clear c3
  obtain rfl := Option.some.inj H
  go_enter Try.func100, Try.ntmps100
  go_wp2
  go_ret
  exact ⟨zr, by repeat (first | exact Drawn0.refl _ | apply Drawn0.step)⟩

end Go.Proofs.Ytjoplkillkhiaaa.Q2
