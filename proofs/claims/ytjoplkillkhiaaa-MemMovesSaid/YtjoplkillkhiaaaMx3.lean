-- Written by this session's own edition of the print.
import Derived.Test.YtjoplkillkhiaaaMx0
import Derived.Test.YtjoplkillkhiaaaMx2
import Derived.Test.YtjoplkillkhiaaaSq
import Derived.Test.YtjoplkillkhiaaaSq2
namespace Go.Proofs.Ytjoplkillkhiaaa.M
open Go.RowKit Go.Proofs.Ytjoplkillkhiaaa.Fn Go.Proofs.YtjoplkillkhiaaaW.PrintWords Go.Proofs.YtjoplkillkhiaaaW.PrintLast Go.Proofs.YtjoplkillkhiaaaW.PrintMore
attribute [local go_sem] max2_int min2_int max_two min_two max_three min_three max_four min_four   -- for this text's walks alone
set_option linter.unusedVariables false
set_option linter.unusedSimpArgs false

attribute [local go_sem high] eqA74
/-! cellarlaw0_BlocksWeight -/
def cellarlaw0_BlocksWeight.l0 : Nat → List (S76) → Int → Int → Option (Int)
 | 0, _, _, _ => none
 | k + 1, x0, x3, x4 => if x4 < (x0.length : Int) then (if x3 < 1048576 then (if 0 ≤ x4 then (cellarlaw0_BlocksWeight.l0 k x0 (wrap64 (x3 + (((rd_T76 x0 x4).f1).length : Int))) (wrap64 (x4 + 1))) else (none)) else (some x3)) else (some x3)
def cellarlaw0_BlocksWeight.f (k : Nat) (l0 : List (S76)) : Option (Int) := cellarlaw0_BlocksWeight.l0 k l0 (l0.length : Int) 0
theorem cellarlaw0_BlocksWeight.mono_l : ∀ k, (∀ y0 y1 y2, LeO (cellarlaw0_BlocksWeight.l0 k y0 y1 y2) (cellarlaw0_BlocksWeight.l0 (k + 1) y0 y1 y2))
 | 0 => fun _ _ _ r h => by simp [cellarlaw0_BlocksWeight.l0] at h
 | k + 1 => by
  have ih0 := cellarlaw0_BlocksWeight.mono_l k
  ·intro y0 y1 y2
   unfold cellarlaw0_BlocksWeight.l0
   repeat' first
   | (with_reducible apply ih0)
   | (with_reducible apply LeO.refl)
   | (with_reducible apply LeO.none)
   | (with_reducible refine LeO.ite ?_ ?_)
   | (with_reducible refine LeO.bind ?_ (fun _ => ?_))
theorem cellarlaw0_BlocksWeight.mono : ∀ a0 k, LeO (cellarlaw0_BlocksWeight.f k a0) (cellarlaw0_BlocksWeight.f (k + 1) a0) := by
 intro a0 k
 have ih0 := cellarlaw0_BlocksWeight.mono_l k
 unfold cellarlaw0_BlocksWeight.f
 repeat' first
   | (with_reducible apply ih0)
   | (with_reducible apply LeO.refl)
   | (with_reducible apply LeO.none)
   | (with_reducible refine LeO.ite ?_ ?_)
   | (with_reducible refine LeO.bind ?_ (fun _ => ?_))
set_option maxHeartbeats 8000000 in
set_option maxRecDepth 100000 in
theorem cellarlaw0_BlocksWeight.calls (k : Nat) (A0 : Option Addr) (c0 : Nat) (l0 : List (S76)) (r : Int) (w : World) (hr0 : Kd.C k76 w A0 l0.length l0) (hc0 : l0.length ≤ c0) (h : cellarlaw0_BlocksWeight.f k l0 = some r) :
  Calls Try.prog 62 #[.slice A0 l0.length c0] w fun e w' => e = .returned (.int .i64 r) ∧ Drawn0 w w' := by
 have HR0 := Aside0.mk hr0
 have HC0 := Aside0.mk hc0
 clear hr0 hc0
 have H : (cellarlaw0_BlocksWeight.l0 k l0 (l0.length : Int) 0) = some r := h
 clear h
 have H' := Aside0.mk H
 clear H
 go_enter Try.func62, Try.ntmps62
 go_wp2
 go_loopg [3, 4] k (fun kq v3 v4 w' => ∃ (x3_1 : Int) (x4_1 : Int), v3 = .int .i64 x3_1 ∧ v4 = .int .i64 x4_1 ∧ Aside0 (cellarlaw0_BlocksWeight.l0 kq l0 x3_1 x4_1 = some r) ∧ Aside0 (kq ≤ k) ∧ Drawn0 w w')
 case atStart => exact ⟨((l0.length : Int)), (0), (zr), (zr), H', ⟨Nat.le_refl _⟩, by repeat (first | exact Drawn0.refl _ | apply Drawn0.step)⟩
 case round =>
  clear H'
  obtain ⟨x3_1, x4_1, rfl, rfl, HA, HK1, ⟨m1, rfl⟩⟩ := hrel
  cases gk with
  | zero => exact absurd HA.out (by simp [cellarlaw0_BlocksWeight.l0])
  | succ k1 =>
   have H := HA.out
   clear HA
   simp only [cellarlaw0_BlocksWeight.l0] at H
   by_cases c2 : x4_1 < (l0.length : Int)
   ·rw [if_pos c2] at H
    have c2b0 : decide (x4_1 < (l0.length : Int)) = true := decide_eq_true c2
    clear c2
    by_cases c3 : x3_1 < 1048576
    rotate_left
    ·rw [if_neg c3] at H
     have c3b0 : decide (x3_1 < 1048576) = false := decide_eq_false c3
     clear c3
     obtain rfl := Option.some.inj H
     go_wp2
     go_ret
     exact ⟨zr, by repeat (first | exact Drawn0.refl _ | apply Drawn0.step)⟩
    rw [if_pos c3] at H
    have c3b0 : decide (x3_1 < 1048576) = true := decide_eq_true c3
    clear c3
    by_cases c4 : 0 ≤ x4_1
    rotate_left
    ·rw [if_neg c4] at H
     exact absurd H (by simp)
    rw [if_pos c4] at H
    have c4b0 : decide (0 ≤ x4_1) = true := decide_eq_true c4
    clear c4
    have H' := Aside0.mk H
    clear H
    have p101 : 0 ≤ (x4_1 : Int) := zdec
    have q101 : x4_1 < (l0.length : Int) := zdec
    obtain ⟨ad101, A101_1, c101_1, e101, hx101_0, hx101_1, hl101_1, hi101_1⟩ := at_T76 HR0.out x4_1 p101 q101
    cases e101
    have HR101_1 := Aside0.mk hi101_1
    have HC101_1 := Aside0.mk hl101_1
    clear hi101_1 hl101_1
    replace p101 := eq_true p101
    replace q101 := eq_true q101
    go_wp2
    go_roundg k1
    case measure => have := HK1.out; omega
    case rel => exact ⟨(wrap64 (x3_1 + (((rd_T76 l0 x4_1).f1).length : Int))), (wrap64 (x4_1 + 1)), (zr), (zr), H', ⟨by have := HK1.out; omega⟩, by repeat (first | exact Drawn0.refl _ | apply Drawn0.step)⟩
   ·rw [if_neg c2] at H
    have c2b0 : decide (x4_1 < (l0.length : Int)) = false := decide_eq_false c2
    clear c2
    obtain rfl := Option.some.inj H
    go_wp2
    go_ret
    exact ⟨zr, by repeat (first | exact Drawn0.refl _ | apply Drawn0.step)⟩

/-! cellarlaw9_Heavy -/
def cellarlaw9_Heavy.l0 : Nat → Int → Int → List (List (S76)) → List (S62) → List Int → List (S29) → Option (Bool)
 | 0, _, _, _, _, _, _ => none
 | k + 1, x3, x4, x103000, x103001, x103002, x103003 => if x4 < (x103000.length : Int) then (if x3 < 1048576 then (if 0 ≤ x4 then ((cellarlaw0_BlocksWeight.f k (rd_L4 x103000 x4)).bind fun t104 => (cellarlaw9_Heavy.l0 k (wrap64 (x3 + t104)) (wrap64 (x4 + 1)) x103000 x103001 x103002 x103003)) else (none)) else (some (decide (x3 > 700)))) else (some (decide (x3 > 700)))
def cellarlaw9_Heavy.f (k : Nat) (l0_0 : List (List (S76))) (l0_1 : List (S62)) (l0_2 : List Int) (l0_3 : List (S29)) : Option (Bool) := cellarlaw9_Heavy.l0 k (wrap64 ((wrap64 ((l0_1.length : Int) + (l0_2.length : Int))) + (l0_3.length : Int))) 0 l0_0 l0_1 l0_2 l0_3
theorem cellarlaw9_Heavy.mono_l : ∀ k, (∀ y0 y1 y2 y3 y4 y5, LeO (cellarlaw9_Heavy.l0 k y0 y1 y2 y3 y4 y5) (cellarlaw9_Heavy.l0 (k + 1) y0 y1 y2 y3 y4 y5))
 | 0 => fun _ _ _ _ _ _ r h => by simp [cellarlaw9_Heavy.l0] at h
 | k + 1 => by
  have ih0 := cellarlaw9_Heavy.mono_l k
  ·intro y0 y1 y2 y3 y4 y5
   unfold cellarlaw9_Heavy.l0
   repeat' first
   | (with_reducible apply ih0)
   | (with_reducible apply cellarlaw0_BlocksWeight.mono)
   | (with_reducible apply LeO.refl)
   | (with_reducible apply LeO.none)
   | (with_reducible refine LeO.ite ?_ ?_)
   | (with_reducible refine LeO.bind ?_ (fun _ => ?_))
theorem cellarlaw9_Heavy.mono : ∀ a0 a1 a2 a3 k, LeO (cellarlaw9_Heavy.f k a0 a1 a2 a3) (cellarlaw9_Heavy.f (k + 1) a0 a1 a2 a3) := by
 intro a0 a1 a2 a3 k
 have ih0 := cellarlaw9_Heavy.mono_l k
 unfold cellarlaw9_Heavy.f
 repeat' first
   | (with_reducible apply ih0)
   | (with_reducible apply cellarlaw0_BlocksWeight.mono)
   | (with_reducible apply LeO.refl)
   | (with_reducible apply LeO.none)
   | (with_reducible refine LeO.ite ?_ ?_)
   | (with_reducible refine LeO.bind ?_ (fun _ => ?_))
set_option maxHeartbeats 8000000 in
set_option maxRecDepth 100000 in
theorem cellarlaw9_Heavy.calls (k : Nat) (A0_0 : Option Addr) (c0_0 : Nat) (l0_0 : List (List (S76))) (A0_1 : Option Addr) (c0_1 : Nat) (l0_1 : List (S62)) (A0_2 : Option Addr) (c0_2 : Nat) (l0_2 : List Int) (A0_3 : Option Addr) (c0_3 : Nat) (l0_3 : List (S29)) (r : Bool) (w : World) (hr0_0 : Kd.C (Kd.slice 76 k76) w A0_0 l0_0.length l0_0) (hc0_0 : l0_0.length ≤ c0_0) (hr0_1 : Kd.C k62 w A0_1 l0_1.length l0_1) (hc0_1 : l0_1.length ≤ c0_1) (hr0_2 : Kd.C (Kd.int .i64) w A0_2 l0_2.length l0_2) (hc0_2 : l0_2.length ≤ c0_2) (hr0_3 : Kd.C k29 w A0_3 l0_3.length l0_3) (hc0_3 : l0_3.length ≤ c0_3) (h : cellarlaw9_Heavy.f k l0_0 l0_1 l0_2 l0_3 = some r) :
  Calls Try.prog 25 #[.agg #[.slice A0_0 l0_0.length c0_0, .slice A0_1 l0_1.length c0_1, .slice A0_2 l0_2.length c0_2, .slice A0_3 l0_3.length c0_3]] w fun e w' => e = .returned (.bool r) ∧ Below w.heap.size w w' := by
 have hu54 := Try.underlying54
 have HR0_0 := Aside0.mk hr0_0
 have HC0_0 := Aside0.mk hc0_0
 clear hr0_0 hc0_0
 have HR0_1 := Aside0.mk hr0_1
 have HC0_1 := Aside0.mk hc0_1
 clear hr0_1 hc0_1
 have HR0_2 := Aside0.mk hr0_2
 have HC0_2 := Aside0.mk hc0_2
 clear hr0_2 hc0_2
 have HR0_3 := Aside0.mk hr0_3
 have HC0_3 := Aside0.mk hc0_3
 clear hr0_3 hc0_3
 have HB := Aside0.mk (Below.refl w.heap.size w)
 have H : (cellarlaw9_Heavy.l0 k (wrap64 ((wrap64 ((l0_1.length : Int) + (l0_2.length : Int))) + (l0_3.length : Int))) 0 l0_0 l0_1 l0_2 l0_3) = some r := h
 clear h
 have H' := Aside0.mk H
 clear H
 go_enter Try.func25, Try.ntmps25
 go_wp2_with (first | ((with_reducible refine gate_dst (N := 1) rfl ?_); refine zbox (N := 1) (cs := #[.slice A0_0 l0_0.length c0_0, .slice A0_1 l0_1.length c0_1, .slice A0_2 l0_2.length c0_2, .slice A0_3 l0_3.length c0_3]) (t := 54) ?_; intro gb102 hg w2 hbox hb; have n0_ := Aside0.mk (below_step (zw0 HB.out) hb); have BK102 := Aside0.mk (hbox); have GW102 := Aside0.mk (zg hg (below_size (zw0 HB.out))); have GE102 := GW102; clear HB; have HB := n0_; clear n0_; clear hb hbox hg; have hcz3_0 := zc BK102.out 0; have hcz3_1 := zc BK102.out 1; have hcz3_2 := zc BK102.out 2; have hcz3_3 := zc BK102.out 3; have hfz3_0 := blk_frozen BK102.out 0; have hfz3_1 := blk_frozen BK102.out 1; have hfz3_2 := blk_frozen BK102.out 2; have hfz3_3 := blk_frozen BK102.out 3))
 go_loopg [3, 4] k (fun kq v3 v4 w' => ∃ (x3_1 : Int) (x4_1 : Int), v3 = .int .i64 x3_1 ∧ v4 = .int .i64 x4_1 ∧ Aside0 (cellarlaw9_Heavy.l0 kq x3_1 x4_1 l0_0 l0_1 l0_2 l0_3 = some r) ∧ Aside0 (kq ≤ k) ∧ Aside0 (w'.heap[gb102]? = some (.cells #[(.slice A0_0 l0_0.length c0_0), (.slice A0_1 l0_1.length c0_1), (.slice A0_2 l0_2.length c0_2), (.slice A0_3 l0_3.length c0_3)] 54 (0, 0))) ∧ Aside0 (Below w.heap.size w w'))
 case atStart => exact ⟨(wrap64 ((wrap64 ((l0_1.length : Int) + (l0_2.length : Int))) + (l0_3.length : Int))), (0), (zr), (zr), H', ⟨Nat.le_refl _⟩, ⟨zb BK102.out⟩, ⟨zw1 HB.out GE102.out⟩⟩
 case round =>
  clear H'
  try clear c2; try clear p2
  obtain ⟨x3_1, x4_1, rfl, rfl, HA, HK1, BK102, HB⟩ := hrel
  cases gk with
  | zero => exact absurd HA.out (by simp [cellarlaw9_Heavy.l0])
  | succ k1 =>
   have H := HA.out
   clear HA
   simp only [cellarlaw9_Heavy.l0] at H
   by_cases c4 : x4_1 < (l0_0.length : Int)
   ·rw [if_pos c4] at H
    have c4b0 : decide (x4_1 < (l0_0.length : Int)) = true := decide_eq_true c4
    clear c4
    by_cases c5 : x3_1 < 1048576
    rotate_left
    ·rw [if_neg c5] at H
     have c5b0 : decide (x3_1 < 1048576) = false := decide_eq_false c5
     clear c5
     obtain rfl := Option.some.inj H
     have hcz9_0 := zc BK102.out 0
     have hcz9_1 := zc BK102.out 1
     have hcz9_2 := zc BK102.out 2
     have hcz9_3 := zc BK102.out 3
     have hfz9_0 := blk_frozen BK102.out 0
     have hfz9_1 := blk_frozen BK102.out 1
     have hfz9_2 := blk_frozen BK102.out 2
     have hfz9_3 := blk_frozen BK102.out 3
     go_wp2
     go_ret
     exact ⟨ze, zw1 HB.out GE102.out⟩
    rw [if_pos c5] at H
    have c5b0 : decide (x3_1 < 1048576) = true := decide_eq_true c5
    clear c5
    by_cases c6 : 0 ≤ x4_1
    rotate_left
    ·rw [if_neg c6] at H
     exact absurd H (by simp)
    rw [if_pos c6] at H
    have c6b0 : decide (0 ≤ x4_1) = true := decide_eq_true c6
    clear c6
    replace H := Option.bind_eq_some_iff.mp H
    obtain ⟨t104, A70, H⟩ := H
    replace H : (cellarlaw9_Heavy.l0 k1 (wrap64 (x3_1 + t104)) (wrap64 (x4_1 + 1)) l0_0 l0_1 l0_2 l0_3) = some r := H
    have A7 := Aside0.mk A70
    clear A70
    have H' := Aside0.mk H
    clear H
    have hcz8_0 := zc BK102.out 0
    have hcz8_1 := zc BK102.out 1
    have hcz8_2 := zc BK102.out 2
    have hcz8_3 := zc BK102.out 3
    have hfz8_0 := blk_frozen BK102.out 0
    have hfz8_1 := blk_frozen BK102.out 1
    have hfz8_2 := blk_frozen BK102.out 2
    have hfz8_3 := blk_frozen BK102.out 3
    have p103 : 0 ≤ (x4_1 : Int) := zdec
    have q103 : x4_1 < (l0_0.length : Int) := zdec
    obtain ⟨ad103, A103_0, c103_0, e103, hx103_0, hl103_0, hi103_0⟩ := at_L4 HR0_0.out x4_1 p103 q103
    cases e103
    replace hx103_0 := zh HB.out hx103_0
    have HR103_0 := Aside0.mk hi103_0
    have HC103_0 := Aside0.mk hl103_0
    clear hi103_0 hl103_0
    replace p103 := eq_true p103
    replace q103 := eq_true q103
    go_wp2_with (first | ((with_reducible refine gate_callee (f := 62) rfl ?_); refine zgo (some 33) Try.func62 #[.slice A103_0 (rd_L4 l0_0 x4_1).length c103_0] ?_; (with_reducible refine (cellarlaw0_BlocksWeight.calls k1 _ _ (rd_L4 l0_0 x4_1) t104 _ ?side1 ?side2 A7.out).mono ?_); (case side1 => repeat (first | exact (Kd.C_below HR103_0.out HB.out) | (with_reducible refine Kd.C_alloc ?_ _) | (with_reducible refine Kd.C_drewN ?_ _) | (with_reducible refine Kd.C_drew ?_))); (case side2 => exact HC103_0.out); rintro e w' ⟨rfl, ⟨nd, rfl⟩⟩; refine ⟨_, rfl, ?_⟩))
    go_roundg k1
    case measure => have := HK1.out; omega
    case rel => exact ⟨(wrap64 (x3_1 + t104)), (wrap64 (x4_1 + 1)), (zr), (zr), H', ⟨by have := HK1.out; omega⟩, ⟨zb BK102.out⟩, ⟨zw1 HB.out GE102.out⟩⟩
   ·rw [if_neg c4] at H
    have c4b0 : decide (x4_1 < (l0_0.length : Int)) = false := decide_eq_false c4
    clear c4
    obtain rfl := Option.some.inj H
    have hcz10_0 := zc BK102.out 0
    have hcz10_1 := zc BK102.out 1
    have hcz10_2 := zc BK102.out 2
    have hcz10_3 := zc BK102.out 3
    have hfz10_0 := blk_frozen BK102.out 0
    have hfz10_1 := blk_frozen BK102.out 1
    have hfz10_2 := blk_frozen BK102.out 2
    have hfz10_3 := blk_frozen BK102.out 3
    go_wp2
    go_ret
    exact ⟨ze, zw1 HB.out GE102.out⟩

/-! cellarref0_CopyBytes -/
def cellarref0_CopyBytes.l0 : Nat → List (S74) → List (S74) → Int → Option ((List (S74)))
 | 0, _, _, _ => none
 | k + 1, x0, x3, x4 => if x4 < (x0.length : Int) then (if 0 ≤ x4 then (if x3.length < 3518437208883 then (cellarref0_CopyBytes.l0 k x0 (x3 ++ [(⟨(rd_T74 x0 x4).f0, (rd_T74 x0 x4).f1, (rd_T74 x0 x4).f2, (rd_T74 x0 x4).f3, (rd_T74 x0 x4).f4⟩ : S74)]) (wrap64 (x4 + 1))) else (none)) else (none)) else (some x3)
def cellarref0_CopyBytes.f (k : Nat) (l0 : List (S74)) : Option ((List (S74))) := cellarref0_CopyBytes.l0 k l0 ([] : List (S74)) 0
theorem cellarref0_CopyBytes.mono_l : ∀ k, (∀ y0 y1 y2, LeO (cellarref0_CopyBytes.l0 k y0 y1 y2) (cellarref0_CopyBytes.l0 (k + 1) y0 y1 y2))
 | 0 => fun _ _ _ r h => by simp [cellarref0_CopyBytes.l0] at h
 | k + 1 => by
  have ih0 := cellarref0_CopyBytes.mono_l k
  ·intro y0 y1 y2
   unfold cellarref0_CopyBytes.l0
   repeat' first
   | (with_reducible apply ih0)
   | (with_reducible apply LeO.refl)
   | (with_reducible apply LeO.none)
   | (with_reducible refine LeO.ite ?_ ?_)
   | (with_reducible refine LeO.bind ?_ (fun _ => ?_))
theorem cellarref0_CopyBytes.mono : ∀ a0 k, LeO (cellarref0_CopyBytes.f k a0) (cellarref0_CopyBytes.f (k + 1) a0) := by
 intro a0 k
 have ih0 := cellarref0_CopyBytes.mono_l k
 unfold cellarref0_CopyBytes.f
 repeat' first
   | (with_reducible apply ih0)
   | (with_reducible apply LeO.refl)
   | (with_reducible apply LeO.none)
   | (with_reducible refine LeO.ite ?_ ?_)
   | (with_reducible refine LeO.bind ?_ (fun _ => ?_))
set_option maxHeartbeats 8000000 in
set_option maxRecDepth 100000 in
theorem cellarref0_CopyBytes.calls (k : Nat) (A0 : Option Addr) (c0 : Nat) (l0 : List (S74)) (r : List (S74)) (w : World) (hr0 : Kd.C k74 w A0 l0.length l0) (hc0 : l0.length ≤ c0) (h : cellarref0_CopyBytes.f k l0 = some r) :
  Calls Try.prog 95 #[.slice A0 l0.length c0] w fun e w' => ∃ v0_ : Value, e = .returned (v0_) ∧ Kd.R k74 74 w' w.heap.size (fun _ => True) v0_ r ∧ Below w.heap.size w w' := by
 have hu74 := Try.underlying74
 have HR0 := Aside0.mk hr0
 have HC0 := Aside0.mk hc0
 clear hr0 hc0
 have HB := Aside0.mk (Below.refl w.heap.size w)
 have H : (cellarref0_CopyBytes.l0 k l0 ([] : List (S74)) 0) = some r := h
 clear h
 have H' := Aside0.mk H
 clear H
 go_enter Try.func95, Try.ntmps95
 go_wp2
 go_loopg [3, 4] k (fun kq v3 v4 w' => ∃ (x3_1 : List (S74)) (x4_1 : Int), v4 = .int .i64 x4_1 ∧ Aside0 (cellarref0_CopyBytes.l0 kq l0 x3_1 x4_1 = some r) ∧ Aside0 (kq ≤ k) ∧ Aside0 (Kd.R k74 74 w' w.heap.size (fun _ => True) v3 x3_1) ∧ Aside0 (Below w.heap.size w w'))
 case atStart => exact ⟨(([] : List (S74))), (0), (zr), H', ⟨Nat.le_refl _⟩, ⟨by first | exact Kd.R_nil _ _ _ _ _ | exact Kd.N_nil _ _ _ _ _ | exact Kd.V_nil _ _ _ _ _ | exact Kd.Q_nil _ _ _ _ _ | exact Kd.S_nil _ _ _ _ _⟩, ⟨zw0 HB.out⟩⟩
 case round =>
  clear H'
  obtain ⟨x3_1, x4_1, rfl, HA, HK1, HO_3, HB⟩ := hrel
  cases gk with
  | zero => exact absurd HA.out (by simp [cellarref0_CopyBytes.l0])
  | succ k1 =>
   have H := HA.out
   clear HA
   simp only [cellarref0_CopyBytes.l0] at H
   by_cases c2 : x4_1 < (l0.length : Int)
   ·rw [if_pos c2] at H
    have c2b0 : decide (x4_1 < (l0.length : Int)) = true := decide_eq_true c2
    clear c2
    by_cases c3 : 0 ≤ x4_1
    rotate_left
    ·rw [if_neg c3] at H
     exact absurd H (by simp)
    rw [if_pos c3] at H
    have c3b0 : decide (0 ≤ x4_1) = true := decide_eq_true c3
    clear c3
    by_cases c4 : x3_1.length < 3518437208883
    rotate_left
    ·rw [if_neg c4] at H
     exact absurd H (by simp)
    rw [if_pos c4] at H
    have LMc4 := Aside0.mk c4
    clear c4
    obtain ⟨y106, hy106⟩ : ∃ y_ : List (S74), y_ = (x3_1 ++ [(⟨(rd_T74 l0 x4_1).f0, (rd_T74 l0 x4_1).f1, (rd_T74 l0 x4_1).f2, (rd_T74 l0 x4_1).f3, (rd_T74 l0 x4_1).f4⟩ : S74)]) := ⟨_, rfl⟩
    replace H : (cellarref0_CopyBytes.l0 k1 l0 y106 (wrap64 (x4_1 + 1))) = some r := by first | (rw [hy106]; with_reducible exact H) | (have H2_ := (Option.bind_some _ _).symm.trans H; rw [hy106]; with_reducible exact H2_) | (have H2_ := (Option.bind_some _ _).symm.trans H; with_reducible exact H2_) | with_reducible exact H | (rw [hy106]; exact H) | exact H
    have Ny106 := Aside0.mk hy106
    clear hy106
    have H' := Aside0.mk H
    clear H
    have p105 : 0 ≤ (x4_1 : Int) := zdec
    have q105 : x4_1 < (l0.length : Int) := zdec
    obtain ⟨ad105, e105, hx105_0, hx105_1, hx105_2, hx105_3, hx105_4⟩ := at_T74 HR0.out x4_1 p105 q105
    cases e105
    replace hx105_0 := zh HB.out hx105_0
    replace hx105_1 := zh HB.out hx105_1
    replace hx105_2 := zh HB.out hx105_2
    replace hx105_3 := zh HB.out hx105_3
    replace hx105_4 := zh HB.out hx105_4
    replace p105 := eq_true p105
    replace q105 := eq_true q105
    go_wp2_with (first | ((with_reducible refine gate_builtin (b := .append) (xs := #[.tmp 11, .tmp 16]) rfl ?_); at_builtin; refine Kd.R_append k74 (w0 := w) w.heap.size rfl (.tmp 11) (.tmp 16) 72 74 (.agg #[(.int .i64 0), (.int .i64 0), (.int .i64 0), (.int .i64 0), (.int .i64 0)]) 40 rfl Try.underlying72 info74 rfl (by decide) (by omega) u3 x3_1 (⟨(rd_T74 l0 x4_1).f0, (rd_T74 l0 x4_1).f1, (rd_T74 l0 x4_1).f2, (rd_T74 l0 x4_1).f3, (rd_T74 l0 x4_1).f4⟩ : S74) [.int .i64 ((rd_T74 l0 x4_1).f0), .int .i64 ((rd_T74 l0 x4_1).f1), .int .i64 ((rd_T74 l0 x4_1).f2), .int .i64 ((rd_T74 l0 x4_1).f3), .int .i64 ((rd_T74 l0 x4_1).f4)] (fun _ => True) (fun _ => False) rfl rfl ?aP (fun _ hk => hk.elim) ?aF ?aO ?aB ?aS ?aL ?_; (case aP => exact k74_mkM _ _ _ (⟨(rd_T74 l0 x4_1).f0, (rd_T74 l0 x4_1).f1, (rd_T74 l0 x4_1).f2, (rd_T74 l0 x4_1).f3, (rd_T74 l0 x4_1).f4⟩ : S74)); (case aB => exact (zw0 HB.out)); (case aF => exact (fun _ _ => trivial)); (case aO => exact (by (with_reducible repeat (first | apply Kd.R_alloc | apply Kd.R_drewN | apply Kd.R_drew)); exact HO_3.out)); (case aS => exact (below_size (zw0 HB.out))); (case aL => have := LMc4.out; omega); intro v107 w5 ho hb hg hat; rw [← Ny106.out] at ho; have n0_ := Aside0.mk (hb); have HO108 := Aside0.mk (ho); clear HB HO_3; have HB := n0_; clear n0_; clear ho hb hg hat))
    go_roundg k1
    case measure => have := HK1.out; omega
    case rel => exact ⟨(y106), (wrap64 (x4_1 + 1)), (zr), H', ⟨by have := HK1.out; omega⟩, ⟨by (with_reducible repeat (first | apply Kd.R_alloc | apply Kd.R_drewN | apply Kd.R_drew)); exact HO108.out⟩, ⟨zw0 HB.out⟩⟩
   ·rw [if_neg c2] at H
    have c2b0 : decide (x4_1 < (l0.length : Int)) = false := decide_eq_false c2
    clear c2
    obtain rfl := Option.some.inj H
    go_wp2
    go_ret
    exact ⟨_, ze, by (with_reducible repeat (first | apply Kd.R_alloc | apply Kd.R_drewN | apply Kd.R_drew)); exact HO_3.out, zw0 HB.out⟩

/-! cellarref0_CopyBlock -/
def cellarref0_CopyBlock.f (k : Nat) (a0_0 : Int) (l0_1 : List (S74)) : Option (Int × (List (S74))) := (cellarref0_CopyBytes.f k l0_1).bind fun t112 => (some (a0_0, t112))
theorem cellarref0_CopyBlock.mono : ∀ a0 a1 k, LeO (cellarref0_CopyBlock.f k a0 a1) (cellarref0_CopyBlock.f (k + 1) a0 a1) := by
 intro a0 a1 k
 unfold cellarref0_CopyBlock.f
 repeat' first
   | (with_reducible apply cellarref0_CopyBytes.mono)
   | (with_reducible apply LeO.refl)
   | (with_reducible apply LeO.none)
   | (with_reducible refine LeO.ite ?_ ?_)
   | (with_reducible refine LeO.bind ?_ (fun _ => ?_))
set_option maxHeartbeats 8000000 in
set_option maxRecDepth 100000 in
theorem cellarref0_CopyBlock.calls (k : Nat) (a0_0 : Int) (A0_1 : Option Addr) (c0_1 : Nat) (l0_1 : List (S74)) (r1 : Int) (r2 : List (S74)) (w : World) (hr0_1 : Kd.C k74 w A0_1 l0_1.length l0_1) (hc0_1 : l0_1.length ≤ c0_1) (h : cellarref0_CopyBlock.f k a0_0 l0_1 = some (r1, r2)) :
  Calls Try.prog 63 #[.agg #[.int .i64 a0_0, .slice A0_1 l0_1.length c0_1]] w fun e w' => ∃ v1_ : Value, e = .returned (.agg #[.int .i64 r1, v1_]) ∧ Kd.R k74 74 w' w.heap.size (fun _ => True) v1_ r2 ∧ Below w.heap.size w w' := by
 have hu76 := Try.underlying76
 have HR0_1 := Aside0.mk hr0_1
 have HC0_1 := Aside0.mk hc0_1
 clear hr0_1 hc0_1
 have HB := Aside0.mk (Below.refl w.heap.size w)
 have H : ((cellarref0_CopyBytes.f k l0_1).bind fun t112 => (some (a0_0, t112))) = some (r1, r2) := h
 clear h
 replace H := Option.bind_eq_some_iff.mp H
 obtain ⟨t112, A20, H⟩ := H
 replace H : (some (a0_0, t112)) = some (r1, r2) := H
 have A2 := Aside0.mk A20
 clear A20
 simp only [Option.some.injEq, Prod.mk.injEq] at H
 obtain ⟨rfl, rfl⟩ := H
 go_enter Try.func63, Try.ntmps63
 go_wp2_with (first | ((with_reducible refine gate_dst (N := 1) rfl ?_); refine zbox (N := 1) (cs := #[.int .i64 a0_0, .slice A0_1 l0_1.length c0_1]) (t := 76) ?_; intro gb109 hg w3 hbox hb; have n0_ := Aside0.mk (below_step (zw0 HB.out) hb); have BK109 := Aside0.mk (hbox); have GW109 := Aside0.mk (zg hg (below_size (zw0 HB.out))); have GE109 := GW109; clear HB; have HB := n0_; clear n0_; clear hb hbox hg) | ((with_reducible refine gate_dst (N := 2) rfl ?_); refine zbox (N := 2) (cs := #[.int .i64 0, .slice none 0 0]) (t := 76) ?_; intro gb110 hg w4 hbox hb; have n0_ := Aside0.mk (zbb BK109.out hb); have n1_ := Aside0.mk (below_step (zw1 HB.out GE109.out) hb); have BK110 := Aside0.mk (hbox); have GW110 := Aside0.mk (zg hg (below_size (zw1 HB.out GE109.out))); have GE110 := GW110; have NB109_110 := Aside0.mk (zlt hg BK109.out); have NB110_109 := Aside0.mk (zgt hg BK109.out); clear BK109 HB; have BK109 := n0_; have HB := n1_; clear n0_ n1_; clear hb hbox hg; have hnb5 := NB109_110.out; have hnc5 := NB110_109.out; have hcz6_0 := zc BK109.out 0; have hcz6_1 := zc BK109.out 1; have hfz6_0 := blk_frozen BK109.out 0; have hfz6_1 := blk_frozen BK109.out 1) | ((with_reducible refine gate_dst (N := 3) rfl ?_); refine zbox (N := 3) (cs := #[.int .i64 0, .slice none 0 0]) (t := 76) ?_; intro gb111 hg w7 hbox hb; have n0_ := Aside0.mk (zbb BK109.out hb); have n1_ := Aside0.mk (zbb BK110.out hb); have n2_ := Aside0.mk (below_step (zw2 HB.out GE109.out GE110.out) hb); have BK111 := Aside0.mk (hbox); have GW111 := Aside0.mk (zg hg (below_size (zw2 HB.out GE109.out GE110.out))); have GE111 := GW111; have NB109_111 := Aside0.mk (zlt hg BK109.out); have NB111_109 := Aside0.mk (zgt hg BK109.out); have NB110_111 := Aside0.mk (zlt hg BK110.out); have NB111_110 := Aside0.mk (zgt hg BK110.out); clear BK109 BK110 HB; have BK109 := n0_; have BK110 := n1_; have HB := n2_; clear n0_ n1_ n2_; clear hb hbox hg; have hnb8 := NB111_109.out; have hnc8 := NB109_111.out; have hnb9 := NB111_110.out; have hnc9 := NB110_111.out; have hcz10_0 := zc BK111.out 0; have hcz10_1 := zc BK111.out 1; have hfz10_0 := blk_frozen BK111.out 0; have hfz10_1 := blk_frozen BK111.out 1; have hcz11_0 := zc BK109.out 0; have hcz11_1 := zc BK109.out 1; have hfz11_0 := blk_frozen BK109.out 0; have hfz11_1 := blk_frozen BK109.out 1) | ((with_reducible refine gate_callee (f := 95) rfl ?_); refine zgo (some 7) Try.func95 #[.slice A0_1 l0_1.length c0_1] ?_; (with_reducible refine (cellarref0_CopyBytes.calls k _ _ l0_1 t112 _ ?side1 ?side2 A2.out).mono ?_); (case side1 => exact Kd.C_below HR0_1.out (zw3 HB.out GE109.out GE110.out GE111.out)); (case side2 => exact HC0_1.out); rintro e w12 ⟨v113, rfl, ho0, hb⟩; refine ⟨_, rfl, ?_⟩; have HO114 := Aside0.mk (Kd.R_lower ho0 (below_size (zw3 HB.out GE109.out GE110.out GE111.out))); have n1_ := Aside0.mk (blk_below (g := gb109) (o := .cells #[.int .i64 a0_0, .slice A0_1 l0_1.length c0_1] 76 (0, 0)) (zf1 BK109.out NB109_111.out) hb); have n2_ := Aside0.mk (blk_below (g := gb110) (o := .cells #[.int .i64 0, .slice none 0 0] 76 (0, 0)) (zf1 BK110.out NB110_111.out) hb); have n3_ := Aside0.mk (blk_below (g := gb111) (o := .cells #[.int .i64 a0_0, .slice A0_1 l0_1.length c0_1] 76 (0, 0)) (by (with_reducible repeat (first | refine blk_drewN ?_ _ | refine blk_drew ?_ | refine blk_alloc ?_ _)); refine blk_put (cs := #[.int .i64 a0_0, .slice none 0 0]) ?_ 1 _ rfl; (with_reducible repeat (first | refine blk_drewN ?_ _ | refine blk_drew ?_ | refine blk_alloc ?_ _)); refine blk_put (cs := #[.int .i64 0, .slice none 0 0]) ?_ 0 _ rfl; (with_reducible repeat (first | refine blk_drewN ?_ _ | refine blk_drew ?_ | refine blk_alloc ?_ _)); exact BK111.out) hb); have n4_ := Aside0.mk (below_step (zw3 HB.out GE109.out GE110.out GE111.out) hb); clear BK109 BK110 BK111 HB; have BK109 := n1_; have BK110 := n2_; have BK111 := n3_; have HB := n4_; clear n1_ n2_ n3_ n4_; (try clear hb); (try clear hb2); (try clear hk); (try clear hi); (try clear ho0); obtain ⟨Ao13, co13, eo13⟩ := Kd.R_slice HO114.out; subst eo13; have hcz14_0 := zc BK111.out 0; have hcz14_1 := zc BK111.out 1; have hfz14_0 := blk_frozen BK111.out 0; have hfz14_1 := blk_frozen BK111.out 1; have hcz15_0 := zc BK110.out 0; have hcz15_1 := zc BK110.out 1; have hfz15_0 := blk_frozen BK110.out 0; have hfz15_1 := blk_frozen BK110.out 1))
 refine bodyPost_ret (results_cell_row rfl _ _ gb110 76 #[.int .i64 a0_0, .slice Ao13 t112.length co13] (0, 0) _ rfl (by (with_reducible repeat (first | refine blk_drewN ?_ _ | refine blk_drew ?_ | refine blk_alloc ?_ _)); refine blk_put (cs := #[.int .i64 a0_0, .slice none 0 0]) ?_ 1 _ rfl; (with_reducible repeat (first | refine blk_drewN ?_ _ | refine blk_drew ?_ | refine blk_alloc ?_ _)); refine blk_put (cs := #[.int .i64 0, .slice none 0 0]) ?_ 0 _ rfl; (with_reducible repeat (first | refine blk_drewN ?_ _ | refine blk_drew ?_ | refine blk_alloc ?_ _)); refine blk_far ?_ NB110_111.out _; (with_reducible repeat (first | refine blk_drewN ?_ _ | refine blk_drew ?_ | refine blk_alloc ?_ _)); exact BK110.out) Try.underlying76 rfl (by kernel_rfl)) rfl ?_
 exact ⟨_, ze, by (with_reducible repeat (first | apply Kd.R_alloc | apply Kd.R_drewN | apply Kd.R_drew)); exact Kd.R_mono (Kd.R_far (p := ⟨gb110, 1, none⟩) (Kd.R_far (p := ⟨gb110, 0, none⟩) (Kd.R_far (p := ⟨gb111, 1, none⟩) (Kd.R_types (Kd.R_types HO114.out BK111.out (by decide)) BK110.out (by decide)) (fun _ hk => hk.1.2) (.slice Ao13 t112.length co13)) (fun _ hk => hk.2) (.int .i64 a0_0)) (fun _ hk => hk.2) (.slice Ao13 t112.length co13)) (fun _ hk => trivial), zw3 HB.out GE109.out GE110.out GE111.out⟩

/-! cellarref0_CopyBlocks -/
def cellarref0_CopyBlocks.l0 : Nat → List (S76) → List (S76) → Int → Option ((List (S76)))
 | 0, _, _, _ => none
 | k + 1, x0, x3, x4 => if x4 < (x0.length : Int) then (if 0 ≤ x4 then ((cellarref0_CopyBlock.f k ((rd_T76 x0 x4).f0) ((rd_T76 x0 x4).f1)).bind fun bt116 => (if x3.length < 4398046511104 then (cellarref0_CopyBlocks.l0 k x0 (x3 ++ [(⟨bt116.1, bt116.2⟩ : S76)]) (wrap64 (x4 + 1))) else (none))) else (none)) else (some x3)
def cellarref0_CopyBlocks.f (k : Nat) (l0 : List (S76)) : Option ((List (S76))) := cellarref0_CopyBlocks.l0 k l0 ([] : List (S76)) 0
theorem cellarref0_CopyBlocks.mono_l : ∀ k, (∀ y0 y1 y2, LeO (cellarref0_CopyBlocks.l0 k y0 y1 y2) (cellarref0_CopyBlocks.l0 (k + 1) y0 y1 y2))
 | 0 => fun _ _ _ r h => by simp [cellarref0_CopyBlocks.l0] at h
 | k + 1 => by
  have ih0 := cellarref0_CopyBlocks.mono_l k
  ·intro y0 y1 y2
   unfold cellarref0_CopyBlocks.l0
   repeat' first
   | (with_reducible apply ih0)
   | (with_reducible apply cellarref0_CopyBlock.mono)
   | (with_reducible apply LeO.refl)
   | (with_reducible apply LeO.none)
   | (with_reducible refine LeO.ite ?_ ?_)
   | (with_reducible refine LeO.bind ?_ (fun _ => ?_))
theorem cellarref0_CopyBlocks.mono : ∀ a0 k, LeO (cellarref0_CopyBlocks.f k a0) (cellarref0_CopyBlocks.f (k + 1) a0) := by
 intro a0 k
 have ih0 := cellarref0_CopyBlocks.mono_l k
 unfold cellarref0_CopyBlocks.f
 repeat' first
   | (with_reducible apply ih0)
   | (with_reducible apply cellarref0_CopyBlock.mono)
   | (with_reducible apply LeO.refl)
   | (with_reducible apply LeO.none)
   | (with_reducible refine LeO.ite ?_ ?_)
   | (with_reducible refine LeO.bind ?_ (fun _ => ?_))
set_option maxHeartbeats 8000000 in
set_option maxRecDepth 100000 in
theorem cellarref0_CopyBlocks.calls (k : Nat) (A0 : Option Addr) (c0 : Nat) (l0 : List (S76)) (r : List (S76)) (w : World) (hr0 : Kd.C k76 w A0 l0.length l0) (hc0 : l0.length ≤ c0) (h : cellarref0_CopyBlocks.f k l0 = some r) :
  Calls Try.prog 27 #[.slice A0 l0.length c0] w fun e w' => ∃ v0_ : Value, e = .returned (v0_) ∧ Kd.S k76 76 w' w.heap.size (fun _ => True) v0_ r ∧ Below w.heap.size w w' := by
 have hu76 := Try.underlying76
 have HR0 := Aside0.mk hr0
 have HC0 := Aside0.mk hc0
 clear hr0 hc0
 have HB := Aside0.mk (Below.refl w.heap.size w)
 have H : (cellarref0_CopyBlocks.l0 k l0 ([] : List (S76)) 0) = some r := h
 clear h
 have H' := Aside0.mk H
 clear H
 go_enter Try.func27, Try.ntmps27
 go_wp2
 go_loopg [3, 4] k (fun kq v3 v4 w' => ∃ (x3_1 : List (S76)) (x4_1 : Int), v4 = .int .i64 x4_1 ∧ Aside0 (cellarref0_CopyBlocks.l0 kq l0 x3_1 x4_1 = some r) ∧ Aside0 (kq ≤ k) ∧ Aside0 (Kd.S k76 76 w' w.heap.size (fun _ => True) v3 x3_1) ∧ Aside0 (Below w.heap.size w w'))
 case atStart => exact ⟨(([] : List (S76))), (0), (zr), H', ⟨Nat.le_refl _⟩, ⟨by first | exact Kd.S_nil _ _ _ _ _ | exact Kd.N_nil _ _ _ _ _ | exact Kd.V_nil _ _ _ _ _ | exact Kd.Q_nil _ _ _ _ _ | exact Kd.R_nil _ _ _ _ _⟩, ⟨zw0 HB.out⟩⟩
 case round =>
  clear H'
  obtain ⟨x3_1, x4_1, rfl, HA, HK1, HO_3, HB⟩ := hrel
  cases gk with
  | zero => exact absurd HA.out (by simp [cellarref0_CopyBlocks.l0])
  | succ k1 =>
   have H := HA.out
   clear HA
   simp only [cellarref0_CopyBlocks.l0] at H
   by_cases c2 : x4_1 < (l0.length : Int)
   ·rw [if_pos c2] at H
    have c2b0 : decide (x4_1 < (l0.length : Int)) = true := decide_eq_true c2
    clear c2
    by_cases c3 : 0 ≤ x4_1
    rotate_left
    ·rw [if_neg c3] at H
     exact absurd H (by simp)
    rw [if_pos c3] at H
    have c3b0 : decide (0 ≤ x4_1) = true := decide_eq_true c3
    clear c3
    replace H := Option.bind_eq_some_iff.mp H
    obtain ⟨⟨t116, t117⟩, A40, H⟩ := H
    replace H : (if x3_1.length < 4398046511104 then (cellarref0_CopyBlocks.l0 k1 l0 (x3_1 ++ [(⟨t116, t117⟩ : S76)]) (wrap64 (x4_1 + 1))) else (none)) = some r := H
    have A4 := Aside0.mk A40
    clear A40
    by_cases c5 : x3_1.length < 4398046511104
    rotate_left
    ·rw [if_neg c5] at H
     exact absurd H (by simp)
    rw [if_pos c5] at H
    have LMc5 := Aside0.mk c5
    clear c5
    obtain ⟨y120, hy120⟩ : ∃ y_ : List (S76), y_ = (x3_1 ++ [(⟨t116, t117⟩ : S76)]) := ⟨_, rfl⟩
    replace H : (cellarref0_CopyBlocks.l0 k1 l0 y120 (wrap64 (x4_1 + 1))) = some r := by first | (rw [hy120]; with_reducible exact H) | (have H2_ := (Option.bind_some _ _).symm.trans H; rw [hy120]; with_reducible exact H2_) | (have H2_ := (Option.bind_some _ _).symm.trans H; with_reducible exact H2_) | with_reducible exact H | (rw [hy120]; exact H) | exact H
    have Ny120 := Aside0.mk hy120
    clear hy120
    have H' := Aside0.mk H
    clear H
    have p115 : 0 ≤ (x4_1 : Int) := zdec
    have q115 : x4_1 < (l0.length : Int) := zdec
    obtain ⟨ad115, A115_1, c115_1, e115, hx115_0, hx115_1, hl115_1, hi115_1⟩ := at_T76 HR0.out x4_1 p115 q115
    cases e115
    replace hx115_0 := zh HB.out hx115_0
    replace hx115_1 := zh HB.out hx115_1
    have HR115_1 := Aside0.mk hi115_1
    have HC115_1 := Aside0.mk hl115_1
    clear hi115_1 hl115_1
    replace p115 := eq_true p115
    replace q115 := eq_true q115
    go_wp2_with (first | ((with_reducible refine gate_callee (f := 63) rfl ?_); refine zgo (some 16) Try.func63 #[.agg #[.int .i64 ((rd_T76 l0 x4_1).f0), .slice A115_1 ((rd_T76 l0 x4_1).f1).length c115_1]] ?_; (with_reducible refine (cellarref0_CopyBlock.calls k1 ((rd_T76 l0 x4_1).f0) _ _ ((rd_T76 l0 x4_1).f1) t116 t117 _ ?side1 ?side2 A4.out).mono ?_); (case side1 => repeat (first | exact (Kd.C_below HR115_1.out HB.out) | (with_reducible refine Kd.C_alloc ?_ _) | (with_reducible refine Kd.C_drewN ?_ _) | (with_reducible refine Kd.C_drew ?_))); (case side2 => exact HC115_1.out); rintro e w6 ⟨v118, rfl, ho0, hb⟩; refine ⟨_, rfl, ?_⟩; have n0_ := Aside0.mk (Kd.S_elder' (by (with_reducible repeat (first | apply Kd.S_alloc | apply Kd.S_drewN | apply Kd.S_drew)); exact HO_3.out) (Kd.R_base ho0) hb); have HO119 := Aside0.mk (Kd.R_lower ho0 (below_size (zw0 HB.out))); have n2_ := Aside0.mk (below_step (zw0 HB.out) hb); clear HO_3 HB; have HO_3 := n0_; have HB := n2_; clear n0_ n2_; (try clear hb); (try clear hb2); (try clear hk); (try clear hi); (try clear ho0); obtain ⟨Ao8, co8, eo8⟩ := Kd.R_slice HO119.out; subst eo8) | ((with_reducible refine gate_builtin (b := .append) (xs := #[.tmp 11, .tmp 17]) rfl ?_); at_builtin; refine Kd.S_append k76 (w0 := w) w.heap.size rfl (.tmp 11) (.tmp 17) 57 76 (.agg #[(.int .i64 0), (.slice none 0 0)]) 32 rfl Try.underlying57 info76 rfl (by decide) (by omega) u3 x3_1 (⟨t116, t117⟩ : S76) [.int .i64 t116, .slice Ao8 t117.length co8] (fun _ => True) (fun k_ => some k_ = (.slice Ao8 t117.length co8 : Value).ownBlock) rfl rfl ?aP (fun k_ hk_ => ((Kd.R_mono (ok' := fun k_ => ((fun _ => True)) k_ ∧ some k_ ≠ (u3 : Value).ownBlock) (Kd.R_apart' (HO119.out) (Kd.S_typed HO_3.out) (by decide)) (fun k_ hk => ⟨trivial, hk.2⟩))).1 k_ hk_.symm) ?aF ?aO ?aB ?aS ?aL ?_; (case aP => exact k76_mkM _ _ _ (⟨t116, t117⟩ : S76) (Kd.R_mono (Kd.R_tight rfl (Kd.R_mono (ok' := fun k_ => ((fun _ => True)) k_ ∧ some k_ ≠ (u3 : Value).ownBlock) (Kd.R_apart' (HO119.out) (Kd.S_typed HO_3.out) (by decide)) (fun k_ hk => ⟨trivial, hk.2⟩))) (fun _ h_ => h_))); (case aB => exact (zw0 HB.out)); (case aF => exact (fun _ _ => trivial)); (case aO => exact (by (with_reducible repeat (first | apply Kd.S_alloc | apply Kd.S_drewN | apply Kd.S_drew)); exact Kd.S_mono HO_3.out (fun k_ hk => ⟨trivial, fun e_ => hk.2 e_⟩))); (case aS => exact (below_size (zw0 HB.out))); (case aL => have := LMc5.out; omega); intro v121 w7 ho hb hg hat; rw [← Ny120.out] at ho; have n0_ := Aside0.mk (hb); have HO122 := Aside0.mk (ho); clear HB HO_3 HO119; have HB := n0_; clear n0_; clear ho hb hg hat))
    go_roundg k1
    case measure => have := HK1.out; omega
    case rel => exact ⟨(y120), (wrap64 (x4_1 + 1)), (zr), H', ⟨by have := HK1.out; omega⟩, ⟨by (with_reducible repeat (first | apply Kd.S_alloc | apply Kd.S_drewN | apply Kd.S_drew)); exact HO122.out⟩, ⟨zw0 HB.out⟩⟩
   ·rw [if_neg c2] at H
    have c2b0 : decide (x4_1 < (l0.length : Int)) = false := decide_eq_false c2
    clear c2
    obtain rfl := Option.some.inj H
    go_wp2
    go_ret
    exact ⟨_, ze, by (with_reducible repeat (first | apply Kd.S_alloc | apply Kd.S_drewN | apply Kd.S_drew)); exact HO_3.out, zw0 HB.out⟩

/-! cellarref0_Num -/
def cellarref0_Num.f (a0 : Int) (a1 : Int) : Option (Bool) := if a0 ≥ 0 then (some (decide (a0 ≤ a1))) else (some false)
set_option maxHeartbeats 8000000 in
set_option maxRecDepth 100000 in
theorem cellarref0_Num.calls (a0 : Int) (a1 : Int) (r : Bool) (w : World) (h : cellarref0_Num.f a0 a1 = some r) :
  Calls Try.prog 18 #[.int .i64 a0, .int .i64 a1] w fun e w' => e = .returned (.bool r) ∧ Drawn0 w w' := by
 have H : (if a0 ≥ 0 then (some (decide (a0 ≤ a1))) else (some false)) = some r := h
 clear h
 by_cases c3 : a0 ≥ 0
 ·rw [if_pos c3] at H
  have c3b0 : decide (0 ≤ a0) = true := decide_eq_true c3
  clear c3
  obtain rfl := Option.some.inj H
  go_enter Try.func18, Try.ntmps18
  go_wp2
  go_ret
  exact ⟨zr, by repeat (first | exact Drawn0.refl _ | apply Drawn0.step)⟩
 ·rw [if_neg c3] at H
  have c3b0 : decide (0 ≤ a0) = false := decide_eq_false c3
  clear c3
  obtain rfl := Option.some.inj H
  go_enter Try.func18, Try.ntmps18
  go_wp2
  go_ret
  exact ⟨zr, by repeat (first | exact Drawn0.refl _ | apply Drawn0.step)⟩

/-! cellarref0_Between -/
def cellarref0_Between.f (a0 : Int) (a1 : Int) (a2 : Int) : Option (Bool) := if a0 ≥ a1 then (some (decide (a0 ≤ a2))) else (some false)
set_option maxHeartbeats 8000000 in
set_option maxRecDepth 100000 in
theorem cellarref0_Between.calls (a0 : Int) (a1 : Int) (a2 : Int) (r : Bool) (w : World) (h : cellarref0_Between.f a0 a1 a2 = some r) :
  Calls Try.prog 64 #[.int .i64 a0, .int .i64 a1, .int .i64 a2] w fun e w' => e = .returned (.bool r) ∧ Drawn0 w w' := by
 have H : (if a0 ≥ a1 then (some (decide (a0 ≤ a2))) else (some false)) = some r := h
 clear h
 by_cases c4 : a0 ≥ a1
 ·rw [if_pos c4] at H
  have c4b0 : decide (a1 ≤ a0) = true := decide_eq_true c4
  clear c4
  obtain rfl := Option.some.inj H
  go_enter Try.func64, Try.ntmps64
  go_wp2
  go_ret
  exact ⟨zr, by repeat (first | exact Drawn0.refl _ | apply Drawn0.step)⟩
 ·rw [if_neg c4] at H
  have c4b0 : decide (a1 ≤ a0) = false := decide_eq_false c4
  clear c4
  obtain rfl := Option.some.inj H
  go_enter Try.func64, Try.ntmps64
  go_wp2
  go_ret
  exact ⟨zr, by repeat (first | exact Drawn0.refl _ | apply Drawn0.step)⟩

/-! cellarref7_Byte -/
def cellarref7_Byte.f (a0_0 : Int) (a0_1 : Int) (a0_2 : Int) (a0_3 : Int) (a0_4 : Int) : Option (Bool) := if a0_0 = 0 then (some (a0_0 == 0 && (a0_1 == 0 && (a0_2 == 0 && (a0_3 == 0 && (a0_4 == 0)))))) else (if a0_0 = 1 then ((cellarref0_Num.f a0_1 255).bind fun t124 => (if t124 = true then (if a0_2 = 0 then (if a0_3 = 0 then (some (a0_4 == 0)) else (some false)) else (some false)) else (some false))) else (if a0_0 = 2 then (if a0_1 = 0 then ((cellarref0_Between.f a0_2 1 32).bind fun t125 => (if t125 = true then ((cellarref0_Num.f a0_3 32).bind fun t126 => (if t126 = true then ((cellarref0_Num.f a0_4 3).bind fun t127 => (some t127)) else (some false))) else (some false))) else (some false)) else (some false)))
set_option maxHeartbeats 8000000 in
set_option maxRecDepth 100000 in
theorem cellarref7_Byte.calls (a0_0 : Int) (a0_1 : Int) (a0_2 : Int) (a0_3 : Int) (a0_4 : Int) (r : Bool) (w : World) (h : cellarref7_Byte.f a0_0 a0_1 a0_2 a0_3 a0_4 = some r) :
  Calls Try.prog 96 #[.agg #[.int .i64 a0_0, .int .i64 a0_1, .int .i64 a0_2, .int .i64 a0_3, .int .i64 a0_4]] w fun e w' => e = .returned (.bool r) ∧ Below w.heap.size w w' := by
 have hu74 := Try.underlying74
 have HB := Aside0.mk (Below.refl w.heap.size w)
 have H : (if a0_0 = 0 then (some (a0_0 == 0 && (a0_1 == 0 && (a0_2 == 0 && (a0_3 == 0 && (a0_4 == 0)))))) else (if a0_0 = 1 then ((cellarref0_Num.f a0_1 255).bind fun t124 => (if t124 = true then (if a0_2 = 0 then (if a0_3 = 0 then (some (a0_4 == 0)) else (some false)) else (some false)) else (some false))) else (if a0_0 = 2 then (if a0_1 = 0 then ((cellarref0_Between.f a0_2 1 32).bind fun t125 => (if t125 = true then ((cellarref0_Num.f a0_3 32).bind fun t126 => (if t126 = true then ((cellarref0_Num.f a0_4 3).bind fun t127 => (some t127)) else (some false))) else (some false))) else (some false)) else (some false)))) = some r := h
 clear h
 by_cases c2 : a0_0 = 0
 ·rw [if_pos c2] at H
  have c2b0 : (a0_0 == 0) = true := beq_iff_eq.mpr c2
  have c2b1 : (a0_0 != 0) = false := bne_eq_false_iff_eq.mpr c2
  clear c2
  obtain rfl := Option.some.inj H
  go_enter Try.func96, Try.ntmps96
  go_wp2_with (first | ((with_reducible refine gate_dst (N := 1) rfl ?_); refine zbox (N := 1) (cs := #[.int .i64 a0_0, .int .i64 a0_1, .int .i64 a0_2, .int .i64 a0_3, .int .i64 a0_4]) (t := 74) ?_; intro gb123 hg w3 hbox hb; have n0_ := Aside0.mk (below_step (zw0 HB.out) hb); have BK123 := Aside0.mk (hbox); have GW123 := Aside0.mk (zg hg (below_size (zw0 HB.out))); have GE123 := GW123; clear HB; have HB := n0_; clear n0_; clear hb hbox hg; have hcz4_0 := zc BK123.out 0; have hcz4_1 := zc BK123.out 1; have hcz4_2 := zc BK123.out 2; have hcz4_3 := zc BK123.out 3; have hcz4_4 := zc BK123.out 4; have hfz4_0 := blk_frozen BK123.out 0; have hfz4_1 := blk_frozen BK123.out 1; have hfz4_2 := blk_frozen BK123.out 2; have hfz4_3 := blk_frozen BK123.out 3; have hfz4_4 := blk_frozen BK123.out 4))
  go_ret
  exact ⟨ze, zw1 HB.out GE123.out⟩
 ·rw [if_neg c2] at H
  have c2b0 : (a0_0 == 0) = false := beq_eq_false_iff_ne.mpr c2
  have c2b1 : (a0_0 != 0) = true := bne_iff_ne.mpr c2
  by_cases c5 : a0_0 = 1
  ·rw [if_pos c5] at H
   have c5b0 : (a0_0 == 1) = true := beq_iff_eq.mpr c5
   have c5b1 : (a0_0 != 1) = false := bne_eq_false_iff_eq.mpr c5
   clear c5
   replace H := Option.bind_eq_some_iff.mp H
   obtain ⟨t124, A60, H⟩ := H
   replace H : (if t124 = true then (if a0_2 = 0 then (if a0_3 = 0 then (some (a0_4 == 0)) else (some false)) else (some false)) else (some false)) = some r := H
   have A6 := Aside0.mk A60
   clear A60
   by_cases c7 : t124 = true
   rotate_left
   ·replace c7 := Bool.eq_false_iff.mpr c7
    subst c7
    have H1 : (some false) = some r := by rw [if_neg (show ¬ (false = true) by decide)] at H; exact H
    clear H
    have H := H1
    clear H1
    obtain rfl := Option.some.inj H
    go_enter Try.func96, Try.ntmps96
    go_wp2_with (first | ((with_reducible refine gate_dst (N := 1) rfl ?_); refine zbox (N := 1) (cs := #[.int .i64 a0_0, .int .i64 a0_1, .int .i64 a0_2, .int .i64 a0_3, .int .i64 a0_4]) (t := 74) ?_; intro gb123 hg w16 hbox hb; have n0_ := Aside0.mk (below_step (zw0 HB.out) hb); have BK123 := Aside0.mk (hbox); have GW123 := Aside0.mk (zg hg (below_size (zw0 HB.out))); have GE123 := GW123; clear HB; have HB := n0_; clear n0_; clear hb hbox hg; have hcz17_0 := zc BK123.out 0; have hcz17_1 := zc BK123.out 1; have hcz17_2 := zc BK123.out 2; have hcz17_3 := zc BK123.out 3; have hcz17_4 := zc BK123.out 4; have hfz17_0 := blk_frozen BK123.out 0; have hfz17_1 := blk_frozen BK123.out 1; have hfz17_2 := blk_frozen BK123.out 2; have hfz17_3 := blk_frozen BK123.out 3; have hfz17_4 := blk_frozen BK123.out 4) | ((with_reducible refine gate_callee (f := 18) rfl ?_); refine zgo (some 14) Try.func18 #[.int .i64 a0_1, .int .i64 255] ?_; (with_reducible refine (cellarref0_Num.calls a0_1 255 false _ A6.out).mono ?_); rintro e w' ⟨rfl, ⟨nd, rfl⟩⟩; refine ⟨_, rfl, ?_⟩))
    go_ret
    exact ⟨ze, zw1 HB.out GE123.out⟩
   subst c7
   have H1 : (if a0_2 = 0 then (if a0_3 = 0 then (some (a0_4 == 0)) else (some false)) else (some false)) = some r := by rw [if_pos rfl] at H; exact H
   clear H
   have H := H1
   clear H1
   by_cases c8 : a0_2 = 0
   rotate_left
   ·rw [if_neg c8] at H
    have c8b0 : (a0_2 == 0) = false := beq_eq_false_iff_ne.mpr c8
    have c8b1 : (a0_2 != 0) = true := bne_iff_ne.mpr c8
    obtain rfl := Option.some.inj H
    go_enter Try.func96, Try.ntmps96
    go_wp2_with (first | ((with_reducible refine gate_dst (N := 1) rfl ?_); refine zbox (N := 1) (cs := #[.int .i64 a0_0, .int .i64 a0_1, .int .i64 a0_2, .int .i64 a0_3, .int .i64 a0_4]) (t := 74) ?_; intro gb123 hg w14 hbox hb; have n0_ := Aside0.mk (below_step (zw0 HB.out) hb); have BK123 := Aside0.mk (hbox); have GW123 := Aside0.mk (zg hg (below_size (zw0 HB.out))); have GE123 := GW123; clear HB; have HB := n0_; clear n0_; clear hb hbox hg; have hcz15_0 := zc BK123.out 0; have hcz15_1 := zc BK123.out 1; have hcz15_2 := zc BK123.out 2; have hcz15_3 := zc BK123.out 3; have hcz15_4 := zc BK123.out 4; have hfz15_0 := blk_frozen BK123.out 0; have hfz15_1 := blk_frozen BK123.out 1; have hfz15_2 := blk_frozen BK123.out 2; have hfz15_3 := blk_frozen BK123.out 3; have hfz15_4 := blk_frozen BK123.out 4) | ((with_reducible refine gate_callee (f := 18) rfl ?_); refine zgo (some 14) Try.func18 #[.int .i64 a0_1, .int .i64 255] ?_; (with_reducible refine (cellarref0_Num.calls a0_1 255 true _ A6.out).mono ?_); rintro e w' ⟨rfl, ⟨nd, rfl⟩⟩; refine ⟨_, rfl, ?_⟩))
    go_ret
    exact ⟨ze, zw1 HB.out GE123.out⟩
   rw [if_pos c8] at H
   have c8b0 : (a0_2 == 0) = true := beq_iff_eq.mpr c8
   have c8b1 : (a0_2 != 0) = false := bne_eq_false_iff_eq.mpr c8
   clear c8
   by_cases c9 : a0_3 = 0
   rotate_left
   ·rw [if_neg c9] at H
    have c9b0 : (a0_3 == 0) = false := beq_eq_false_iff_ne.mpr c9
    have c9b1 : (a0_3 != 0) = true := bne_iff_ne.mpr c9
    obtain rfl := Option.some.inj H
    go_enter Try.func96, Try.ntmps96
    go_wp2_with (first | ((with_reducible refine gate_dst (N := 1) rfl ?_); refine zbox (N := 1) (cs := #[.int .i64 a0_0, .int .i64 a0_1, .int .i64 a0_2, .int .i64 a0_3, .int .i64 a0_4]) (t := 74) ?_; intro gb123 hg w12 hbox hb; have n0_ := Aside0.mk (below_step (zw0 HB.out) hb); have BK123 := Aside0.mk (hbox); have GW123 := Aside0.mk (zg hg (below_size (zw0 HB.out))); have GE123 := GW123; clear HB; have HB := n0_; clear n0_; clear hb hbox hg; have hcz13_0 := zc BK123.out 0; have hcz13_1 := zc BK123.out 1; have hcz13_2 := zc BK123.out 2; have hcz13_3 := zc BK123.out 3; have hcz13_4 := zc BK123.out 4; have hfz13_0 := blk_frozen BK123.out 0; have hfz13_1 := blk_frozen BK123.out 1; have hfz13_2 := blk_frozen BK123.out 2; have hfz13_3 := blk_frozen BK123.out 3; have hfz13_4 := blk_frozen BK123.out 4) | ((with_reducible refine gate_callee (f := 18) rfl ?_); refine zgo (some 14) Try.func18 #[.int .i64 a0_1, .int .i64 255] ?_; (with_reducible refine (cellarref0_Num.calls a0_1 255 true _ A6.out).mono ?_); rintro e w' ⟨rfl, ⟨nd, rfl⟩⟩; refine ⟨_, rfl, ?_⟩))
    go_ret
    exact ⟨ze, zw1 HB.out GE123.out⟩
   rw [if_pos c9] at H
   have c9b0 : (a0_3 == 0) = true := beq_iff_eq.mpr c9
   have c9b1 : (a0_3 != 0) = false := bne_eq_false_iff_eq.mpr c9
   clear c9
   obtain rfl := Option.some.inj H
   go_enter Try.func96, Try.ntmps96
   go_wp2_with (first | ((with_reducible refine gate_dst (N := 1) rfl ?_); refine zbox (N := 1) (cs := #[.int .i64 a0_0, .int .i64 a0_1, .int .i64 a0_2, .int .i64 a0_3, .int .i64 a0_4]) (t := 74) ?_; intro gb123 hg w10 hbox hb; have n0_ := Aside0.mk (below_step (zw0 HB.out) hb); have BK123 := Aside0.mk (hbox); have GW123 := Aside0.mk (zg hg (below_size (zw0 HB.out))); have GE123 := GW123; clear HB; have HB := n0_; clear n0_; clear hb hbox hg; have hcz11_0 := zc BK123.out 0; have hcz11_1 := zc BK123.out 1; have hcz11_2 := zc BK123.out 2; have hcz11_3 := zc BK123.out 3; have hcz11_4 := zc BK123.out 4; have hfz11_0 := blk_frozen BK123.out 0; have hfz11_1 := blk_frozen BK123.out 1; have hfz11_2 := blk_frozen BK123.out 2; have hfz11_3 := blk_frozen BK123.out 3; have hfz11_4 := blk_frozen BK123.out 4) | ((with_reducible refine gate_callee (f := 18) rfl ?_); refine zgo (some 14) Try.func18 #[.int .i64 a0_1, .int .i64 255] ?_; (with_reducible refine (cellarref0_Num.calls a0_1 255 true _ A6.out).mono ?_); rintro e w' ⟨rfl, ⟨nd, rfl⟩⟩; refine ⟨_, rfl, ?_⟩))
   go_ret
   exact ⟨ze, zw1 HB.out GE123.out⟩
  ·rw [if_neg c5] at H
   have c5b0 : (a0_0 == 1) = false := beq_eq_false_iff_ne.mpr c5
   have c5b1 : (a0_0 != 1) = true := bne_iff_ne.mpr c5
   by_cases c18 : a0_0 = 2
   ·rw [if_pos c18] at H
    have c18b0 : (a0_0 == 2) = true := beq_iff_eq.mpr c18
    have c18b1 : (a0_0 != 2) = false := bne_eq_false_iff_eq.mpr c18
    clear c18
    by_cases c19 : a0_1 = 0
    rotate_left
    ·rw [if_neg c19] at H
     have c19b0 : (a0_1 == 0) = false := beq_eq_false_iff_ne.mpr c19
     have c19b1 : (a0_1 != 0) = true := bne_iff_ne.mpr c19
     obtain rfl := Option.some.inj H
     go_enter Try.func96, Try.ntmps96
     go_wp2_with (first | ((with_reducible refine gate_dst (N := 1) rfl ?_); refine zbox (N := 1) (cs := #[.int .i64 a0_0, .int .i64 a0_1, .int .i64 a0_2, .int .i64 a0_3, .int .i64 a0_4]) (t := 74) ?_; intro gb123 hg w31 hbox hb; have n0_ := Aside0.mk (below_step (zw0 HB.out) hb); have BK123 := Aside0.mk (hbox); have GW123 := Aside0.mk (zg hg (below_size (zw0 HB.out))); have GE123 := GW123; clear HB; have HB := n0_; clear n0_; clear hb hbox hg; have hcz32_0 := zc BK123.out 0; have hcz32_1 := zc BK123.out 1; have hcz32_2 := zc BK123.out 2; have hcz32_3 := zc BK123.out 3; have hcz32_4 := zc BK123.out 4; have hfz32_0 := blk_frozen BK123.out 0; have hfz32_1 := blk_frozen BK123.out 1; have hfz32_2 := blk_frozen BK123.out 2; have hfz32_3 := blk_frozen BK123.out 3; have hfz32_4 := blk_frozen BK123.out 4))
     go_ret
     exact ⟨ze, zw1 HB.out GE123.out⟩
    rw [if_pos c19] at H
    have c19b0 : (a0_1 == 0) = true := beq_iff_eq.mpr c19
    have c19b1 : (a0_1 != 0) = false := bne_eq_false_iff_eq.mpr c19
    clear c19
    replace H := Option.bind_eq_some_iff.mp H
    obtain ⟨t125, A200, H⟩ := H
    replace H : (if t125 = true then ((cellarref0_Num.f a0_3 32).bind fun t126 => (if t126 = true then ((cellarref0_Num.f a0_4 3).bind fun t127 => (some t127)) else (some false))) else (some false)) = some r := H
    have A20 := Aside0.mk A200
    clear A200
    by_cases c21 : t125 = true
    rotate_left
    ·replace c21 := Bool.eq_false_iff.mpr c21
     subst c21
     have H1 : (some false) = some r := by rw [if_neg (show ¬ (false = true) by decide)] at H; exact H
     clear H
     have H := H1
     clear H1
     obtain rfl := Option.some.inj H
     go_enter Try.func96, Try.ntmps96
     go_wp2_with (first | ((with_reducible refine gate_dst (N := 1) rfl ?_); refine zbox (N := 1) (cs := #[.int .i64 a0_0, .int .i64 a0_1, .int .i64 a0_2, .int .i64 a0_3, .int .i64 a0_4]) (t := 74) ?_; intro gb123 hg w29 hbox hb; have n0_ := Aside0.mk (below_step (zw0 HB.out) hb); have BK123 := Aside0.mk (hbox); have GW123 := Aside0.mk (zg hg (below_size (zw0 HB.out))); have GE123 := GW123; clear HB; have HB := n0_; clear n0_; clear hb hbox hg; have hcz30_0 := zc BK123.out 0; have hcz30_1 := zc BK123.out 1; have hcz30_2 := zc BK123.out 2; have hcz30_3 := zc BK123.out 3; have hcz30_4 := zc BK123.out 4; have hfz30_0 := blk_frozen BK123.out 0; have hfz30_1 := blk_frozen BK123.out 1; have hfz30_2 := blk_frozen BK123.out 2; have hfz30_3 := blk_frozen BK123.out 3; have hfz30_4 := blk_frozen BK123.out 4) | (go_at_call 64; (with_reducible refine (cellarref0_Between.calls a0_2 1 32 false _ A20.out).mono ?_); rintro e w' ⟨rfl, ⟨nd, rfl⟩⟩))
     go_ret
     exact ⟨ze, zw1 HB.out GE123.out⟩
    subst c21
    have H1 : ((cellarref0_Num.f a0_3 32).bind fun t126 => (if t126 = true then ((cellarref0_Num.f a0_4 3).bind fun t127 => (some t127)) else (some false))) = some r := by rw [if_pos rfl] at H; exact H
    clear H
    have H := H1
    clear H1
    replace H := Option.bind_eq_some_iff.mp H
    obtain ⟨t126, A220, H⟩ := H
    replace H : (if t126 = true then ((cellarref0_Num.f a0_4 3).bind fun t127 => (some t127)) else (some false)) = some r := H
    have A22 := Aside0.mk A220
    clear A220
    by_cases c23 : t126 = true
    rotate_left
    ·replace c23 := Bool.eq_false_iff.mpr c23
     subst c23
     have H1 : (some false) = some r := by rw [if_neg (show ¬ (false = true) by decide)] at H; exact H
     clear H
     have H := H1
     clear H1
     obtain rfl := Option.some.inj H
     go_enter Try.func96, Try.ntmps96
     go_wp2_with (first | ((with_reducible refine gate_dst (N := 1) rfl ?_); refine zbox (N := 1) (cs := #[.int .i64 a0_0, .int .i64 a0_1, .int .i64 a0_2, .int .i64 a0_3, .int .i64 a0_4]) (t := 74) ?_; intro gb123 hg w27 hbox hb; have n0_ := Aside0.mk (below_step (zw0 HB.out) hb); have BK123 := Aside0.mk (hbox); have GW123 := Aside0.mk (zg hg (below_size (zw0 HB.out))); have GE123 := GW123; clear HB; have HB := n0_; clear n0_; clear hb hbox hg; have hcz28_0 := zc BK123.out 0; have hcz28_1 := zc BK123.out 1; have hcz28_2 := zc BK123.out 2; have hcz28_3 := zc BK123.out 3; have hcz28_4 := zc BK123.out 4; have hfz28_0 := blk_frozen BK123.out 0; have hfz28_1 := blk_frozen BK123.out 1; have hfz28_2 := blk_frozen BK123.out 2; have hfz28_3 := blk_frozen BK123.out 3; have hfz28_4 := blk_frozen BK123.out 4) | (go_at_call 64; (with_reducible refine (cellarref0_Between.calls a0_2 1 32 true _ A20.out).mono ?_); rintro e w' ⟨rfl, ⟨nd, rfl⟩⟩) | (go_at_call 18; (with_reducible refine (cellarref0_Num.calls a0_3 32 false _ A22.out).mono ?_); rintro e w' ⟨rfl, ⟨nd, rfl⟩⟩))
     go_ret
     exact ⟨ze, zw1 HB.out GE123.out⟩
    subst c23
    have H1 : ((cellarref0_Num.f a0_4 3).bind fun t127 => (some t127)) = some r := by rw [if_pos rfl] at H; exact H
    clear H
    have H := H1
    clear H1
    replace H := Option.bind_eq_some_iff.mp H
    obtain ⟨t127, A240, H⟩ := H
    replace H : (some t127) = some r := H
    have A24 := Aside0.mk A240
    clear A240
    obtain rfl := Option.some.inj H
    go_enter Try.func96, Try.ntmps96
    go_wp2_with (first | ((with_reducible refine gate_dst (N := 1) rfl ?_); refine zbox (N := 1) (cs := #[.int .i64 a0_0, .int .i64 a0_1, .int .i64 a0_2, .int .i64 a0_3, .int .i64 a0_4]) (t := 74) ?_; intro gb123 hg w25 hbox hb; have n0_ := Aside0.mk (below_step (zw0 HB.out) hb); have BK123 := Aside0.mk (hbox); have GW123 := Aside0.mk (zg hg (below_size (zw0 HB.out))); have GE123 := GW123; clear HB; have HB := n0_; clear n0_; clear hb hbox hg; have hcz26_0 := zc BK123.out 0; have hcz26_1 := zc BK123.out 1; have hcz26_2 := zc BK123.out 2; have hcz26_3 := zc BK123.out 3; have hcz26_4 := zc BK123.out 4; have hfz26_0 := blk_frozen BK123.out 0; have hfz26_1 := blk_frozen BK123.out 1; have hfz26_2 := blk_frozen BK123.out 2; have hfz26_3 := blk_frozen BK123.out 3; have hfz26_4 := blk_frozen BK123.out 4) | (go_at_call 64; (with_reducible refine (cellarref0_Between.calls a0_2 1 32 true _ A20.out).mono ?_); rintro e w' ⟨rfl, ⟨nd, rfl⟩⟩) | (go_at_call 18; (with_reducible refine (cellarref0_Num.calls a0_3 32 true _ A22.out).mono ?_); rintro e w' ⟨rfl, ⟨nd, rfl⟩⟩) | (go_at_call 18; (with_reducible refine (cellarref0_Num.calls a0_4 3 t127 _ A24.out).mono ?_); rintro e w' ⟨rfl, ⟨nd, rfl⟩⟩))
    go_ret
    exact ⟨ze, zw1 HB.out GE123.out⟩
   ·rw [if_neg c18] at H
    have c18b0 : (a0_0 == 2) = false := beq_eq_false_iff_ne.mpr c18
    have c18b1 : (a0_0 != 2) = true := bne_iff_ne.mpr c18
    obtain rfl := Option.some.inj H
    go_enter Try.func96, Try.ntmps96
    go_wp2_with (first | ((with_reducible refine gate_dst (N := 1) rfl ?_); refine zbox (N := 1) (cs := #[.int .i64 a0_0, .int .i64 a0_1, .int .i64 a0_2, .int .i64 a0_3, .int .i64 a0_4]) (t := 74) ?_; intro gb123 hg w33 hbox hb; have n0_ := Aside0.mk (below_step (zw0 HB.out) hb); have BK123 := Aside0.mk (hbox); have GW123 := Aside0.mk (zg hg (below_size (zw0 HB.out))); have GE123 := GW123; clear HB; have HB := n0_; clear n0_; clear hb hbox hg; have hcz34_0 := zc BK123.out 0; have hcz34_1 := zc BK123.out 1; have hcz34_2 := zc BK123.out 2; have hcz34_3 := zc BK123.out 3; have hcz34_4 := zc BK123.out 4; have hfz34_0 := blk_frozen BK123.out 0; have hfz34_1 := blk_frozen BK123.out 1; have hfz34_2 := blk_frozen BK123.out 2; have hfz34_3 := blk_frozen BK123.out 3; have hfz34_4 := blk_frozen BK123.out 4))
    go_ret
    exact ⟨ze, zw1 HB.out GE123.out⟩

/-! cellarref7_Bytes -/
def cellarref7_Bytes.l0 : Nat → List (S74) → Int → Option (Bool)
 | 0, _, _ => none
 | k + 1, x0, x3 => if x3 < (x0.length : Int) then (if 0 ≤ x3 then ((cellarref7_Byte.f ((rd_T74 x0 x3).f0) ((rd_T74 x0 x3).f1) ((rd_T74 x0 x3).f2) ((rd_T74 x0 x3).f3) ((rd_T74 x0 x3).f4)).bind fun t129 => (if t129 = true then (cellarref7_Bytes.l0 k x0 (wrap64 (x3 + 1))) else (some false))) else (none)) else (some true)
def cellarref7_Bytes.f (k : Nat) (l0 : List (S74)) : Option (Bool) := cellarref7_Bytes.l0 k l0 0
theorem cellarref7_Bytes.mono_l : ∀ k, (∀ y0 y1, LeO (cellarref7_Bytes.l0 k y0 y1) (cellarref7_Bytes.l0 (k + 1) y0 y1))
 | 0 => fun _ _ r h => by simp [cellarref7_Bytes.l0] at h
 | k + 1 => by
  have ih0 := cellarref7_Bytes.mono_l k
  ·intro y0 y1
   unfold cellarref7_Bytes.l0
   repeat' first
   | (with_reducible apply ih0)
   | (with_reducible apply LeO.refl)
   | (with_reducible apply LeO.none)
   | (with_reducible refine LeO.ite ?_ ?_)
   | (with_reducible refine LeO.bind ?_ (fun _ => ?_))
theorem cellarref7_Bytes.mono : ∀ a0 k, LeO (cellarref7_Bytes.f k a0) (cellarref7_Bytes.f (k + 1) a0) := by
 intro a0 k
 have ih0 := cellarref7_Bytes.mono_l k
 unfold cellarref7_Bytes.f
 repeat' first
   | (with_reducible apply ih0)
   | (with_reducible apply LeO.refl)
   | (with_reducible apply LeO.none)
   | (with_reducible refine LeO.ite ?_ ?_)
   | (with_reducible refine LeO.bind ?_ (fun _ => ?_))
set_option maxHeartbeats 8000000 in
set_option maxRecDepth 100000 in
theorem cellarref7_Bytes.calls (k : Nat) (A0 : Option Addr) (c0 : Nat) (l0 : List (S74)) (r : Bool) (w : World) (hr0 : Kd.C k74 w A0 l0.length l0) (hc0 : l0.length ≤ c0) (h : cellarref7_Bytes.f k l0 = some r) :
  Calls Try.prog 65 #[.slice A0 l0.length c0] w fun e w' => e = .returned (.bool r) ∧ Below w.heap.size w w' := by
 have hu74 := Try.underlying74
 have HR0 := Aside0.mk hr0
 have HC0 := Aside0.mk hc0
 clear hr0 hc0
 have HB := Aside0.mk (Below.refl w.heap.size w)
 have H : (cellarref7_Bytes.l0 k l0 0) = some r := h
 clear h
 have H' := Aside0.mk H
 clear H
 go_enter Try.func65, Try.ntmps65
 go_wp2
 go_loopg [3] k (fun kq v3 w' => ∃ (x3_1 : Int), v3 = .int .i64 x3_1 ∧ Aside0 (cellarref7_Bytes.l0 kq l0 x3_1 = some r) ∧ Aside0 (kq ≤ k) ∧ Aside0 (Below w.heap.size w w'))
 case atStart => exact ⟨(0), (zr), H', ⟨Nat.le_refl _⟩, ⟨zw0 HB.out⟩⟩
 case round =>
  clear H'
  obtain ⟨x3_1, rfl, HA, HK1, HB⟩ := hrel
  cases gk with
  | zero => exact absurd HA.out (by simp [cellarref7_Bytes.l0])
  | succ k1 =>
   have H := HA.out
   clear HA
   simp only [cellarref7_Bytes.l0] at H
   by_cases c2 : x3_1 < (l0.length : Int)
   ·rw [if_pos c2] at H
    have c2b0 : decide (x3_1 < (l0.length : Int)) = true := decide_eq_true c2
    clear c2
    by_cases c3 : 0 ≤ x3_1
    rotate_left
    ·rw [if_neg c3] at H
     exact absurd H (by simp)
    rw [if_pos c3] at H
    have c3b0 : decide (0 ≤ x3_1) = true := decide_eq_true c3
    clear c3
    replace H := Option.bind_eq_some_iff.mp H
    obtain ⟨t129, A40, H⟩ := H
    replace H : (if t129 = true then (cellarref7_Bytes.l0 k1 l0 (wrap64 (x3_1 + 1))) else (some false)) = some r := H
    have A4 := Aside0.mk A40
    clear A40
    by_cases c5 : t129 = true
    rotate_left
    ·replace c5 := Bool.eq_false_iff.mpr c5
     subst c5
     have H1 : (some false) = some r := by rw [if_neg (show ¬ (false = true) by decide)] at H; exact H
     clear H
     have H := H1
     clear H1
     obtain rfl := Option.some.inj H
     have p128 : 0 ≤ (x3_1 : Int) := zdec
     have q128 : x3_1 < (l0.length : Int) := zdec
     obtain ⟨ad128, e128, hx128_0, hx128_1, hx128_2, hx128_3, hx128_4⟩ := at_T74 HR0.out x3_1 p128 q128
     cases e128
     replace hx128_0 := zh HB.out hx128_0
     replace hx128_1 := zh HB.out hx128_1
     replace hx128_2 := zh HB.out hx128_2
     replace hx128_3 := zh HB.out hx128_3
     replace hx128_4 := zh HB.out hx128_4
     replace p128 := eq_true p128
     replace q128 := eq_true q128
     go_wp2_with (first | ((with_reducible refine gate_callee (f := 96) rfl ?_); refine zgo (some 14) Try.func96 #[.agg #[.int .i64 ((rd_T74 l0 x3_1).f0), .int .i64 ((rd_T74 l0 x3_1).f1), .int .i64 ((rd_T74 l0 x3_1).f2), .int .i64 ((rd_T74 l0 x3_1).f3), .int .i64 ((rd_T74 l0 x3_1).f4)]] ?_; (with_reducible refine (cellarref7_Byte.calls ((rd_T74 l0 x3_1).f0) ((rd_T74 l0 x3_1).f1) ((rd_T74 l0 x3_1).f2) ((rd_T74 l0 x3_1).f3) ((rd_T74 l0 x3_1).f4) false _ A4.out).mono ?_); rintro e w7 ⟨rfl, hb⟩; refine ⟨_, rfl, ?_⟩; have n0_ := Aside0.mk (below_step (zw0 HB.out) hb); clear HB; have HB := n0_; clear n0_; (try clear hb); (try clear hb2); (try clear hk); (try clear hi)))
     go_ret
     exact ⟨ze, zw0 HB.out⟩
    subst c5
    have H1 : (cellarref7_Bytes.l0 k1 l0 (wrap64 (x3_1 + 1))) = some r := by rw [if_pos rfl] at H; exact H
    clear H
    have H := H1
    clear H1
    have H' := Aside0.mk H
    clear H
    have p128 : 0 ≤ (x3_1 : Int) := zdec
    have q128 : x3_1 < (l0.length : Int) := zdec
    obtain ⟨ad128, e128, hx128_0, hx128_1, hx128_2, hx128_3, hx128_4⟩ := at_T74 HR0.out x3_1 p128 q128
    cases e128
    replace hx128_0 := zh HB.out hx128_0
    replace hx128_1 := zh HB.out hx128_1
    replace hx128_2 := zh HB.out hx128_2
    replace hx128_3 := zh HB.out hx128_3
    replace hx128_4 := zh HB.out hx128_4
    replace p128 := eq_true p128
    replace q128 := eq_true q128
    go_wp2_with (first | ((with_reducible refine gate_callee (f := 96) rfl ?_); refine zgo (some 14) Try.func96 #[.agg #[.int .i64 ((rd_T74 l0 x3_1).f0), .int .i64 ((rd_T74 l0 x3_1).f1), .int .i64 ((rd_T74 l0 x3_1).f2), .int .i64 ((rd_T74 l0 x3_1).f3), .int .i64 ((rd_T74 l0 x3_1).f4)]] ?_; (with_reducible refine (cellarref7_Byte.calls ((rd_T74 l0 x3_1).f0) ((rd_T74 l0 x3_1).f1) ((rd_T74 l0 x3_1).f2) ((rd_T74 l0 x3_1).f3) ((rd_T74 l0 x3_1).f4) true _ A4.out).mono ?_); rintro e w6 ⟨rfl, hb⟩; refine ⟨_, rfl, ?_⟩; have n0_ := Aside0.mk (below_step (zw0 HB.out) hb); clear HB; have HB := n0_; clear n0_; (try clear hb); (try clear hb2); (try clear hk); (try clear hi)))
    go_roundg k1
    case measure => have := HK1.out; omega
    case rel => exact ⟨(wrap64 (x3_1 + 1)), (zr), H', ⟨by have := HK1.out; omega⟩, ⟨zw0 HB.out⟩⟩
   ·rw [if_neg c2] at H
    have c2b0 : decide (x3_1 < (l0.length : Int)) = false := decide_eq_false c2
    clear c2
    obtain rfl := Option.some.inj H
    go_wp2
    go_ret
    exact ⟨ze, zw0 HB.out⟩

end Go.Proofs.Ytjoplkillkhiaaa.M
