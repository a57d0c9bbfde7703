-- Written by this session's own edition of the print.
import Derived.Test.YtjoplkillkhiaaaStx0
import Derived.Test.YtjoplkillkhiaaaStx1
import Derived.Test.YtjoplkillkhiaaaZSq
import Derived.Test.YtjoplkillkhiaaaZSq2
namespace Go.Proofs.Ytjoplkillkhiaaa.St
open Go.RowKit Go.Proofs.Ytjoplkillkhiaaa.Fn Go.Proofs.YtjoplkillkhiaaaW.PrintWords Go.Proofs.YtjoplkillkhiaaaW.PrintLast Go.Proofs.YtjoplkillkhiaaaW.PrintMore
attribute [local go_sem] max2_int min2_int max_two min_two max_three min_three max_four min_four   -- for this text's walks alone
set_option linter.unusedVariables false
set_option linter.unusedSimpArgs false

attribute [local go_sem high] eqA74
/-! cellarlaw0_BlocksWeight -/
def cellarlaw0_BlocksWeight.l0 : Nat → List (S76) → Int → Int → Option (Int)
 | 0, _, _, _ => none
 | k + 1, x0, x3, x4 => if x4 < (x0.length : Int) then (if x3 < 1048576 then (if 0 ≤ x4 then (cellarlaw0_BlocksWeight.l0 k x0 (wrap64 (x3 + (((rd_T76 x0 x4).f1).length : Int))) (wrap64 (x4 + 1))) else (none)) else (some x3)) else (some x3)
def cellarlaw0_BlocksWeight.f (k : Nat) (l0 : List (S76)) : Option (Int) := cellarlaw0_BlocksWeight.l0 k l0 (l0.length : Int) 0
theorem cellarlaw0_BlocksWeight.mono_l : ∀ k, (∀ y0 y1 y2, LeO (cellarlaw0_BlocksWeight.l0 k y0 y1 y2) (cellarlaw0_BlocksWeight.l0 (k + 1) y0 y1 y2))
 | 0 => fun _ _ _ r h => by simp [cellarlaw0_BlocksWeight.l0] at h
 | k + 1 => by
  have ih0 := cellarlaw0_BlocksWeight.mono_l k
  ·intro y0 y1 y2
   unfold cellarlaw0_BlocksWeight.l0
   repeat' first
   | (with_reducible apply ih0)
   | (with_reducible apply LeO.refl)
   | (with_reducible apply LeO.none)
   | (with_reducible refine LeO.ite ?_ ?_)
   | (with_reducible refine LeO.bind ?_ (fun _ => ?_))
theorem cellarlaw0_BlocksWeight.mono : ∀ a0 k, LeO (cellarlaw0_BlocksWeight.f k a0) (cellarlaw0_BlocksWeight.f (k + 1) a0) := by
 intro a0 k
 have ih0 := cellarlaw0_BlocksWeight.mono_l k
 unfold cellarlaw0_BlocksWeight.f
 repeat' first
   | (with_reducible apply ih0)
   | (with_reducible apply LeO.refl)
   | (with_reducible apply LeO.none)
   | (with_reducible refine LeO.ite ?_ ?_)
   | (with_reducible refine LeO.bind ?_ (fun _ => ?_))
set_option maxHeartbeats 8000000 in
set_option maxRecDepth 100000 in
theorem cellarlaw0_BlocksWeight.calls (k : Nat) (A0 : Option Addr) (c0 : Nat) (l0 : List (S76)) (r : Int) (w : World) (hr0 : Kd.C k76 w A0 l0.length l0) (hc0 : l0.length ≤ c0) (h : cellarlaw0_BlocksWeight.f k l0 = some r) :
  Calls Try.prog 62 #[.slice A0 l0.length c0] w fun e w' => e = .returned (.int .i64 r) ∧ Drawn0 w w' := by
 have HR0 := Aside0.mk hr0
 have HC0 := Aside0.mk hc0
 clear hr0 hc0
 have H : (cellarlaw0_BlocksWeight.l0 k l0 (l0.length : Int) 0) = some r := h
 clear h
 have H' := Aside0.mk H
 clear H
 go_enter Try.func62, Try.ntmps62
 go_wp2
 go_loopg [3, 4] k (fun kq v3 v4 w' => ∃ (x3_1 : Int) (x4_1 : Int), v3 = .int .i64 x3_1 ∧ v4 = .int .i64 x4_1 ∧ Aside0 (cellarlaw0_BlocksWeight.l0 kq l0 x3_1 x4_1 = some r) ∧ Aside0 (kq ≤ k) ∧ Drawn0 w w')
 case atStart => exact ⟨((l0.length : Int)), (0), (zr), (zr), H', ⟨Nat.le_refl _⟩, by repeat (first | exact Drawn0.refl _ | apply Drawn0.step)⟩
 case round =>
  clear H'
  obtain ⟨x3_1, x4_1, rfl, rfl, HA, HK1, ⟨m1, rfl⟩⟩ := hrel
  cases gk with
  | zero => exact absurd HA.out (by simp [cellarlaw0_BlocksWeight.l0])
  | succ k1 =>
   have H := HA.out
   clear HA
   simp only [cellarlaw0_BlocksWeight.l0] at H
   by_cases c2 : x4_1 < (l0.length : Int)
   ·rw [if_pos c2] at H
    have c2b0 : decide (x4_1 < (l0.length : Int)) = true := decide_eq_true c2
    clear c2
    by_cases c3 : x3_1 < 1048576
    rotate_left
    ·rw [if_neg c3] at H
     have c3b0 : decide (x3_1 < 1048576) = false := decide_eq_false c3
     clear c3
     obtain rfl := Option.some.inj H
     go_wp2
     go_ret
     exact ⟨zr, by repeat (first | exact Drawn0.refl _ | apply Drawn0.step)⟩
    rw [if_pos c3] at H
    have c3b0 : decide (x3_1 < 1048576) = true := decide_eq_true c3
    clear c3
    by_cases c4 : 0 ≤ x4_1
    rotate_left
    ·rw [if_neg c4] at H
     exact absurd H (by simp)
    rw [if_pos c4] at H
    have c4b0 : decide (0 ≤ x4_1) = true := decide_eq_true c4
    clear c4
    have H' := Aside0.mk H
    clear H
    have p101 : 0 ≤ (x4_1 : Int) := zdec
    have q101 : x4_1 < (l0.length : Int) := zdec
    obtain ⟨ad101, A101_1, c101_1, e101, hx101_0, hx101_1, hl101_1, hi101_1⟩ := at_T76 HR0.out x4_1 p101 q101
    cases e101
    have HR101_1 := Aside0.mk hi101_1
    have HC101_1 := Aside0.mk hl101_1
    clear hi101_1 hl101_1
    replace p101 := eq_true p101
    replace q101 := eq_true q101
    go_wp2
    go_roundg k1
    case measure => have := HK1.out; omega
    case rel => exact ⟨(wrap64 (x3_1 + (((rd_T76 l0 x4_1).f1).length : Int))), (wrap64 (x4_1 + 1)), (zr), (zr), H', ⟨by have := HK1.out; omega⟩, by repeat (first | exact Drawn0.refl _ | apply Drawn0.step)⟩
   ·rw [if_neg c2] at H
    have c2b0 : decide (x4_1 < (l0.length : Int)) = false := decide_eq_false c2
    clear c2
    obtain rfl := Option.some.inj H
    go_wp2
    go_ret
    exact ⟨zr, by repeat (first | exact Drawn0.refl _ | apply Drawn0.step)⟩

/-! cellarlaw9_Heavy -/
def cellarlaw9_Heavy.l0 : Nat → Int → Int → List (List (S76)) → List (S62) → List Int → List (S29) → Option (Bool)
 | 0, _, _, _, _, _, _ => none
 | k + 1, x3, x4, x103000, x103001, x103002, x103003 => if x4 < (x103000.length : Int) then (if x3 < 1048576 then (if 0 ≤ x4 then ((cellarlaw0_BlocksWeight.f k (rd_L4 x103000 x4)).bind fun t104 => (cellarlaw9_Heavy.l0 k (wrap64 (x3 + t104)) (wrap64 (x4 + 1)) x103000 x103001 x103002 x103003)) else (none)) else (some (decide (x3 > 700)))) else (some (decide (x3 > 700)))
def cellarlaw9_Heavy.f (k : Nat) (l0_0 : List (List (S76))) (l0_1 : List (S62)) (l0_2 : List Int) (l0_3 : List (S29)) : Option (Bool) := cellarlaw9_Heavy.l0 k (wrap64 ((wrap64 ((l0_1.length : Int) + (l0_2.length : Int))) + (l0_3.length : Int))) 0 l0_0 l0_1 l0_2 l0_3
theorem cellarlaw9_Heavy.mono_l : ∀ k, (∀ y0 y1 y2 y3 y4 y5, LeO (cellarlaw9_Heavy.l0 k y0 y1 y2 y3 y4 y5) (cellarlaw9_Heavy.l0 (k + 1) y0 y1 y2 y3 y4 y5))
 | 0 => fun _ _ _ _ _ _ r h => by simp [cellarlaw9_Heavy.l0] at h
 | k + 1 => by
  have ih0 := cellarlaw9_Heavy.mono_l k
  ·intro y0 y1 y2 y3 y4 y5
   unfold cellarlaw9_Heavy.l0
   repeat' first
   | (with_reducible apply ih0)
   | (with_reducible apply cellarlaw0_BlocksWeight.mono)
   | (with_reducible apply LeO.refl)
   | (with_reducible apply LeO.none)
   | (with_reducible refine LeO.ite ?_ ?_)
   | (with_reducible refine LeO.bind ?_ (fun _ => ?_))
theorem cellarlaw9_Heavy.mono : ∀ a0 a1 a2 a3 k, LeO (cellarlaw9_Heavy.f k a0 a1 a2 a3) (cellarlaw9_Heavy.f (k + 1) a0 a1 a2 a3) := by
 intro a0 a1 a2 a3 k
 have ih0 := cellarlaw9_Heavy.mono_l k
 unfold cellarlaw9_Heavy.f
 repeat' first
   | (with_reducible apply ih0)
   | (with_reducible apply cellarlaw0_BlocksWeight.mono)
   | (with_reducible apply LeO.refl)
   | (with_reducible apply LeO.none)
   | (with_reducible refine LeO.ite ?_ ?_)
   | (with_reducible refine LeO.bind ?_ (fun _ => ?_))
set_option maxHeartbeats 8000000 in
set_option maxRecDepth 100000 in
theorem cellarlaw9_Heavy.calls (k : Nat) (A0_0 : Option Addr) (c0_0 : Nat) (l0_0 : List (List (S76))) (A0_1 : Option Addr) (c0_1 : Nat) (l0_1 : List (S62)) (A0_2 : Option Addr) (c0_2 : Nat) (l0_2 : List Int) (A0_3 : Option Addr) (c0_3 : Nat) (l0_3 : List (S29)) (r : Bool) (w : World) (hr0_0 : Kd.C (Kd.slice 76 k76) w A0_0 l0_0.length l0_0) (hc0_0 : l0_0.length ≤ c0_0) (hr0_1 : Kd.C k62 w A0_1 l0_1.length l0_1) (hc0_1 : l0_1.length ≤ c0_1) (hr0_2 : Kd.C (Kd.int .i64) w A0_2 l0_2.length l0_2) (hc0_2 : l0_2.length ≤ c0_2) (hr0_3 : Kd.C k29 w A0_3 l0_3.length l0_3) (hc0_3 : l0_3.length ≤ c0_3) (h : cellarlaw9_Heavy.f k l0_0 l0_1 l0_2 l0_3 = some r) :
  Calls Try.prog 25 #[.agg #[.slice A0_0 l0_0.length c0_0, .slice A0_1 l0_1.length c0_1, .slice A0_2 l0_2.length c0_2, .slice A0_3 l0_3.length c0_3]] w fun e w' => e = .returned (.bool r) ∧ Below w.heap.size w w' := by
 have hu54 := Try.underlying54
 have HR0_0 := Aside0.mk hr0_0
 have HC0_0 := Aside0.mk hc0_0
 clear hr0_0 hc0_0
 have HR0_1 := Aside0.mk hr0_1
 have HC0_1 := Aside0.mk hc0_1
 clear hr0_1 hc0_1
 have HR0_2 := Aside0.mk hr0_2
 have HC0_2 := Aside0.mk hc0_2
 clear hr0_2 hc0_2
 have HR0_3 := Aside0.mk hr0_3
 have HC0_3 := Aside0.mk hc0_3
 clear hr0_3 hc0_3
 have HB := Aside0.mk (Below.refl w.heap.size w)
 have H : (cellarlaw9_Heavy.l0 k (wrap64 ((wrap64 ((l0_1.length : Int) + (l0_2.length : Int))) + (l0_3.length : Int))) 0 l0_0 l0_1 l0_2 l0_3) = some r := h
 clear h
 have H' := Aside0.mk H
 clear H
 go_enter Try.func25, Try.ntmps25
 go_wp2_with (first | ((with_reducible refine gate_dst (N := 1) rfl ?_); refine zbox (N := 1) (cs := #[.slice A0_0 l0_0.length c0_0, .slice A0_1 l0_1.length c0_1, .slice A0_2 l0_2.length c0_2, .slice A0_3 l0_3.length c0_3]) (t := 54) ?_; intro gb102 hg w2 hbox hb; have n0_ := Aside0.mk (below_step (zw0 HB.out) hb); have BK102 := Aside0.mk (hbox); have GW102 := Aside0.mk (zg hg (below_size (zw0 HB.out))); have GE102 := GW102; clear HB; have HB := n0_; clear n0_; clear hb hbox hg; have hcz3_0 := zc BK102.out 0; have hcz3_1 := zc BK102.out 1; have hcz3_2 := zc BK102.out 2; have hcz3_3 := zc BK102.out 3; have hfz3_0 := blk_frozen BK102.out 0; have hfz3_1 := blk_frozen BK102.out 1; have hfz3_2 := blk_frozen BK102.out 2; have hfz3_3 := blk_frozen BK102.out 3))
 go_loopg [3, 4] k (fun kq v3 v4 w' => ∃ (x3_1 : Int) (x4_1 : Int), v3 = .int .i64 x3_1 ∧ v4 = .int .i64 x4_1 ∧ Aside0 (cellarlaw9_Heavy.l0 kq x3_1 x4_1 l0_0 l0_1 l0_2 l0_3 = some r) ∧ Aside0 (kq ≤ k) ∧ Aside0 (w'.heap[gb102]? = some (.cells #[(.slice A0_0 l0_0.length c0_0), (.slice A0_1 l0_1.length c0_1), (.slice A0_2 l0_2.length c0_2), (.slice A0_3 l0_3.length c0_3)] 54 (0, 0))) ∧ Aside0 (Below w.heap.size w w'))
 case atStart => exact ⟨(wrap64 ((wrap64 ((l0_1.length : Int) + (l0_2.length : Int))) + (l0_3.length : Int))), (0), (zr), (zr), H', ⟨Nat.le_refl _⟩, ⟨zb BK102.out⟩, ⟨zw1 HB.out GE102.out⟩⟩
 case round =>
  clear H'
  try clear c2; try clear p2
  obtain ⟨x3_1, x4_1, rfl, rfl, HA, HK1, BK102, HB⟩ := hrel
  cases gk with
  | zero => exact absurd HA.out (by simp [cellarlaw9_Heavy.l0])
  | succ k1 =>
   have H := HA.out
   clear HA
   simp only [cellarlaw9_Heavy.l0] at H
   by_cases c4 : x4_1 < (l0_0.length : Int)
   ·rw [if_pos c4] at H
    have c4b0 : decide (x4_1 < (l0_0.length : Int)) = true := decide_eq_true c4
    clear c4
    by_cases c5 : x3_1 < 1048576
    rotate_left
    ·rw [if_neg c5] at H
     have c5b0 : decide (x3_1 < 1048576) = false := decide_eq_false c5
     clear c5
     obtain rfl := Option.some.inj H
     have hcz9_0 := zc BK102.out 0
     have hcz9_1 := zc BK102.out 1
     have hcz9_2 := zc BK102.out 2
     have hcz9_3 := zc BK102.out 3
     have hfz9_0 := blk_frozen BK102.out 0
     have hfz9_1 := blk_frozen BK102.out 1
     have hfz9_2 := blk_frozen BK102.out 2
     have hfz9_3 := blk_frozen BK102.out 3
     go_wp2
     go_ret
     exact ⟨ze, zw1 HB.out GE102.out⟩
    rw [if_pos c5] at H
    have c5b0 : decide (x3_1 < 1048576) = true := decide_eq_true c5
    clear c5
    by_cases c6 : 0 ≤ x4_1
    rotate_left
    ·rw [if_neg c6] at H
     exact absurd H (by simp)
    rw [if_pos c6] at H
    have c6b0 : decide (0 ≤ x4_1) = true := decide_eq_true c6
    clear c6
    replace H := Option.bind_eq_some_iff.mp H
    obtain ⟨t104, A70, H⟩ := H
    replace H : (cellarlaw9_Heavy.l0 k1 (wrap64 (x3_1 + t104)) (wrap64 (x4_1 + 1)) l0_0 l0_1 l0_2 l0_3) = some r := H
    have A7 := Aside0.mk A70
    clear A70
    have H' := Aside0.mk H
    clear H
    have hcz8_0 := zc BK102.out 0
    have hcz8_1 := zc BK102.out 1
    have hcz8_2 := zc BK102.out 2
    have hcz8_3 := zc BK102.out 3
    have hfz8_0 := blk_frozen BK102.out 0
    have hfz8_1 := blk_frozen BK102.out 1
    have hfz8_2 := blk_frozen BK102.out 2
    have hfz8_3 := blk_frozen BK102.out 3
    have p103 : 0 ≤ (x4_1 : Int) := zdec
    have q103 : x4_1 < (l0_0.length : Int) := zdec
    obtain ⟨ad103, A103_0, c103_0, e103, hx103_0, hl103_0, hi103_0⟩ := at_L4 HR0_0.out x4_1 p103 q103
    cases e103
    replace hx103_0 := zh HB.out hx103_0
    have HR103_0 := Aside0.mk hi103_0
    have HC103_0 := Aside0.mk hl103_0
    clear hi103_0 hl103_0
    replace p103 := eq_true p103
    replace q103 := eq_true q103
    go_wp2_with (first | ((with_reducible refine gate_callee (f := 62) rfl ?_); refine zgo (some 33) Try.func62 #[.slice A103_0 (rd_L4 l0_0 x4_1).length c103_0] ?_; (with_reducible refine (cellarlaw0_BlocksWeight.calls k1 _ _ (rd_L4 l0_0 x4_1) t104 _ ?side1 ?side2 A7.out).mono ?_); (case side1 => repeat (first | exact (Kd.C_below HR103_0.out HB.out) | (with_reducible refine Kd.C_alloc ?_ _) | (with_reducible refine Kd.C_drewN ?_ _) | (with_reducible refine Kd.C_drew ?_))); (case side2 => exact HC103_0.out); rintro e w' ⟨rfl, ⟨nd, rfl⟩⟩; refine ⟨_, rfl, ?_⟩))
    go_roundg k1
    case measure => have := HK1.out; omega
    case rel => exact ⟨(wrap64 (x3_1 + t104)), (wrap64 (x4_1 + 1)), (zr), (zr), H', ⟨by have := HK1.out; omega⟩, ⟨zb BK102.out⟩, ⟨zw1 HB.out GE102.out⟩⟩
   ·rw [if_neg c4] at H
    have c4b0 : decide (x4_1 < (l0_0.length : Int)) = false := decide_eq_false c4
    clear c4
    obtain rfl := Option.some.inj H
    have hcz10_0 := zc BK102.out 0
    have hcz10_1 := zc BK102.out 1
    have hcz10_2 := zc BK102.out 2
    have hcz10_3 := zc BK102.out 3
    have hfz10_0 := blk_frozen BK102.out 0
    have hfz10_1 := blk_frozen BK102.out 1
    have hfz10_2 := blk_frozen BK102.out 2
    have hfz10_3 := blk_frozen BK102.out 3
    go_wp2
    go_ret
    exact ⟨ze, zw1 HB.out GE102.out⟩

/-! cellarlaw8_Machines -/
def cellarlaw8_Machines.f (l0 : List (S29)) : Option ((List (S29))) := (some (([(⟨false, 4⟩ : S29), (⟨true, 2⟩ : S29), (⟨false, 2⟩ : S29), (⟨true, 4⟩ : S29)] : List (S29)) : List (S29))).bind fun y105 => (if y105.length + l0.length < 8796093022208 then ((some (y105 ++ l0 : List (S29))).bind fun y108 => (if (y108.length : Int) > 6 then (if 6 ≤ (y108.length : Int) then (some (y108.take (6 : Int).toNat)) else (none)) else (some y108))) else (none))
set_option maxHeartbeats 8000000 in
set_option maxRecDepth 100000 in
theorem cellarlaw8_Machines.calls (A0 : Option Addr) (c0 : Nat) (l0 : List (S29)) (r : List (S29)) (w : World) (hr0 : Kd.C k29 w A0 l0.length l0) (hc0 : l0.length ≤ c0) (h : cellarlaw8_Machines.f l0 = some r) :
  Calls Try.prog 26 #[.slice A0 l0.length c0] w fun e w' => ∃ v0_ : Value, e = .returned (v0_) ∧ Kd.R k29 29 w' w.heap.size (fun _ => True) v0_ r ∧ Below w.heap.size w w' := by
 have hu29 := Try.underlying29
 have HR0 := Aside0.mk hr0
 have HC0 := Aside0.mk hc0
 clear hr0 hc0
 have HB := Aside0.mk (Below.refl w.heap.size w)
 have H : ((some (([(⟨false, 4⟩ : S29), (⟨true, 2⟩ : S29), (⟨false, 2⟩ : S29), (⟨true, 4⟩ : S29)] : List (S29)) : List (S29))).bind fun y105 => (if y105.length + l0.length < 8796093022208 then ((some (y105 ++ l0 : List (S29))).bind fun y108 => (if (y108.length : Int) > 6 then (if 6 ≤ (y108.length : Int) then (some (y108.take (6 : Int).toNat)) else (none)) else (some y108))) else (none))) = some r := h
 clear h
 obtain ⟨y105, hy105⟩ : ∃ y_ : List (S29), y_ = (([(⟨false, 4⟩ : S29), (⟨true, 2⟩ : S29), (⟨false, 2⟩ : S29), (⟨true, 4⟩ : S29)] : List (S29))) := ⟨_, rfl⟩
 replace H : (if y105.length + l0.length < 8796093022208 then ((some (y105 ++ l0 : List (S29))).bind fun y108 => (if (y108.length : Int) > 6 then (if 6 ≤ (y108.length : Int) then (some (y108.take (6 : Int).toNat)) else (none)) else (some y108))) else (none)) = some r := by first | (rw [hy105]; with_reducible exact H) | (have H2_ := (Option.bind_some _ _).symm.trans H; rw [hy105]; with_reducible exact H2_) | (have H2_ := (Option.bind_some _ _).symm.trans H; with_reducible exact H2_) | with_reducible exact H | (rw [hy105]; exact H) | exact H
 have Ny105 := Aside0.mk hy105
 clear hy105
 by_cases c2 : y105.length + l0.length < 8796093022208
 ·rw [if_pos c2] at H
  have LMc2 := Aside0.mk c2
  clear c2
  obtain ⟨y108, hy108⟩ : ∃ y_ : List (S29), y_ = (y105 ++ l0) := ⟨_, rfl⟩
  replace H : (if (y108.length : Int) > 6 then (if 6 ≤ (y108.length : Int) then (some (y108.take (6 : Int).toNat)) else (none)) else (some y108)) = some r := by first | (rw [hy108]; with_reducible exact H) | (have H2_ := (Option.bind_some _ _).symm.trans H; rw [hy108]; with_reducible exact H2_) | (have H2_ := (Option.bind_some _ _).symm.trans H; with_reducible exact H2_) | with_reducible exact H | (rw [hy108]; exact H) | exact H
  have Ny108 := Aside0.mk hy108
  clear hy108
  by_cases c3 : (y108.length : Int) > 6
  rotate_left
  ·rw [if_neg c3] at H
   have c3b0 : decide (6 < (y108.length : Int)) = false := decide_eq_false c3
   have c3b1 : decide (6 < y108.length) = false := decide_eq_false (by omega)
   clear c3
   obtain rfl := Option.some.inj H
   go_enter Try.func26, Try.ntmps26
   go_wp2_with (first | ((with_reducible refine gate_dst (N := 8) rfl ?_); refine Kd.R_lit k29 _ 29 ?hg (N := 8) ?hd (xs := ([(⟨false, 4⟩ : S29), (⟨true, 2⟩ : S29), (⟨false, 2⟩ : S29), (⟨true, 4⟩ : S29)] : List (S29))) (inner := [.bool false, .int .i64 4, .bool true, .int .i64 2, .bool false, .int .i64 2, .bool true, .int .i64 4]) (ok := fun _ => True) (okp := fun _ => True) ?hr ?hp (fun _ hk => hk) trivial (Below.refl _ _) (Nat.le_refl _) (by simp) ?_; (case hd => rfl); (case hg => rfl); (case hr => first | (go_simp; done) | (go_simp; rfl)); (case hp => exact (Reps.c2 (show Kd.M k29 _ _ _ (⟨false, 4⟩ : S29) [.bool false, .int .i64 4] from (k29_mkM _ _ _ (⟨false, 4⟩ : S29) )) (Reps.c2 (show Kd.M k29 _ _ _ (⟨true, 2⟩ : S29) [.bool true, .int .i64 2] from (k29_mkM _ _ _ (⟨true, 2⟩ : S29) )) (Reps.c2 (show Kd.M k29 _ _ _ (⟨false, 2⟩ : S29) [.bool false, .int .i64 2] from (k29_mkM _ _ _ (⟨false, 2⟩ : S29) )) (Reps.c2 (show Kd.M k29 _ _ _ (⟨true, 4⟩ : S29) [.bool true, .int .i64 4] from (k29_mkM _ _ _ (⟨true, 4⟩ : S29) )) (Reps.none _ _)))))); intro v106 w10 ho11 hb hg_ hnew_; clear hg_ hnew_; (first | rw [← Ny105.out] at ho11 | (simp only [Int.reduceToNat] at ho11; rw [← Ny105.out] at ho11)); have HO107 := Aside0.mk (Kd.R_lower ho11 (below_size (zw0 HB.out))); have n1_ := Aside0.mk (below_step (zw0 HB.out) hb); clear HB; have HB := n1_; clear n1_; clear hb ho11) | ((with_reducible refine gate_builtin (b := .append) (xs := #[.tmp 8, .tmp 9]) rfl ?_); at_builtin; refine Kd.R_append_rows k29 (w0 := w) w.heap.size rfl (.tmp 8) (.tmp 9) 22 29 (.agg #[(.bool false), (.int .i64 0)]) 16 rfl Try.underlying22 info29 rfl (by decide) (by omega) v106 y105 l0 _ _ _ (fun _ => True) (fun _ => False) rfl rfl ?aO ?aR (fun _ _ h => h) (fun _ h => h.elim) ?aF ?aB ?aS ?aL ?_; (case aR => repeat (first | exact (Kd.C_below HR0.out HB.out) | (with_reducible refine Kd.C_alloc ?_ _) | (with_reducible refine Kd.C_drewN ?_ _) | (with_reducible refine Kd.C_drew ?_))); (case aB => exact (zw0 HB.out)); (case aF => exact (fun _ _ => trivial)); (case aO => exact (by (with_reducible repeat (first | apply Kd.R_alloc | apply Kd.R_drewN | apply Kd.R_drew)); exact HO107.out)); (case aS => exact (below_size (zw0 HB.out))); (case aL => have := LMc2.out; omega); intro v109 w12 ho hb hg hat; rw [← Ny108.out] at ho; have n0_ := Aside0.mk (hb); have HO110 := Aside0.mk (ho); clear HB HO107; have HB := n0_; clear n0_; clear ho hb hg hat; obtain ⟨Ao13, co13, eo13⟩ := Kd.R_slice HO110.out; subst eo13))
   go_ret
   exact ⟨_, ze, by (with_reducible repeat (first | apply Kd.R_alloc | apply Kd.R_drewN | apply Kd.R_drew)); exact HO110.out, zw0 HB.out⟩
  rw [if_pos c3] at H
  have c3b0 : decide (6 < (y108.length : Int)) = true := decide_eq_true c3
  have c3b1 : decide (6 < y108.length) = true := decide_eq_true (by omega)
  clear c3
  by_cases c4 : 6 ≤ (y108.length : Int)
  rotate_left
  ·rw [if_neg c4] at H
   exact absurd H (by simp)
  rw [if_pos c4] at H
  have c4b0 := eq_true c4
  have c4b1 : decide (6 ≤ (y108.length : Int)) = true := decide_eq_true c4
  clear c4
  obtain ⟨y111, hy111⟩ : ∃ y_ : List (S29), y_ = (y108.take (6 : Int).toNat) := ⟨_, rfl⟩
  replace H : (some y111) = some r := by first | (rw [hy111]; with_reducible exact H) | (have H2_ := (Option.bind_some _ _).symm.trans H; rw [hy111]; with_reducible exact H2_) | (have H2_ := (Option.bind_some _ _).symm.trans H; with_reducible exact H2_) | with_reducible exact H | (rw [hy111]; exact H) | exact H
  have Ny111 := Aside0.mk hy111
  clear hy111
  obtain rfl := Option.some.inj H
  go_enter Try.func26, Try.ntmps26
  go_wp2_with (first | ((with_reducible refine gate_dst (N := 8) rfl ?_); refine Kd.R_lit k29 _ 29 ?hg (N := 8) ?hd (xs := ([(⟨false, 4⟩ : S29), (⟨true, 2⟩ : S29), (⟨false, 2⟩ : S29), (⟨true, 4⟩ : S29)] : List (S29))) (inner := [.bool false, .int .i64 4, .bool true, .int .i64 2, .bool false, .int .i64 2, .bool true, .int .i64 4]) (ok := fun _ => True) (okp := fun _ => True) ?hr ?hp (fun _ hk => hk) trivial (Below.refl _ _) (Nat.le_refl _) (by simp) ?_; (case hd => rfl); (case hg => rfl); (case hr => first | (go_simp; done) | (go_simp; rfl)); (case hp => exact (Reps.c2 (show Kd.M k29 _ _ _ (⟨false, 4⟩ : S29) [.bool false, .int .i64 4] from (k29_mkM _ _ _ (⟨false, 4⟩ : S29) )) (Reps.c2 (show Kd.M k29 _ _ _ (⟨true, 2⟩ : S29) [.bool true, .int .i64 2] from (k29_mkM _ _ _ (⟨true, 2⟩ : S29) )) (Reps.c2 (show Kd.M k29 _ _ _ (⟨false, 2⟩ : S29) [.bool false, .int .i64 2] from (k29_mkM _ _ _ (⟨false, 2⟩ : S29) )) (Reps.c2 (show Kd.M k29 _ _ _ (⟨true, 4⟩ : S29) [.bool true, .int .i64 4] from (k29_mkM _ _ _ (⟨true, 4⟩ : S29) )) (Reps.none _ _)))))); intro v106 w5 ho6 hb hg_ hnew_; clear hg_ hnew_; (first | rw [← Ny105.out] at ho6 | (simp only [Int.reduceToNat] at ho6; rw [← Ny105.out] at ho6)); have HO107 := Aside0.mk (Kd.R_lower ho6 (below_size (zw0 HB.out))); have n1_ := Aside0.mk (below_step (zw0 HB.out) hb); clear HB; have HB := n1_; clear n1_; clear hb ho6) | ((with_reducible refine gate_builtin (b := .append) (xs := #[.tmp 8, .tmp 9]) rfl ?_); at_builtin; refine Kd.R_append_rows k29 (w0 := w) w.heap.size rfl (.tmp 8) (.tmp 9) 22 29 (.agg #[(.bool false), (.int .i64 0)]) 16 rfl Try.underlying22 info29 rfl (by decide) (by omega) v106 y105 l0 _ _ _ (fun _ => True) (fun _ => False) rfl rfl ?aO ?aR (fun _ _ h => h) (fun _ h => h.elim) ?aF ?aB ?aS ?aL ?_; (case aR => repeat (first | exact (Kd.C_below HR0.out HB.out) | (with_reducible refine Kd.C_alloc ?_ _) | (with_reducible refine Kd.C_drewN ?_ _) | (with_reducible refine Kd.C_drew ?_))); (case aB => exact (zw0 HB.out)); (case aF => exact (fun _ _ => trivial)); (case aO => exact (by (with_reducible repeat (first | apply Kd.R_alloc | apply Kd.R_drewN | apply Kd.R_drew)); exact HO107.out)); (case aS => exact (below_size (zw0 HB.out))); (case aL => have := LMc2.out; omega); intro v109 w7 ho hb hg hat; rw [← Ny108.out] at ho; have n0_ := Aside0.mk (hb); have HO110 := Aside0.mk (ho); clear HB HO107; have HB := n0_; clear n0_; clear ho hb hg hat; obtain ⟨Ao8, co8, eo8⟩ := Kd.R_slice HO110.out; subst eo8; have q9 : (6 : Int) ≤ ((y108.length : Int) : Int) := zdec; obtain ⟨i09, hi09, _, hsz9, _⟩ := info_parts info29; have hcut9 := cut_to (P := Try.prog) 22 29 .i64 Try.underlying22 hi09 Ao8 y108.length co8 6 (by omega) q9 (Kd.R_reads' HO110.out).2.1; have hr9 := Kd.R_take (m := (6 : Int).toNat) HO110.out (by omega); have hy9 : y111.length = (6 : Int).toNat := (by rw [Ny111.out, List.length_take]; omega); rw [← Ny111.out] at hr9; rw [← hy9] at hr9 hcut9; clear hy9 hi09 hsz9 HO110; have HO113 := Aside0.mk hr9; clear hr9; replace q9 := eq_true q9))
  go_ret
  exact ⟨_, ze, by (with_reducible repeat (first | apply Kd.R_alloc | apply Kd.R_drewN | apply Kd.R_drew)); exact HO113.out, zw0 HB.out⟩
 ·rw [if_neg c2] at H
  exact absurd H (by simp)

/-! cellarref0_CopyBytes -/
def cellarref0_CopyBytes.l0 : Nat → List (S74) → List (S74) → Int → Option ((List (S74)))
 | 0, _, _, _ => none
 | k + 1, x0, x3, x4 => if x4 < (x0.length : Int) then (if 0 ≤ x4 then (if x3.length < 3518437208883 then (cellarref0_CopyBytes.l0 k x0 (x3 ++ [(⟨(rd_T74 x0 x4).f0, (rd_T74 x0 x4).f1, (rd_T74 x0 x4).f2, (rd_T74 x0 x4).f3, (rd_T74 x0 x4).f4⟩ : S74)]) (wrap64 (x4 + 1))) else (none)) else (none)) else (some x3)
def cellarref0_CopyBytes.f (k : Nat) (l0 : List (S74)) : Option ((List (S74))) := cellarref0_CopyBytes.l0 k l0 ([] : List (S74)) 0
theorem cellarref0_CopyBytes.mono_l : ∀ k, (∀ y0 y1 y2, LeO (cellarref0_CopyBytes.l0 k y0 y1 y2) (cellarref0_CopyBytes.l0 (k + 1) y0 y1 y2))
 | 0 => fun _ _ _ r h => by simp [cellarref0_CopyBytes.l0] at h
 | k + 1 => by
  have ih0 := cellarref0_CopyBytes.mono_l k
  ·intro y0 y1 y2
   unfold cellarref0_CopyBytes.l0
   repeat' first
   | (with_reducible apply ih0)
   | (with_reducible apply LeO.refl)
   | (with_reducible apply LeO.none)
   | (with_reducible refine LeO.ite ?_ ?_)
   | (with_reducible refine LeO.bind ?_ (fun _ => ?_))
theorem cellarref0_CopyBytes.mono : ∀ a0 k, LeO (cellarref0_CopyBytes.f k a0) (cellarref0_CopyBytes.f (k + 1) a0) := by
 intro a0 k
 have ih0 := cellarref0_CopyBytes.mono_l k
 unfold cellarref0_CopyBytes.f
 repeat' first
   | (with_reducible apply ih0)
   | (with_reducible apply LeO.refl)
   | (with_reducible apply LeO.none)
   | (with_reducible refine LeO.ite ?_ ?_)
   | (with_reducible refine LeO.bind ?_ (fun _ => ?_))
set_option maxHeartbeats 8000000 in
set_option maxRecDepth 100000 in
theorem cellarref0_CopyBytes.calls (k : Nat) (A0 : Option Addr) (c0 : Nat) (l0 : List (S74)) (r : List (S74)) (w : World) (hr0 : Kd.C k74 w A0 l0.length l0) (hc0 : l0.length ≤ c0) (h : cellarref0_CopyBytes.f k l0 = some r) :
  Calls Try.prog 95 #[.slice A0 l0.length c0] w fun e w' => ∃ v0_ : Value, e = .returned (v0_) ∧ Kd.R k74 74 w' w.heap.size (fun _ => True) v0_ r ∧ Below w.heap.size w w' := by
 have hu74 := Try.underlying74
 have HR0 := Aside0.mk hr0
 have HC0 := Aside0.mk hc0
 clear hr0 hc0
 have HB := Aside0.mk (Below.refl w.heap.size w)
 have H : (cellarref0_CopyBytes.l0 k l0 ([] : List (S74)) 0) = some r := h
 clear h
 have H' := Aside0.mk H
 clear H
 go_enter Try.func95, Try.ntmps95
 go_wp2
 go_loopg [3, 4] k (fun kq v3 v4 w' => ∃ (x3_1 : List (S74)) (x4_1 : Int), v4 = .int .i64 x4_1 ∧ Aside0 (cellarref0_CopyBytes.l0 kq l0 x3_1 x4_1 = some r) ∧ Aside0 (kq ≤ k) ∧ Aside0 (Kd.R k74 74 w' w.heap.size (fun _ => True) v3 x3_1) ∧ Aside0 (Below w.heap.size w w'))
 case atStart => exact ⟨(([] : List (S74))), (0), (zr), H', ⟨Nat.le_refl _⟩, ⟨by first | exact Kd.R_nil _ _ _ _ _ | exact Kd.N_nil _ _ _ _ _ | exact Kd.V_nil _ _ _ _ _ | exact Kd.Q_nil _ _ _ _ _ | exact Kd.S_nil _ _ _ _ _⟩, ⟨zw0 HB.out⟩⟩
 case round =>
  clear H'
  obtain ⟨x3_1, x4_1, rfl, HA, HK1, HO_3, HB⟩ := hrel
  cases gk with
  | zero => exact absurd HA.out (by simp [cellarref0_CopyBytes.l0])
  | succ k1 =>
   have H := HA.out
   clear HA
   simp only [cellarref0_CopyBytes.l0] at H
   by_cases c2 : x4_1 < (l0.length : Int)
   ·rw [if_pos c2] at H
    have c2b0 : decide (x4_1 < (l0.length : Int)) = true := decide_eq_true c2
    clear c2
    by_cases c3 : 0 ≤ x4_1
    rotate_left
    ·rw [if_neg c3] at H
     exact absurd H (by simp)
    rw [if_pos c3] at H
    have c3b0 : decide (0 ≤ x4_1) = true := decide_eq_true c3
    clear c3
    by_cases c4 : x3_1.length < 3518437208883
    rotate_left
    ·rw [if_neg c4] at H
     exact absurd H (by simp)
    rw [if_pos c4] at H
    have LMc4 := Aside0.mk c4
    clear c4
    obtain ⟨y115, hy115⟩ : ∃ y_ : List (S74), y_ = (x3_1 ++ [(⟨(rd_T74 l0 x4_1).f0, (rd_T74 l0 x4_1).f1, (rd_T74 l0 x4_1).f2, (rd_T74 l0 x4_1).f3, (rd_T74 l0 x4_1).f4⟩ : S74)]) := ⟨_, rfl⟩
    replace H : (cellarref0_CopyBytes.l0 k1 l0 y115 (wrap64 (x4_1 + 1))) = some r := by first | (rw [hy115]; with_reducible exact H) | (have H2_ := (Option.bind_some _ _).symm.trans H; rw [hy115]; with_reducible exact H2_) | (have H2_ := (Option.bind_some _ _).symm.trans H; with_reducible exact H2_) | with_reducible exact H | (rw [hy115]; exact H) | exact H
    have Ny115 := Aside0.mk hy115
    clear hy115
    have H' := Aside0.mk H
    clear H
    have p114 : 0 ≤ (x4_1 : Int) := zdec
    have q114 : x4_1 < (l0.length : Int) := zdec
    obtain ⟨ad114, e114, hx114_0, hx114_1, hx114_2, hx114_3, hx114_4⟩ := at_T74 HR0.out x4_1 p114 q114
    cases e114
    replace hx114_0 := zh HB.out hx114_0
    replace hx114_1 := zh HB.out hx114_1
    replace hx114_2 := zh HB.out hx114_2
    replace hx114_3 := zh HB.out hx114_3
    replace hx114_4 := zh HB.out hx114_4
    replace p114 := eq_true p114
    replace q114 := eq_true q114
    go_wp2_with (first | ((with_reducible refine gate_builtin (b := .append) (xs := #[.tmp 11, .tmp 16]) rfl ?_); at_builtin; refine Kd.R_append k74 (w0 := w) w.heap.size rfl (.tmp 11) (.tmp 16) 72 74 (.agg #[(.int .i64 0), (.int .i64 0), (.int .i64 0), (.int .i64 0), (.int .i64 0)]) 40 rfl Try.underlying72 info74 rfl (by decide) (by omega) u3 x3_1 (⟨(rd_T74 l0 x4_1).f0, (rd_T74 l0 x4_1).f1, (rd_T74 l0 x4_1).f2, (rd_T74 l0 x4_1).f3, (rd_T74 l0 x4_1).f4⟩ : S74) [.int .i64 ((rd_T74 l0 x4_1).f0), .int .i64 ((rd_T74 l0 x4_1).f1), .int .i64 ((rd_T74 l0 x4_1).f2), .int .i64 ((rd_T74 l0 x4_1).f3), .int .i64 ((rd_T74 l0 x4_1).f4)] (fun _ => True) (fun _ => False) rfl rfl ?aP (fun _ hk => hk.elim) ?aF ?aO ?aB ?aS ?aL ?_; (case aP => exact k74_mkM _ _ _ (⟨(rd_T74 l0 x4_1).f0, (rd_T74 l0 x4_1).f1, (rd_T74 l0 x4_1).f2, (rd_T74 l0 x4_1).f3, (rd_T74 l0 x4_1).f4⟩ : S74)); (case aB => exact (zw0 HB.out)); (case aF => exact (fun _ _ => trivial)); (case aO => exact (by (with_reducible repeat (first | apply Kd.R_alloc | apply Kd.R_drewN | apply Kd.R_drew)); exact HO_3.out)); (case aS => exact (below_size (zw0 HB.out))); (case aL => have := LMc4.out; omega); intro v116 w5 ho hb hg hat; rw [← Ny115.out] at ho; have n0_ := Aside0.mk (hb); have HO117 := Aside0.mk (ho); clear HB HO_3; have HB := n0_; clear n0_; clear ho hb hg hat))
    go_roundg k1
    case measure => have := HK1.out; omega
    case rel => exact ⟨(y115), (wrap64 (x4_1 + 1)), (zr), H', ⟨by have := HK1.out; omega⟩, ⟨by (with_reducible repeat (first | apply Kd.R_alloc | apply Kd.R_drewN | apply Kd.R_drew)); exact HO117.out⟩, ⟨zw0 HB.out⟩⟩
   ·rw [if_neg c2] at H
    have c2b0 : decide (x4_1 < (l0.length : Int)) = false := decide_eq_false c2
    clear c2
    obtain rfl := Option.some.inj H
    go_wp2
    go_ret
    exact ⟨_, ze, by (with_reducible repeat (first | apply Kd.R_alloc | apply Kd.R_drewN | apply Kd.R_drew)); exact HO_3.out, zw0 HB.out⟩

/-! cellarref0_CopyBlock -/
def cellarref0_CopyBlock.f (k : Nat) (a0_0 : Int) (l0_1 : List (S74)) : Option (Int × (List (S74))) := (cellarref0_CopyBytes.f k l0_1).bind fun t121 => (some (a0_0, t121))
theorem cellarref0_CopyBlock.mono : ∀ a0 a1 k, LeO (cellarref0_CopyBlock.f k a0 a1) (cellarref0_CopyBlock.f (k + 1) a0 a1) := by
 intro a0 a1 k
 unfold cellarref0_CopyBlock.f
 repeat' first
   | (with_reducible apply cellarref0_CopyBytes.mono)
   | (with_reducible apply LeO.refl)
   | (with_reducible apply LeO.none)
   | (with_reducible refine LeO.ite ?_ ?_)
   | (with_reducible refine LeO.bind ?_ (fun _ => ?_))
set_option maxHeartbeats 8000000 in
set_option maxRecDepth 100000 in
theorem cellarref0_CopyBlock.calls (k : Nat) (a0_0 : Int) (A0_1 : Option Addr) (c0_1 : Nat) (l0_1 : List (S74)) (r1 : Int) (r2 : List (S74)) (w : World) (hr0_1 : Kd.C k74 w A0_1 l0_1.length l0_1) (hc0_1 : l0_1.length ≤ c0_1) (h : cellarref0_CopyBlock.f k a0_0 l0_1 = some (r1, r2)) :
  Calls Try.prog 63 #[.agg #[.int .i64 a0_0, .slice A0_1 l0_1.length c0_1]] w fun e w' => ∃ v1_ : Value, e = .returned (.agg #[.int .i64 r1, v1_]) ∧ Kd.R k74 74 w' w.heap.size (fun _ => True) v1_ r2 ∧ Below w.heap.size w w' := by
 have hu76 := Try.underlying76
 have HR0_1 := Aside0.mk hr0_1
 have HC0_1 := Aside0.mk hc0_1
 clear hr0_1 hc0_1
 have HB := Aside0.mk (Below.refl w.heap.size w)
 have H : ((cellarref0_CopyBytes.f k l0_1).bind fun t121 => (some (a0_0, t121))) = some (r1, r2) := h
 clear h
 replace H := Option.bind_eq_some_iff.mp H
 obtain ⟨t121, A20, H⟩ := H
 replace H : (some (a0_0, t121)) = some (r1, r2) := H
 have A2 := Aside0.mk A20
 clear A20
 simp only [Option.some.injEq, Prod.mk.injEq] at H
 obtain ⟨rfl, rfl⟩ := H
 go_enter Try.func63, Try.ntmps63
 go_wp2_with (first | ((with_reducible refine gate_dst (N := 1) rfl ?_); refine zbox (N := 1) (cs := #[.int .i64 a0_0, .slice A0_1 l0_1.length c0_1]) (t := 76) ?_; intro gb118 hg w3 hbox hb; have n0_ := Aside0.mk (below_step (zw0 HB.out) hb); have BK118 := Aside0.mk (hbox); have GW118 := Aside0.mk (zg hg (below_size (zw0 HB.out))); have GE118 := GW118; clear HB; have HB := n0_; clear n0_; clear hb hbox hg) | ((with_reducible refine gate_dst (N := 2) rfl ?_); refine zbox (N := 2) (cs := #[.int .i64 0, .slice none 0 0]) (t := 76) ?_; intro gb119 hg w4 hbox hb; have n0_ := Aside0.mk (zbb BK118.out hb); have n1_ := Aside0.mk (below_step (zw1 HB.out GE118.out) hb); have BK119 := Aside0.mk (hbox); have GW119 := Aside0.mk (zg hg (below_size (zw1 HB.out GE118.out))); have GE119 := GW119; have NB118_119 := Aside0.mk (zlt hg BK118.out); have NB119_118 := Aside0.mk (zgt hg BK118.out); clear BK118 HB; have BK118 := n0_; have HB := n1_; clear n0_ n1_; clear hb hbox hg; have hnb5 := NB118_119.out; have hnc5 := NB119_118.out; have hcz6_0 := zc BK118.out 0; have hcz6_1 := zc BK118.out 1; have hfz6_0 := blk_frozen BK118.out 0; have hfz6_1 := blk_frozen BK118.out 1) | ((with_reducible refine gate_dst (N := 3) rfl ?_); refine zbox (N := 3) (cs := #[.int .i64 0, .slice none 0 0]) (t := 76) ?_; intro gb120 hg w7 hbox hb; have n0_ := Aside0.mk (zbb BK118.out hb); have n1_ := Aside0.mk (zbb BK119.out hb); have n2_ := Aside0.mk (below_step (zw2 HB.out GE118.out GE119.out) hb); have BK120 := Aside0.mk (hbox); have GW120 := Aside0.mk (zg hg (below_size (zw2 HB.out GE118.out GE119.out))); have GE120 := GW120; have NB118_120 := Aside0.mk (zlt hg BK118.out); have NB120_118 := Aside0.mk (zgt hg BK118.out); have NB119_120 := Aside0.mk (zlt hg BK119.out); have NB120_119 := Aside0.mk (zgt hg BK119.out); clear BK118 BK119 HB; have BK118 := n0_; have BK119 := n1_; have HB := n2_; clear n0_ n1_ n2_; clear hb hbox hg; have hnb8 := NB120_118.out; have hnc8 := NB118_120.out; have hnb9 := NB120_119.out; have hnc9 := NB119_120.out; have hcz10_0 := zc BK120.out 0; have hcz10_1 := zc BK120.out 1; have hfz10_0 := blk_frozen BK120.out 0; have hfz10_1 := blk_frozen BK120.out 1; have hcz11_0 := zc BK118.out 0; have hcz11_1 := zc BK118.out 1; have hfz11_0 := blk_frozen BK118.out 0; have hfz11_1 := blk_frozen BK118.out 1) | ((with_reducible refine gate_callee (f := 95) rfl ?_); refine zgo (some 7) Try.func95 #[.slice A0_1 l0_1.length c0_1] ?_; (with_reducible refine (cellarref0_CopyBytes.calls k _ _ l0_1 t121 _ ?side1 ?side2 A2.out).mono ?_); (case side1 => exact Kd.C_below HR0_1.out (zw3 HB.out GE118.out GE119.out GE120.out)); (case side2 => exact HC0_1.out); rintro e w12 ⟨v122, rfl, ho0, hb⟩; refine ⟨_, rfl, ?_⟩; have HO123 := Aside0.mk (Kd.R_lower ho0 (below_size (zw3 HB.out GE118.out GE119.out GE120.out))); have n1_ := Aside0.mk (blk_below (g := gb118) (o := .cells #[.int .i64 a0_0, .slice A0_1 l0_1.length c0_1] 76 (0, 0)) (zf1 BK118.out NB118_120.out) hb); have n2_ := Aside0.mk (blk_below (g := gb119) (o := .cells #[.int .i64 0, .slice none 0 0] 76 (0, 0)) (zf1 BK119.out NB119_120.out) hb); have n3_ := Aside0.mk (blk_below (g := gb120) (o := .cells #[.int .i64 a0_0, .slice A0_1 l0_1.length c0_1] 76 (0, 0)) (by (with_reducible repeat (first | refine blk_drewN ?_ _ | refine blk_drew ?_ | refine blk_alloc ?_ _)); refine blk_put (cs := #[.int .i64 a0_0, .slice none 0 0]) ?_ 1 _ rfl; (with_reducible repeat (first | refine blk_drewN ?_ _ | refine blk_drew ?_ | refine blk_alloc ?_ _)); refine blk_put (cs := #[.int .i64 0, .slice none 0 0]) ?_ 0 _ rfl; (with_reducible repeat (first | refine blk_drewN ?_ _ | refine blk_drew ?_ | refine blk_alloc ?_ _)); exact BK120.out) hb); have n4_ := Aside0.mk (below_step (zw3 HB.out GE118.out GE119.out GE120.out) hb); clear BK118 BK119 BK120 HB; have BK118 := n1_; have BK119 := n2_; have BK120 := n3_; have HB := n4_; clear n1_ n2_ n3_ n4_; (try clear hb); (try clear hb2); (try clear hk); (try clear hi); (try clear ho0); obtain ⟨Ao13, co13, eo13⟩ := Kd.R_slice HO123.out; subst eo13; have hcz14_0 := zc BK120.out 0; have hcz14_1 := zc BK120.out 1; have hfz14_0 := blk_frozen BK120.out 0; have hfz14_1 := blk_frozen BK120.out 1; have hcz15_0 := zc BK119.out 0; have hcz15_1 := zc BK119.out 1; have hfz15_0 := blk_frozen BK119.out 0; have hfz15_1 := blk_frozen BK119.out 1))
 refine bodyPost_ret (results_cell_row rfl _ _ gb119 76 #[.int .i64 a0_0, .slice Ao13 t121.length co13] (0, 0) _ rfl (by (with_reducible repeat (first | refine blk_drewN ?_ _ | refine blk_drew ?_ | refine blk_alloc ?_ _)); refine blk_put (cs := #[.int .i64 a0_0, .slice none 0 0]) ?_ 1 _ rfl; (with_reducible repeat (first | refine blk_drewN ?_ _ | refine blk_drew ?_ | refine blk_alloc ?_ _)); refine blk_put (cs := #[.int .i64 0, .slice none 0 0]) ?_ 0 _ rfl; (with_reducible repeat (first | refine blk_drewN ?_ _ | refine blk_drew ?_ | refine blk_alloc ?_ _)); refine blk_far ?_ NB119_120.out _; (with_reducible repeat (first | refine blk_drewN ?_ _ | refine blk_drew ?_ | refine blk_alloc ?_ _)); exact BK119.out) Try.underlying76 rfl (by kernel_rfl)) rfl ?_
 exact ⟨_, ze, by (with_reducible repeat (first | apply Kd.R_alloc | apply Kd.R_drewN | apply Kd.R_drew)); exact Kd.R_mono (Kd.R_far (p := ⟨gb119, 1, none⟩) (Kd.R_far (p := ⟨gb119, 0, none⟩) (Kd.R_far (p := ⟨gb120, 1, none⟩) (Kd.R_types (Kd.R_types HO123.out BK120.out (by decide)) BK119.out (by decide)) (fun _ hk => hk.1.2) (.slice Ao13 t121.length co13)) (fun _ hk => hk.2) (.int .i64 a0_0)) (fun _ hk => hk.2) (.slice Ao13 t121.length co13)) (fun _ hk => trivial), zw3 HB.out GE118.out GE119.out GE120.out⟩

/-! cellarref0_CopyBlocks -/
def cellarref0_CopyBlocks.l0 : Nat → List (S76) → List (S76) → Int → Option ((List (S76)))
 | 0, _, _, _ => none
 | k + 1, x0, x3, x4 => if x4 < (x0.length : Int) then (if 0 ≤ x4 then ((cellarref0_CopyBlock.f k ((rd_T76 x0 x4).f0) ((rd_T76 x0 x4).f1)).bind fun bt125 => (if x3.length < 4398046511104 then (cellarref0_CopyBlocks.l0 k x0 (x3 ++ [(⟨bt125.1, bt125.2⟩ : S76)]) (wrap64 (x4 + 1))) else (none))) else (none)) else (some x3)
def cellarref0_CopyBlocks.f (k : Nat) (l0 : List (S76)) : Option ((List (S76))) := cellarref0_CopyBlocks.l0 k l0 ([] : List (S76)) 0
theorem cellarref0_CopyBlocks.mono_l : ∀ k, (∀ y0 y1 y2, LeO (cellarref0_CopyBlocks.l0 k y0 y1 y2) (cellarref0_CopyBlocks.l0 (k + 1) y0 y1 y2))
 | 0 => fun _ _ _ r h => by simp [cellarref0_CopyBlocks.l0] at h
 | k + 1 => by
  have ih0 := cellarref0_CopyBlocks.mono_l k
  ·intro y0 y1 y2
   unfold cellarref0_CopyBlocks.l0
   repeat' first
   | (with_reducible apply ih0)
   | (with_reducible apply cellarref0_CopyBlock.mono)
   | (with_reducible apply LeO.refl)
   | (with_reducible apply LeO.none)
   | (with_reducible refine LeO.ite ?_ ?_)
   | (with_reducible refine LeO.bind ?_ (fun _ => ?_))
theorem cellarref0_CopyBlocks.mono : ∀ a0 k, LeO (cellarref0_CopyBlocks.f k a0) (cellarref0_CopyBlocks.f (k + 1) a0) := by
 intro a0 k
 have ih0 := cellarref0_CopyBlocks.mono_l k
 unfold cellarref0_CopyBlocks.f
 repeat' first
   | (with_reducible apply ih0)
   | (with_reducible apply cellarref0_CopyBlock.mono)
   | (with_reducible apply LeO.refl)
   | (with_reducible apply LeO.none)
   | (with_reducible refine LeO.ite ?_ ?_)
   | (with_reducible refine LeO.bind ?_ (fun _ => ?_))
set_option maxHeartbeats 8000000 in
set_option maxRecDepth 100000 in
theorem cellarref0_CopyBlocks.calls (k : Nat) (A0 : Option Addr) (c0 : Nat) (l0 : List (S76)) (r : List (S76)) (w : World) (hr0 : Kd.C k76 w A0 l0.length l0) (hc0 : l0.length ≤ c0) (h : cellarref0_CopyBlocks.f k l0 = some r) :
  Calls Try.prog 27 #[.slice A0 l0.length c0] w fun e w' => ∃ v0_ : Value, e = .returned (v0_) ∧ Kd.S k76 76 w' w.heap.size (fun _ => True) v0_ r ∧ Below w.heap.size w w' := by
 have hu76 := Try.underlying76
 have HR0 := Aside0.mk hr0
 have HC0 := Aside0.mk hc0
 clear hr0 hc0
 have HB := Aside0.mk (Below.refl w.heap.size w)
 have H : (cellarref0_CopyBlocks.l0 k l0 ([] : List (S76)) 0) = some r := h
 clear h
 have H' := Aside0.mk H
 clear H
 go_enter Try.func27, Try.ntmps27
 go_wp2
 go_loopg [3, 4] k (fun kq v3 v4 w' => ∃ (x3_1 : List (S76)) (x4_1 : Int), v4 = .int .i64 x4_1 ∧ Aside0 (cellarref0_CopyBlocks.l0 kq l0 x3_1 x4_1 = some r) ∧ Aside0 (kq ≤ k) ∧ Aside0 (Kd.S k76 76 w' w.heap.size (fun _ => True) v3 x3_1) ∧ Aside0 (Below w.heap.size w w'))
 case atStart => exact ⟨(([] : List (S76))), (0), (zr), H', ⟨Nat.le_refl _⟩, ⟨by first | exact Kd.S_nil _ _ _ _ _ | exact Kd.N_nil _ _ _ _ _ | exact Kd.V_nil _ _ _ _ _ | exact Kd.Q_nil _ _ _ _ _ | exact Kd.R_nil _ _ _ _ _⟩, ⟨zw0 HB.out⟩⟩
 case round =>
  clear H'
  obtain ⟨x3_1, x4_1, rfl, HA, HK1, HO_3, HB⟩ := hrel
  cases gk with
  | zero => exact absurd HA.out (by simp [cellarref0_CopyBlocks.l0])
  | succ k1 =>
   have H := HA.out
   clear HA
   simp only [cellarref0_CopyBlocks.l0] at H
   by_cases c2 : x4_1 < (l0.length : Int)
   ·rw [if_pos c2] at H
    have c2b0 : decide (x4_1 < (l0.length : Int)) = true := decide_eq_true c2
    clear c2
    by_cases c3 : 0 ≤ x4_1
    rotate_left
    ·rw [if_neg c3] at H
     exact absurd H (by simp)
    rw [if_pos c3] at H
    have c3b0 : decide (0 ≤ x4_1) = true := decide_eq_true c3
    clear c3
    replace H := Option.bind_eq_some_iff.mp H
    obtain ⟨⟨t125, t126⟩, A40, H⟩ := H
    replace H : (if x3_1.length < 4398046511104 then (cellarref0_CopyBlocks.l0 k1 l0 (x3_1 ++ [(⟨t125, t126⟩ : S76)]) (wrap64 (x4_1 + 1))) else (none)) = some r := H
    have A4 := Aside0.mk A40
    clear A40
    by_cases c5 : x3_1.length < 4398046511104
    rotate_left
    ·rw [if_neg c5] at H
     exact absurd H (by simp)
    rw [if_pos c5] at H
    have LMc5 := Aside0.mk c5
    clear c5
    obtain ⟨y129, hy129⟩ : ∃ y_ : List (S76), y_ = (x3_1 ++ [(⟨t125, t126⟩ : S76)]) := ⟨_, rfl⟩
    replace H : (cellarref0_CopyBlocks.l0 k1 l0 y129 (wrap64 (x4_1 + 1))) = some r := by first | (rw [hy129]; with_reducible exact H) | (have H2_ := (Option.bind_some _ _).symm.trans H; rw [hy129]; with_reducible exact H2_) | (have H2_ := (Option.bind_some _ _).symm.trans H; with_reducible exact H2_) | with_reducible exact H | (rw [hy129]; exact H) | exact H
    have Ny129 := Aside0.mk hy129
    clear hy129
    have H' := Aside0.mk H
    clear H
    have p124 : 0 ≤ (x4_1 : Int) := zdec
    have q124 : x4_1 < (l0.length : Int) := zdec
    obtain ⟨ad124, A124_1, c124_1, e124, hx124_0, hx124_1, hl124_1, hi124_1⟩ := at_T76 HR0.out x4_1 p124 q124
    cases e124
    replace hx124_0 := zh HB.out hx124_0
    replace hx124_1 := zh HB.out hx124_1
    have HR124_1 := Aside0.mk hi124_1
    have HC124_1 := Aside0.mk hl124_1
    clear hi124_1 hl124_1
    replace p124 := eq_true p124
    replace q124 := eq_true q124
    go_wp2_with (first | ((with_reducible refine gate_callee (f := 63) rfl ?_); refine zgo (some 16) Try.func63 #[.agg #[.int .i64 ((rd_T76 l0 x4_1).f0), .slice A124_1 ((rd_T76 l0 x4_1).f1).length c124_1]] ?_; (with_reducible refine (cellarref0_CopyBlock.calls k1 ((rd_T76 l0 x4_1).f0) _ _ ((rd_T76 l0 x4_1).f1) t125 t126 _ ?side1 ?side2 A4.out).mono ?_); (case side1 => repeat (first | exact (Kd.C_below HR124_1.out HB.out) | (with_reducible refine Kd.C_alloc ?_ _) | (with_reducible refine Kd.C_drewN ?_ _) | (with_reducible refine Kd.C_drew ?_))); (case side2 => exact HC124_1.out); rintro e w6 ⟨v127, rfl, ho0, hb⟩; refine ⟨_, rfl, ?_⟩; have n0_ := Aside0.mk (Kd.S_elder' (by (with_reducible repeat (first | apply Kd.S_alloc | apply Kd.S_drewN | apply Kd.S_drew)); exact HO_3.out) (Kd.R_base ho0) hb); have HO128 := Aside0.mk (Kd.R_lower ho0 (below_size (zw0 HB.out))); have n2_ := Aside0.mk (below_step (zw0 HB.out) hb); clear HO_3 HB; have HO_3 := n0_; have HB := n2_; clear n0_ n2_; (try clear hb); (try clear hb2); (try clear hk); (try clear hi); (try clear ho0); obtain ⟨Ao8, co8, eo8⟩ := Kd.R_slice HO128.out; subst eo8) | ((with_reducible refine gate_builtin (b := .append) (xs := #[.tmp 11, .tmp 17]) rfl ?_); at_builtin; refine Kd.S_append k76 (w0 := w) w.heap.size rfl (.tmp 11) (.tmp 17) 57 76 (.agg #[(.int .i64 0), (.slice none 0 0)]) 32 rfl Try.underlying57 info76 rfl (by decide) (by omega) u3 x3_1 (⟨t125, t126⟩ : S76) [.int .i64 t125, .slice Ao8 t126.length co8] (fun _ => True) (fun k_ => some k_ = (.slice Ao8 t126.length co8 : Value).ownBlock) rfl rfl ?aP (fun k_ hk_ => ((Kd.R_mono (ok' := fun k_ => ((fun _ => True)) k_ ∧ some k_ ≠ (u3 : Value).ownBlock) (Kd.R_apart' (HO128.out) (Kd.S_typed HO_3.out) (by decide)) (fun k_ hk => ⟨trivial, hk.2⟩))).1 k_ hk_.symm) ?aF ?aO ?aB ?aS ?aL ?_; (case aP => exact k76_mkM _ _ _ (⟨t125, t126⟩ : S76) (Kd.R_mono (Kd.R_tight rfl (Kd.R_mono (ok' := fun k_ => ((fun _ => True)) k_ ∧ some k_ ≠ (u3 : Value).ownBlock) (Kd.R_apart' (HO128.out) (Kd.S_typed HO_3.out) (by decide)) (fun k_ hk => ⟨trivial, hk.2⟩))) (fun _ h_ => h_))); (case aB => exact (zw0 HB.out)); (case aF => exact (fun _ _ => trivial)); (case aO => exact (by (with_reducible repeat (first | apply Kd.S_alloc | apply Kd.S_drewN | apply Kd.S_drew)); exact Kd.S_mono HO_3.out (fun k_ hk => ⟨trivial, fun e_ => hk.2 e_⟩))); (case aS => exact (below_size (zw0 HB.out))); (case aL => have := LMc5.out; omega); intro v130 w7 ho hb hg hat; rw [← Ny129.out] at ho; have n0_ := Aside0.mk (hb); have HO131 := Aside0.mk (ho); clear HB HO_3 HO128; have HB := n0_; clear n0_; clear ho hb hg hat))
    go_roundg k1
    case measure => have := HK1.out; omega
    case rel => exact ⟨(y129), (wrap64 (x4_1 + 1)), (zr), H', ⟨by have := HK1.out; omega⟩, ⟨by (with_reducible repeat (first | apply Kd.S_alloc | apply Kd.S_drewN | apply Kd.S_drew)); exact HO131.out⟩, ⟨zw0 HB.out⟩⟩
   ·rw [if_neg c2] at H
    have c2b0 : decide (x4_1 < (l0.length : Int)) = false := decide_eq_false c2
    clear c2
    obtain rfl := Option.some.inj H
    go_wp2
    go_ret
    exact ⟨_, ze, by (with_reducible repeat (first | apply Kd.S_alloc | apply Kd.S_drewN | apply Kd.S_drew)); exact HO_3.out, zw0 HB.out⟩

/-! cellarref0_Num -/
def cellarref0_Num.f (a0 : Int) (a1 : Int) : Option (Bool) := if a0 ≥ 0 then (some (decide (a0 ≤ a1))) else (some false)
set_option maxHeartbeats 8000000 in
set_option maxRecDepth 100000 in
theorem cellarref0_Num.calls (a0 : Int) (a1 : Int) (r : Bool) (w : World) (h : cellarref0_Num.f a0 a1 = some r) :
  Calls Try.prog 18 #[.int .i64 a0, .int .i64 a1] w fun e w' => e = .returned (.bool r) ∧ Drawn0 w w' := by
 have H : (if a0 ≥ 0 then (some (decide (a0 ≤ a1))) else (some false)) = some r := h
 clear h
 by_cases c3 : a0 ≥ 0
 ·rw [if_pos c3] at H
  have c3b0 : decide (0 ≤ a0) = true := decide_eq_true c3
  clear c3
  obtain rfl := Option.some.inj H
  go_enter Try.func18, Try.ntmps18
  go_wp2
  go_ret
  exact ⟨zr, by repeat (first | exact Drawn0.refl _ | apply Drawn0.step)⟩
 ·rw [if_neg c3] at H
  have c3b0 : decide (0 ≤ a0) = false := decide_eq_false c3
  clear c3
  obtain rfl := Option.some.inj H
  go_enter Try.func18, Try.ntmps18
  go_wp2
  go_ret
  exact ⟨zr, by repeat (first | exact Drawn0.refl _ | apply Drawn0.step)⟩

/-! cellarref0_Between -/
def cellarref0_Between.f (a0 : Int) (a1 : Int) (a2 : Int) : Option (Bool) := if a0 ≥ a1 then (some (decide (a0 ≤ a2))) else (some false)
set_option maxHeartbeats 8000000 in
set_option maxRecDepth 100000 in
theorem cellarref0_Between.calls (a0 : Int) (a1 : Int) (a2 : Int) (r : Bool) (w : World) (h : cellarref0_Between.f a0 a1 a2 = some r) :
  Calls Try.prog 64 #[.int .i64 a0, .int .i64 a1, .int .i64 a2] w fun e w' => e = .returned (.bool r) ∧ Drawn0 w w' := by
 have H : (if a0 ≥ a1 then (some (decide (a0 ≤ a2))) else (some false)) = some r := h
 clear h
 by_cases c4 : a0 ≥ a1
 ·rw [if_pos c4] at H
  have c4b0 : decide (a1 ≤ a0) = true := decide_eq_true c4
  clear c4
  obtain rfl := Option.some.inj H
  go_enter Try.func64, Try.ntmps64
  go_wp2
  go_ret
  exact ⟨zr, by repeat (first | exact Drawn0.refl _ | apply Drawn0.step)⟩
 ·rw [if_neg c4] at H
  have c4b0 : decide (a1 ≤ a0) = false := decide_eq_false c4
  clear c4
  obtain rfl := Option.some.inj H
  go_enter Try.func64, Try.ntmps64
  go_wp2
  go_ret
  exact ⟨zr, by repeat (first | exact Drawn0.refl _ | apply Drawn0.step)⟩

/-! cellarref7_Byte -/
def cellarref7_Byte.f (a0_0 : Int) (a0_1 : Int) (a0_2 : Int) (a0_3 : Int) (a0_4 : Int) : Option (Bool) := if a0_0 = 0 then (some (a0_0 == 0 && (a0_1 == 0 && (a0_2 == 0 && (a0_3 == 0 && (a0_4 == 0)))))) else (if a0_0 = 1 then ((cellarref0_Num.f a0_1 255).bind fun t133 => (if t133 = true then (if a0_2 = 0 then (if a0_3 = 0 then (some (a0_4 == 0)) else (some false)) else (some false)) else (some false))) else (if a0_0 = 2 then (if a0_1 = 0 then ((cellarref0_Between.f a0_2 1 32).bind fun t134 => (if t134 = true then ((cellarref0_Num.f a0_3 32).bind fun t135 => (if t135 = true then ((cellarref0_Num.f a0_4 3).bind fun t136 => (some t136)) else (some false))) else (some false))) else (some false)) else (some false)))
set_option maxHeartbeats 8000000 in
set_option maxRecDepth 100000 in
theorem cellarref7_Byte.calls (a0_0 : Int) (a0_1 : Int) (a0_2 : Int) (a0_3 : Int) (a0_4 : Int) (r : Bool) (w : World) (h : cellarref7_Byte.f a0_0 a0_1 a0_2 a0_3 a0_4 = some r) :
  Calls Try.prog 96 #[.agg #[.int .i64 a0_0, .int .i64 a0_1, .int .i64 a0_2, .int .i64 a0_3, .int .i64 a0_4]] w fun e w' => e = .returned (.bool r) ∧ Below w.heap.size w w' := by
 have hu74 := Try.underlying74
 have HB := Aside0.mk (Below.refl w.heap.size w)
 have H : (if a0_0 = 0 then (some (a0_0 == 0 && (a0_1 == 0 && (a0_2 == 0 && (a0_3 == 0 && (a0_4 == 0)))))) else (if a0_0 = 1 then ((cellarref0_Num.f a0_1 255).bind fun t133 => (if t133 = true then (if a0_2 = 0 then (if a0_3 = 0 then (some (a0_4 == 0)) else (some false)) else (some false)) else (some false))) else (if a0_0 = 2 then (if a0_1 = 0 then ((cellarref0_Between.f a0_2 1 32).bind fun t134 => (if t134 = true then ((cellarref0_Num.f a0_3 32).bind fun t135 => (if t135 = true then ((cellarref0_Num.f a0_4 3).bind fun t136 => (some t136)) else (some false))) else (some false))) else (some false)) else (some false)))) = some r := h
 clear h
 by_cases c2 : a0_0 = 0
 ·rw [if_pos c2] at H
  have c2b0 : (a0_0 == 0) = true := beq_iff_eq.mpr c2
  have c2b1 : (a0_0 != 0) = false := bne_eq_false_iff_eq.mpr c2
  clear c2
  obtain rfl := Option.some.inj H
  go_enter Try.func96, Try.ntmps96
  go_wp2_with (first | ((with_reducible refine gate_dst (N := 1) rfl ?_); refine zbox (N := 1) (cs := #[.int .i64 a0_0, .int .i64 a0_1, .int .i64 a0_2, .int .i64 a0_3, .int .i64 a0_4]) (t := 74) ?_; intro gb132 hg w3 hbox hb; have n0_ := Aside0.mk (below_step (zw0 HB.out) hb); have BK132 := Aside0.mk (hbox); have GW132 := Aside0.mk (zg hg (below_size (zw0 HB.out))); have GE132 := GW132; clear HB; have HB := n0_; clear n0_; clear hb hbox hg; have hcz4_0 := zc BK132.out 0; have hcz4_1 := zc BK132.out 1; have hcz4_2 := zc BK132.out 2; have hcz4_3 := zc BK132.out 3; have hcz4_4 := zc BK132.out 4; have hfz4_0 := blk_frozen BK132.out 0; have hfz4_1 := blk_frozen BK132.out 1; have hfz4_2 := blk_frozen BK132.out 2; have hfz4_3 := blk_frozen BK132.out 3; have hfz4_4 := blk_frozen BK132.out 4))
  go_ret
  exact ⟨ze, zw1 HB.out GE132.out⟩
 ·rw [if_neg c2] at H
  have c2b0 : (a0_0 == 0) = false := beq_eq_false_iff_ne.mpr c2
  have c2b1 : (a0_0 != 0) = true := bne_iff_ne.mpr c2
  by_cases c5 : a0_0 = 1
  ·rw [if_pos c5] at H
   have c5b0 : (a0_0 == 1) = true := beq_iff_eq.mpr c5
   have c5b1 : (a0_0 != 1) = false := bne_eq_false_iff_eq.mpr c5
   clear c5
   replace H := Option.bind_eq_some_iff.mp H
   obtain ⟨t133, A60, H⟩ := H
   replace H : (if t133 = true then (if a0_2 = 0 then (if a0_3 = 0 then (some (a0_4 == 0)) else (some false)) else (some false)) else (some false)) = some r := H
   have A6 := Aside0.mk A60
   clear A60
   by_cases c7 : t133 = true
   rotate_left
   ·replace c7 := Bool.eq_false_iff.mpr c7
    subst c7
    have H1 : (some false) = some r := by rw [if_neg (show ¬ (false = true) by decide)] at H; exact H
    clear H
    have H := H1
    clear H1
    obtain rfl := Option.some.inj H
    go_enter Try.func96, Try.ntmps96
    go_wp2_with (first | ((with_reducible refine gate_dst (N := 1) rfl ?_); refine zbox (N := 1) (cs := #[.int .i64 a0_0, .int .i64 a0_1, .int .i64 a0_2, .int .i64 a0_3, .int .i64 a0_4]) (t := 74) ?_; intro gb132 hg w16 hbox hb; have n0_ := Aside0.mk (below_step (zw0 HB.out) hb); have BK132 := Aside0.mk (hbox); have GW132 := Aside0.mk (zg hg (below_size (zw0 HB.out))); have GE132 := GW132; clear HB; have HB := n0_; clear n0_; clear hb hbox hg; have hcz17_0 := zc BK132.out 0; have hcz17_1 := zc BK132.out 1; have hcz17_2 := zc BK132.out 2; have hcz17_3 := zc BK132.out 3; have hcz17_4 := zc BK132.out 4; have hfz17_0 := blk_frozen BK132.out 0; have hfz17_1 := blk_frozen BK132.out 1; have hfz17_2 := blk_frozen BK132.out 2; have hfz17_3 := blk_frozen BK132.out 3; have hfz17_4 := blk_frozen BK132.out 4) | ((with_reducible refine gate_callee (f := 18) rfl ?_); refine zgo (some 14) Try.func18 #[.int .i64 a0_1, .int .i64 255] ?_; (with_reducible refine (cellarref0_Num.calls a0_1 255 false _ A6.out).mono ?_); rintro e w' ⟨rfl, ⟨nd, rfl⟩⟩; refine ⟨_, rfl, ?_⟩))
    go_ret
    exact ⟨ze, zw1 HB.out GE132.out⟩
   subst c7
   have H1 : (if a0_2 = 0 then (if a0_3 = 0 then (some (a0_4 == 0)) else (some false)) else (some false)) = some r := by rw [if_pos rfl] at H; exact H
   clear H
   have H := H1
   clear H1
   by_cases c8 : a0_2 = 0
   rotate_left
   ·rw [if_neg c8] at H
    have c8b0 : (a0_2 == 0) = false := beq_eq_false_iff_ne.mpr c8
    have c8b1 : (a0_2 != 0) = true := bne_iff_ne.mpr c8
    obtain rfl := Option.some.inj H
    go_enter Try.func96, Try.ntmps96
    go_wp2_with (first | ((with_reducible refine gate_dst (N := 1) rfl ?_); refine zbox (N := 1) (cs := #[.int .i64 a0_0, .int .i64 a0_1, .int .i64 a0_2, .int .i64 a0_3, .int .i64 a0_4]) (t := 74) ?_; intro gb132 hg w14 hbox hb; have n0_ := Aside0.mk (below_step (zw0 HB.out) hb); have BK132 := Aside0.mk (hbox); have GW132 := Aside0.mk (zg hg (below_size (zw0 HB.out))); have GE132 := GW132; clear HB; have HB := n0_; clear n0_; clear hb hbox hg; have hcz15_0 := zc BK132.out 0; have hcz15_1 := zc BK132.out 1; have hcz15_2 := zc BK132.out 2; have hcz15_3 := zc BK132.out 3; have hcz15_4 := zc BK132.out 4; have hfz15_0 := blk_frozen BK132.out 0; have hfz15_1 := blk_frozen BK132.out 1; have hfz15_2 := blk_frozen BK132.out 2; have hfz15_3 := blk_frozen BK132.out 3; have hfz15_4 := blk_frozen BK132.out 4) | ((with_reducible refine gate_callee (f := 18) rfl ?_); refine zgo (some 14) Try.func18 #[.int .i64 a0_1, .int .i64 255] ?_; (with_reducible refine (cellarref0_Num.calls a0_1 255 true _ A6.out).mono ?_); rintro e w' ⟨rfl, ⟨nd, rfl⟩⟩; refine ⟨_, rfl, ?_⟩))
    go_ret
    exact ⟨ze, zw1 HB.out GE132.out⟩
   rw [if_pos c8] at H
   have c8b0 : (a0_2 == 0) = true := beq_iff_eq.mpr c8
   have c8b1 : (a0_2 != 0) = false := bne_eq_false_iff_eq.mpr c8
   clear c8
   by_cases c9 : a0_3 = 0
   rotate_left
   ·rw [if_neg c9] at H
    have c9b0 : (a0_3 == 0) = false := beq_eq_false_iff_ne.mpr c9
    have c9b1 : (a0_3 != 0) = true := bne_iff_ne.mpr c9
    obtain rfl := Option.some.inj H
    go_enter Try.func96, Try.ntmps96
    go_wp2_with (first | ((with_reducible refine gate_dst (N := 1) rfl ?_); refine zbox (N := 1) (cs := #[.int .i64 a0_0, .int .i64 a0_1, .int .i64 a0_2, .int .i64 a0_3, .int .i64 a0_4]) (t := 74) ?_; intro gb132 hg w12 hbox hb; have n0_ := Aside0.mk (below_step (zw0 HB.out) hb); have BK132 := Aside0.mk (hbox); have GW132 := Aside0.mk (zg hg (below_size (zw0 HB.out))); have GE132 := GW132; clear HB; have HB := n0_; clear n0_; clear hb hbox hg; have hcz13_0 := zc BK132.out 0; have hcz13_1 := zc BK132.out 1; have hcz13_2 := zc BK132.out 2; have hcz13_3 := zc BK132.out 3; have hcz13_4 := zc BK132.out 4; have hfz13_0 := blk_frozen BK132.out 0; have hfz13_1 := blk_frozen BK132.out 1; have hfz13_2 := blk_frozen BK132.out 2; have hfz13_3 := blk_frozen BK132.out 3; have hfz13_4 := blk_frozen BK132.out 4) | ((with_reducible refine gate_callee (f := 18) rfl ?_); refine zgo (some 14) Try.func18 #[.int .i64 a0_1, .int .i64 255] ?_; (with_reducible refine (cellarref0_Num.calls a0_1 255 true _ A6.out).mono ?_); rintro e w' ⟨rfl, ⟨nd, rfl⟩⟩; refine ⟨_, rfl, ?_⟩))
    go_ret
    exact ⟨ze, zw1 HB.out GE132.out⟩
   rw [if_pos c9] at H
   have c9b0 : (a0_3 == 0) = true := beq_iff_eq.mpr c9
   have c9b1 : (a0_3 != 0) = false := bne_eq_false_iff_eq.mpr c9
   clear c9
   obtain rfl := Option.some.inj H
   go_enter Try.func96, Try.ntmps96
   go_wp2_with (first | ((with_reducible refine gate_dst (N := 1) rfl ?_); refine zbox (N := 1) (cs := #[.int .i64 a0_0, .int .i64 a0_1, .int .i64 a0_2, .int .i64 a0_3, .int .i64 a0_4]) (t := 74) ?_; intro gb132 hg w10 hbox hb; have n0_ := Aside0.mk (below_step (zw0 HB.out) hb); have BK132 := Aside0.mk (hbox); have GW132 := Aside0.mk (zg hg (below_size (zw0 HB.out))); have GE132 := GW132; clear HB; have HB := n0_; clear n0_; clear hb hbox hg; have hcz11_0 := zc BK132.out 0; have hcz11_1 := zc BK132.out 1; have hcz11_2 := zc BK132.out 2; have hcz11_3 := zc BK132.out 3; have hcz11_4 := zc BK132.out 4; have hfz11_0 := blk_frozen BK132.out 0; have hfz11_1 := blk_frozen BK132.out 1; have hfz11_2 := blk_frozen BK132.out 2; have hfz11_3 := blk_frozen BK132.out 3; have hfz11_4 := blk_frozen BK132.out 4) | ((with_reducible refine gate_callee (f := 18) rfl ?_); refine zgo (some 14) Try.func18 #[.int .i64 a0_1, .int .i64 255] ?_; (with_reducible refine (cellarref0_Num.calls a0_1 255 true _ A6.out).mono ?_); rintro e w' ⟨rfl, ⟨nd, rfl⟩⟩; refine ⟨_, rfl, ?_⟩))
   go_ret
   exact ⟨ze, zw1 HB.out GE132.out⟩
  ·rw [if_neg c5] at H
   have c5b0 : (a0_0 == 1) = false := beq_eq_false_iff_ne.mpr c5
   have c5b1 : (a0_0 != 1) = true := bne_iff_ne.mpr c5
   by_cases c18 : a0_0 = 2
   ·rw [if_pos c18] at H
    have c18b0 : (a0_0 == 2) = true := beq_iff_eq.mpr c18
    have c18b1 : (a0_0 != 2) = false := bne_eq_false_iff_eq.mpr c18
    clear c18
    by_cases c19 : a0_1 = 0
    rotate_left
    ·rw [if_neg c19] at H
     have c19b0 : (a0_1 == 0) = false := beq_eq_false_iff_ne.mpr c19
     have c19b1 : (a0_1 != 0) = true := bne_iff_ne.mpr c19
     obtain rfl := Option.some.inj H
     go_enter Try.func96, Try.ntmps96
     go_wp2_with (first | ((with_reducible refine gate_dst (N := 1) rfl ?_); refine zbox (N := 1) (cs := #[.int .i64 a0_0, .int .i64 a0_1, .int .i64 a0_2, .int .i64 a0_3, .int .i64 a0_4]) (t := 74) ?_; intro gb132 hg w31 hbox hb; have n0_ := Aside0.mk (below_step (zw0 HB.out) hb); have BK132 := Aside0.mk (hbox); have GW132 := Aside0.mk (zg hg (below_size (zw0 HB.out))); have GE132 := GW132; clear HB; have HB := n0_; clear n0_; clear hb hbox hg; have hcz32_0 := zc BK132.out 0; have hcz32_1 := zc BK132.out 1; have hcz32_2 := zc BK132.out 2; have hcz32_3 := zc BK132.out 3; have hcz32_4 := zc BK132.out 4; have hfz32_0 := blk_frozen BK132.out 0; have hfz32_1 := blk_frozen BK132.out 1; have hfz32_2 := blk_frozen BK132.out 2; have hfz32_3 := blk_frozen BK132.out 3; have hfz32_4 := blk_frozen BK132.out 4))
     go_ret
     exact ⟨ze, zw1 HB.out GE132.out⟩
    rw [if_pos c19] at H
    have c19b0 : (a0_1 == 0) = true := beq_iff_eq.mpr c19
    have c19b1 : (a0_1 != 0) = false := bne_eq_false_iff_eq.mpr c19
    clear c19
    replace H := Option.bind_eq_some_iff.mp H
    obtain ⟨t134, A200, H⟩ := H
    replace H : (if t134 = true then ((cellarref0_Num.f a0_3 32).bind fun t135 => (if t135 = true then ((cellarref0_Num.f a0_4 3).bind fun t136 => (some t136)) else (some false))) else (some false)) = some r := H
    have A20 := Aside0.mk A200
    clear A200
    by_cases c21 : t134 = true
    rotate_left
    ·replace c21 := Bool.eq_false_iff.mpr c21
     subst c21
     have H1 : (some false) = some r := by rw [if_neg (show ¬ (false = true) by decide)] at H; exact H
     clear H
     have H := H1
     clear H1
     obtain rfl := Option.some.inj H
     go_enter Try.func96, Try.ntmps96
     go_wp2_with (first | ((with_reducible refine gate_dst (N := 1) rfl ?_); refine zbox (N := 1) (cs := #[.int .i64 a0_0, .int .i64 a0_1, .int .i64 a0_2, .int .i64 a0_3, .int .i64 a0_4]) (t := 74) ?_; intro gb132 hg w29 hbox hb; have n0_ := Aside0.mk (below_step (zw0 HB.out) hb); have BK132 := Aside0.mk (hbox); have GW132 := Aside0.mk (zg hg (below_size (zw0 HB.out))); have GE132 := GW132; clear HB; have HB := n0_; clear n0_; clear hb hbox hg; have hcz30_0 := zc BK132.out 0; have hcz30_1 := zc BK132.out 1; have hcz30_2 := zc BK132.out 2; have hcz30_3 := zc BK132.out 3; have hcz30_4 := zc BK132.out 4; have hfz30_0 := blk_frozen BK132.out 0; have hfz30_1 := blk_frozen BK132.out 1; have hfz30_2 := blk_frozen BK132.out 2; have hfz30_3 := blk_frozen BK132.out 3; have hfz30_4 := blk_frozen BK132.out 4) | (go_at_call 64; (with_reducible refine (cellarref0_Between.calls a0_2 1 32 false _ A20.out).mono ?_); rintro e w' ⟨rfl, ⟨nd, rfl⟩⟩))
     go_ret
     exact ⟨ze, zw1 HB.out GE132.out⟩
    subst c21
    have H1 : ((cellarref0_Num.f a0_3 32).bind fun t135 => (if t135 = true then ((cellarref0_Num.f a0_4 3).bind fun t136 => (some t136)) else (some false))) = some r := by rw [if_pos rfl] at H; exact H
    clear H
    have H := H1
    clear H1
    replace H := Option.bind_eq_some_iff.mp H
    obtain ⟨t135, A220, H⟩ := H
    replace H : (if t135 = true then ((cellarref0_Num.f a0_4 3).bind fun t136 => (some t136)) else (some false)) = some r := H
    have A22 := Aside0.mk A220
    clear A220
    by_cases c23 : t135 = true
    rotate_left
    ·replace c23 := Bool.eq_false_iff.mpr c23
     subst c23
     have H1 : (some false) = some r := by rw [if_neg (show ¬ (false = true) by decide)] at H; exact H
     clear H
     have H := H1
     clear H1
     obtain rfl := Option.some.inj H
     go_enter Try.func96, Try.ntmps96
     go_wp2_with (first | ((with_reducible refine gate_dst (N := 1) rfl ?_); refine zbox (N := 1) (cs := #[.int .i64 a0_0, .int .i64 a0_1, .int .i64 a0_2, .int .i64 a0_3, .int .i64 a0_4]) (t := 74) ?_; intro gb132 hg w27 hbox hb; have n0_ := Aside0.mk (below_step (zw0 HB.out) hb); have BK132 := Aside0.mk (hbox); have GW132 := Aside0.mk (zg hg (below_size (zw0 HB.out))); have GE132 := GW132; clear HB; have HB := n0_; clear n0_; clear hb hbox hg; have hcz28_0 := zc BK132.out 0; have hcz28_1 := zc BK132.out 1; have hcz28_2 := zc BK132.out 2; have hcz28_3 := zc BK132.out 3; have hcz28_4 := zc BK132.out 4; have hfz28_0 := blk_frozen BK132.out 0; have hfz28_1 := blk_frozen BK132.out 1; have hfz28_2 := blk_frozen BK132.out 2; have hfz28_3 := blk_frozen BK132.out 3; have hfz28_4 := blk_frozen BK132.out 4) | (go_at_call 64; (with_reducible refine (cellarref0_Between.calls a0_2 1 32 true _ A20.out).mono ?_); rintro e w' ⟨rfl, ⟨nd, rfl⟩⟩) | (go_at_call 18; (with_reducible refine (cellarref0_Num.calls a0_3 32 false _ A22.out).mono ?_); rintro e w' ⟨rfl, ⟨nd, rfl⟩⟩))
     go_ret
     exact ⟨ze, zw1 HB.out GE132.out⟩
    subst c23
    have H1 : ((cellarref0_Num.f a0_4 3).bind fun t136 => (some t136)) = some r := by rw [if_pos rfl] at H; exact H
    clear H
    have H := H1
    clear H1
    replace H := Option.bind_eq_some_iff.mp H
    obtain ⟨t136, A240, H⟩ := H
    replace H : (some t136) = some r := H
    have A24 := Aside0.mk A240
    clear A240
    obtain rfl := Option.some.inj H
    go_enter Try.func96, Try.ntmps96
    go_wp2_with (first | ((with_reducible refine gate_dst (N := 1) rfl ?_); refine zbox (N := 1) (cs := #[.int .i64 a0_0, .int .i64 a0_1, .int .i64 a0_2, .int .i64 a0_3, .int .i64 a0_4]) (t := 74) ?_; intro gb132 hg w25 hbox hb; have n0_ := Aside0.mk (below_step (zw0 HB.out) hb); have BK132 := Aside0.mk (hbox); have GW132 := Aside0.mk (zg hg (below_size (zw0 HB.out))); have GE132 := GW132; clear HB; have HB := n0_; clear n0_; clear hb hbox hg; have hcz26_0 := zc BK132.out 0; have hcz26_1 := zc BK132.out 1; have hcz26_2 := zc BK132.out 2; have hcz26_3 := zc BK132.out 3; have hcz26_4 := zc BK132.out 4; have hfz26_0 := blk_frozen BK132.out 0; have hfz26_1 := blk_frozen BK132.out 1; have hfz26_2 := blk_frozen BK132.out 2; have hfz26_3 := blk_frozen BK132.out 3; have hfz26_4 := blk_frozen BK132.out 4) | (go_at_call 64; (with_reducible refine (cellarref0_Between.calls a0_2 1 32 true _ A20.out).mono ?_); rintro e w' ⟨rfl, ⟨nd, rfl⟩⟩) | (go_at_call 18; (with_reducible refine (cellarref0_Num.calls a0_3 32 true _ A22.out).mono ?_); rintro e w' ⟨rfl, ⟨nd, rfl⟩⟩) | (go_at_call 18; (with_reducible refine (cellarref0_Num.calls a0_4 3 t136 _ A24.out).mono ?_); rintro e w' ⟨rfl, ⟨nd, rfl⟩⟩))
    go_ret
    exact ⟨ze, zw1 HB.out GE132.out⟩
   ·rw [if_neg c18] at H
    have c18b0 : (a0_0 == 2) = false := beq_eq_false_iff_ne.mpr c18
    have c18b1 : (a0_0 != 2) = true := bne_iff_ne.mpr c18
    obtain rfl := Option.some.inj H
    go_enter Try.func96, Try.ntmps96
    go_wp2_with (first | ((with_reducible refine gate_dst (N := 1) rfl ?_); refine zbox (N := 1) (cs := #[.int .i64 a0_0, .int .i64 a0_1, .int .i64 a0_2, .int .i64 a0_3, .int .i64 a0_4]) (t := 74) ?_; intro gb132 hg w33 hbox hb; have n0_ := Aside0.mk (below_step (zw0 HB.out) hb); have BK132 := Aside0.mk (hbox); have GW132 := Aside0.mk (zg hg (below_size (zw0 HB.out))); have GE132 := GW132; clear HB; have HB := n0_; clear n0_; clear hb hbox hg; have hcz34_0 := zc BK132.out 0; have hcz34_1 := zc BK132.out 1; have hcz34_2 := zc BK132.out 2; have hcz34_3 := zc BK132.out 3; have hcz34_4 := zc BK132.out 4; have hfz34_0 := blk_frozen BK132.out 0; have hfz34_1 := blk_frozen BK132.out 1; have hfz34_2 := blk_frozen BK132.out 2; have hfz34_3 := blk_frozen BK132.out 3; have hfz34_4 := blk_frozen BK132.out 4))
    go_ret
    exact ⟨ze, zw1 HB.out GE132.out⟩

end Go.Proofs.Ytjoplkillkhiaaa.St
