-- Written by this session's own edition of the print.
import Derived.Test.YthhdmanpjeminaaHx0
import Derived.Test.YthhdmanpjeminaaHx4
import Derived.Test.YthhdmanpjeminaaHx9
import Derived.Test.YthhdmanpjeminaaSq
import Derived.Test.YthhdmanpjeminaaSq2
namespace Go.Proofs.Ythhdmanpjeminaa.H
open Go.RowKit Go.Proofs.Ythhdmanpjeminaa.Fn Go.Proofs.YthhdmanpjeminaaW.PrintWords Go.Proofs.YthhdmanpjeminaaW.PrintLast Go.Proofs.YthhdmanpjeminaaW.PrintMore
attribute [local go_sem] max2_int min2_int max_two min_two max_three min_three max_four min_four   -- for this text's walks alone
set_option linter.unusedVariables false
set_option linter.unusedSimpArgs false

/-! cellarref7_Get -/
mutual
def cellarref7_Get.l0 : Nat → Int → List (S51) → Int → Int → Bool → Int → Option (Bool × Int × Int × Int × Int)
 | 0, _, _, _, _, _, _ => none
 | k + 1, x1, x2, x8, x9, x231000, x231001 => if x9 < (x2.length : Int) then (if 0 ≤ x9 then (if ((rd_T51 x2 x9).f0) = 0 then (some (false, 0, 0, 0, 7)) else (if ((rd_T51 x2 x9).f0) = 2 then (cellarref7_Get.l0 k x1 x2 (wrap64 (x8 + 1)) (wrap64 (x9 + 1)) x231000 x231001) else (cellarref7_Get.l0 k x1 x2 x8 (wrap64 (x9 + 1)) x231000 x231001))) else (none)) else (if x1 = 7 then (if x8 = 0 then (cellarref7_Get.l1 k x2 0) else (if 0 < (x2.length : Int) then (if ((rd_T51 x2 0).f0) = 2 then ((cellarref7_Put.f k x231000 x231001 x1 true 0 ((rd_T51 x2 0).f2) ((rd_T51 x2 0).f3)).bind fun t239 => ((cellarref0_EqBytes.f k t239 x2).bind fun t242 => (if t242 = true then (some (true, 0, (rd_T51 x2 0).f2, (rd_T51 x2 0).f3, 0)) else (some (false, 0, 0, 0, 8))))) else (some (false, 0, 0, 0, 8))) else (none))) else (if x8 > 0 then (some (false, 0, 0, 0, 8)) else (cellarref7_Get.l2 k x2 0 0 x231000 x231001)))
def cellarref7_Get.l1 : Nat → List (S51) → Int → Option (Bool × Int × Int × Int × Int)
 | 0, _, _ => none
 | k + 1, x2, x10 => if x10 < (x2.length : Int) then (if 0 ≤ x10 then (if ((rd_T51 x2 x10).f1) = 0 then (cellarref7_Get.l1 k x2 (wrap64 (x10 + 1))) else (some (false, 0, 0, 0, 8))) else (none)) else (some (true, 0, 0, 0, 0))
def cellarref7_Get.l2 : Nat → List (S51) → Int → Int → Bool → Int → Option (Bool × Int × Int × Int × Int)
 | 0, _, _, _, _, _ => none
 | k + 1, x2, x12, x13, x231000, x231001 => if x13 < (x2.length : Int) then (if x231000 = true then (if 0 ≤ x13 then (cellarref7_Get.l2 k x2 (Go.bits .or .i64 (wrap64 (x12 * 256)) ((rd_T51 x2 x13).f1)) (wrap64 (x13 + 1)) x231000 x231001) else (none)) else (if 0 ≤ (wrap64 ((wrap64 ((x2.length : Int) - 1)) - x13)) then (if (wrap64 ((wrap64 ((x2.length : Int) - 1)) - x13)) < (x2.length : Int) then (cellarref7_Get.l2 k x2 (Go.bits .or .i64 (wrap64 (x12 * 256)) ((rd_T51 x2 (wrap64 ((wrap64 ((x2.length : Int) - 1)) - x13))).f1)) (wrap64 (x13 + 1)) x231000 x231001) else (none)) else (none))) else (some (false, x12, 0, 0, 0))
end
def cellarref7_Get.f (k : Nat) (a0_0 : Bool) (a0_1 : Int) (a1 : Int) (l2 : List (S51)) : Option (Bool × Int × Int × Int × Int) := cellarref7_Get.l0 k a1 l2 0 0 a0_0 a0_1
theorem cellarref7_Get.mono_l : ∀ k, (∀ y0 y1 y2 y3 y4 y5, LeO (cellarref7_Get.l0 k y0 y1 y2 y3 y4 y5) (cellarref7_Get.l0 (k + 1) y0 y1 y2 y3 y4 y5)) ∧ (∀ y0 y1, LeO (cellarref7_Get.l1 k y0 y1) (cellarref7_Get.l1 (k + 1) y0 y1)) ∧ (∀ y0 y1 y2 y3 y4, LeO (cellarref7_Get.l2 k y0 y1 y2 y3 y4) (cellarref7_Get.l2 (k + 1) y0 y1 y2 y3 y4))
 | 0 => ⟨fun _ _ _ _ _ _ r h => by simp [cellarref7_Get.l0] at h, fun _ _ r h => by simp [cellarref7_Get.l1] at h, fun _ _ _ _ _ r h => by simp [cellarref7_Get.l2] at h⟩
 | k + 1 => by
  obtain ⟨ih0, ih1, ih2⟩ := cellarref7_Get.mono_l k
  refine ⟨?_, ?_, ?_⟩
  ·intro y0 y1 y2 y3 y4 y5
   unfold cellarref7_Get.l0
   repeat' first
   | (with_reducible apply ih0)
   | (with_reducible apply ih1)
   | (with_reducible apply ih2)
   | (with_reducible apply cellarref0_EqBytes.mono)
   | (with_reducible apply cellarref7_Put.mono)
   | (with_reducible apply LeO.refl)
   | (with_reducible apply LeO.none)
   | (with_reducible refine LeO.ite ?_ ?_)
   | (with_reducible refine LeO.bind ?_ (fun _ => ?_))
  ·intro y0 y1
   unfold cellarref7_Get.l1
   repeat' first
   | (with_reducible apply ih0)
   | (with_reducible apply ih1)
   | (with_reducible apply ih2)
   | (with_reducible apply cellarref0_EqBytes.mono)
   | (with_reducible apply cellarref7_Put.mono)
   | (with_reducible apply LeO.refl)
   | (with_reducible apply LeO.none)
   | (with_reducible refine LeO.ite ?_ ?_)
   | (with_reducible refine LeO.bind ?_ (fun _ => ?_))
  ·intro y0 y1 y2 y3 y4
   unfold cellarref7_Get.l2
   repeat' first
   | (with_reducible apply ih0)
   | (with_reducible apply ih1)
   | (with_reducible apply ih2)
   | (with_reducible apply cellarref0_EqBytes.mono)
   | (with_reducible apply cellarref7_Put.mono)
   | (with_reducible apply LeO.refl)
   | (with_reducible apply LeO.none)
   | (with_reducible refine LeO.ite ?_ ?_)
   | (with_reducible refine LeO.bind ?_ (fun _ => ?_))
theorem cellarref7_Get.mono : ∀ a0 a1 a2 a3 k, LeO (cellarref7_Get.f k a0 a1 a2 a3) (cellarref7_Get.f (k + 1) a0 a1 a2 a3) := by
 intro a0 a1 a2 a3 k
 obtain ⟨ih0, ih1, ih2⟩ := cellarref7_Get.mono_l k
 unfold cellarref7_Get.f
 repeat' first
   | (with_reducible apply ih0)
   | (with_reducible apply ih1)
   | (with_reducible apply ih2)
   | (with_reducible apply cellarref0_EqBytes.mono)
   | (with_reducible apply cellarref7_Put.mono)
   | (with_reducible apply LeO.refl)
   | (with_reducible apply LeO.none)
   | (with_reducible refine LeO.ite ?_ ?_)
   | (with_reducible refine LeO.bind ?_ (fun _ => ?_))
def cellarref7_Get.T17 : Bool × List (List Nat × List Nat) := (true, [([], []), ([0], [0]), ([1], [1]), ([2], [2]), ([], []), ([4], [4]), ([5], [5]), ([6], [6]), ([3, 7], [3, 7]), ([], []), ([9, 8, 0, 1, 2, 3, 4, 5, 6, 7, 8, 9], [8, 9])])
def cellarref7_Get.B17 : List Nat := [0, 1, 3, 7, 0, 16, 48, 112, 255, 0, 1023]
theorem cellarref7_Get.tab17 : rtab .any (opsOf Try.f22 17) = cellarref7_Get.T17 := by kernel_rfl
theorem cellarref7_Get.bits17 : waitsOk cellarref7_Get.T17.2 cellarref7_Get.B17 = true := by kernel_rfl
set_option maxHeartbeats 8000000 in
set_option maxRecDepth 100000 in
theorem cellarref7_Get.calls (k : Nat) (a0_0 : Bool) (a0_1 : Int) (a1 : Int) (A2 : Option Addr) (c2 : Nat) (l2 : List (S51)) (r1 : Bool) (r2 : Int) (r3 : Int) (r4 : Int) (r5 : Int) (w : World) (hr2 : Kd.C k51 w A2 l2.length l2) (hc2 : l2.length ≤ c2) (h : cellarref7_Get.f k a0_0 a0_1 a1 l2 = some (r1, r2, r3, r4, r5)) :
  Calls Try.prog 22 #[.agg #[.bool a0_0, .int .i64 a0_1], .int .i64 a1, .slice A2 l2.length c2] w fun e w' => e = .returned (.tuple #[.agg #[.bool r1, .int .i64 r2, .int .i64 r3, .int .i64 r4], .int .i64 r5]) ∧ Below w.heap.size w w' := by
 have hu38 := Try.underlying38
 have hu33 := Try.underlying33
 have HR2 := Aside0.mk hr2
 have HC2 := Aside0.mk hc2
 clear hr2 hc2
 have HB := Aside0.mk (Below.refl w.heap.size w)
 have H : (cellarref7_Get.l0 k a1 l2 0 0 a0_0 a0_1) = some (r1, r2, r3, r4, r5) := h
 clear h
 have H' := Aside0.mk H
 clear H
 go_enter Try.func22, Try.ntmps22
 go_wp2_with (first | ((with_reducible refine gate_dst (N := 3) rfl ?_); refine zbox (N := 3) (cs := #[.bool a0_0, .int .i64 a0_1]) (t := 38) ?_; intro gb230 hg w4 hbox hb; have n0_ := Aside0.mk (below_step (zw0 HB.out) hb); have BK230 := Aside0.mk (hbox); have GW230 := Aside0.mk (zg hg (below_size (zw0 HB.out))); have GE230 := GW230; clear HB; have HB := n0_; clear n0_; clear hb hbox hg) | ((with_reducible refine gate_dst (N := 6) rfl ?_); refine zbox (N := 6) (cs := #[.bool false, .int .i64 0, .int .i64 0, .int .i64 0]) (t := 33) ?_; intro gb231 hg w5 hbox hb; have n0_ := Aside0.mk (zbb BK230.out hb); have n1_ := Aside0.mk (below_step (zw1 HB.out GE230.out) hb); have BK231 := Aside0.mk (hbox); have GW231 := Aside0.mk (zg hg (below_size (zw1 HB.out GE230.out))); have GE231 := GW231; have NB230_231 := Aside0.mk (zlt hg BK230.out); have NB231_230 := Aside0.mk (zgt hg BK230.out); clear BK230 HB; have BK230 := n0_; have HB := n1_; clear n0_ n1_; clear hb hbox hg))
 go_loopg [8, 9] k (fun kq v8 v9 w' => ∃ (x8_1 : Int) (x9_1 : Int) (x232000_1 : Bool) (x232001_1 : Int) (x232002_1 : Int) (x232003_1 : Int), v8 = .int .i64 x8_1 ∧ v9 = .int .i64 x9_1 ∧ Aside0 (cellarref7_Get.l0 kq a1 l2 x8_1 x9_1 a0_0 a0_1 = some (r1, r2, r3, r4, r5)) ∧ Aside0 (kq ≤ k) ∧ Aside0 (w'.heap[gb230]? = some (.cells #[.bool a0_0, .int .i64 a0_1] 38 (0, 0))) ∧ Aside0 (w'.heap[gb231]? = some (.cells #[.bool x232000_1, .int .i64 x232001_1, .int .i64 x232002_1, .int .i64 x232003_1] 33 (0, 0))) ∧ Aside0 (Below w.heap.size w w'))
 case atStart => exact ⟨(0), (0), (false), (0), (0), (0), (zr), (zr), H', ⟨Nat.le_refl _⟩, ⟨zb BK230.out⟩, ⟨zb BK231.out⟩, ⟨zw2 HB.out GE230.out GE231.out⟩⟩
 case round =>
  clear H'
  try clear c2; try clear p2
  obtain ⟨x8_1, x9_1, x232000_1, x232001_1, x232002_1, x232003_1, rfl, rfl, HA, HK1, BK230, BK231, HB⟩ := hrel
  cases gk with
  | zero => exact absurd HA.out (by simp [cellarref7_Get.l0])
  | succ k1 =>
   have H := HA.out
   clear HA
   simp only [cellarref7_Get.l0] at H
   by_cases c6 : x9_1 < (l2.length : Int)
   ·rw [if_pos c6] at H
    have c6b0 : decide (x9_1 < (l2.length : Int)) = true := decide_eq_true c6
    clear c6
    by_cases c7 : 0 ≤ x9_1
    rotate_left
    ·rw [if_neg c7] at H
     exact absurd H (by simp)
    rw [if_pos c7] at H
    have c7b0 : decide (0 ≤ x9_1) = true := decide_eq_true c7
    clear c7
    by_cases c8 : ((rd_T51 l2 x9_1).f0) = 0
    ·rw [if_pos c8] at H
     have c8b0 : (((rd_T51 l2 x9_1).f0) == 0) = true := beq_iff_eq.mpr c8
     have c8b1 : (((rd_T51 l2 x9_1).f0) != 0) = false := bne_eq_false_iff_eq.mpr c8
     clear c8
     simp only [Option.some.injEq, Prod.mk.injEq] at H
     obtain ⟨rfl, rfl, rfl, rfl, rfl⟩ := H
     have p232 : 0 ≤ (x9_1 : Int) := zdec
     have q232 : x9_1 < (l2.length : Int) := zdec
     obtain ⟨ad232, e232, hx232_0, hx232_1, hx232_2, hx232_3, hx232_4⟩ := at_T51 HR2.out x9_1 p232 q232
     cases e232
     replace hx232_0 := zh HB.out hx232_0
     replace hx232_1 := zh HB.out hx232_1
     replace hx232_2 := zh HB.out hx232_2
     replace hx232_3 := zh HB.out hx232_3
     replace hx232_4 := zh HB.out hx232_4
     replace p232 := eq_true p232
     replace q232 := eq_true q232
     have hnb9 := NB231_230.out
     have hnc9 := NB230_231.out
     have hcz10_0 := zc BK231.out 0
     have hcz10_1 := zc BK231.out 1
     have hcz10_2 := zc BK231.out 2
     have hcz10_3 := zc BK231.out 3
     have hfz10_0 := blk_frozen BK231.out 0
     have hfz10_1 := blk_frozen BK231.out 1
     have hfz10_2 := blk_frozen BK231.out 2
     have hfz10_3 := blk_frozen BK231.out 3
     go_wp2
     refine bodyPost_ret (results_ct rfl _ _ gb231 33 #[.bool false, .int .i64 0, .int .i64 0, .int .i64 0] (0, 0) _ rfl (by (with_reducible repeat (first | refine blk_drewN ?_ _ | refine blk_drew ?_ | refine blk_alloc ?_ _)); refine blk_put (cs := #[.bool false, .int .i64 0, .int .i64 0, .int .i64 x232003_1]) ?_ 3 _ rfl; (with_reducible repeat (first | refine blk_drewN ?_ _ | refine blk_drew ?_ | refine blk_alloc ?_ _)); refine blk_put (cs := #[.bool false, .int .i64 0, .int .i64 x232002_1, .int .i64 x232003_1]) ?_ 2 _ rfl; (with_reducible repeat (first | refine blk_drewN ?_ _ | refine blk_drew ?_ | refine blk_alloc ?_ _)); refine blk_put (cs := #[.bool false, .int .i64 x232001_1, .int .i64 x232002_1, .int .i64 x232003_1]) ?_ 1 _ rfl; (with_reducible repeat (first | refine blk_drewN ?_ _ | refine blk_drew ?_ | refine blk_alloc ?_ _)); refine blk_put (cs := #[.bool x232000_1, .int .i64 x232001_1, .int .i64 x232002_1, .int .i64 x232003_1]) ?_ 0 _ rfl; (with_reducible repeat (first | refine blk_drewN ?_ _ | refine blk_drew ?_ | refine blk_alloc ?_ _)); exact BK231.out) Try.underlying33 rfl (by kernel_rfl)) rfl ?_
     exact ⟨ze, zw2 HB.out GE230.out GE231.out⟩
    rw [if_neg c8] at H
    have c8b0 : (((rd_T51 l2 x9_1).f0) == 0) = false := beq_eq_false_iff_ne.mpr c8
    have c8b1 : (((rd_T51 l2 x9_1).f0) != 0) = true := bne_iff_ne.mpr c8
    by_cases c11 : ((rd_T51 l2 x9_1).f0) = 2
    rotate_left
    ·rw [if_neg c11] at H
     have c11b0 : (((rd_T51 l2 x9_1).f0) == 2) = false := beq_eq_false_iff_ne.mpr c11
     have c11b1 : (((rd_T51 l2 x9_1).f0) != 2) = true := bne_iff_ne.mpr c11
     have H' := Aside0.mk H
     clear H
     have p232 : 0 ≤ (x9_1 : Int) := zdec
     have q232 : x9_1 < (l2.length : Int) := zdec
     obtain ⟨ad232, e232, hx232_0, hx232_1, hx232_2, hx232_3, hx232_4⟩ := at_T51 HR2.out x9_1 p232 q232
     cases e232
     replace hx232_0 := zh HB.out hx232_0
     replace hx232_1 := zh HB.out hx232_1
     replace hx232_2 := zh HB.out hx232_2
     replace hx232_3 := zh HB.out hx232_3
     replace hx232_4 := zh HB.out hx232_4
     replace p232 := eq_true p232
     replace q232 := eq_true q232
     have p233 : 0 ≤ (x9_1 : Int) := zdec
     have q233 : x9_1 < (l2.length : Int) := zdec
     obtain ⟨ad233, e233, hx233_0, hx233_1, hx233_2, hx233_3, hx233_4⟩ := at_T51 HR2.out x9_1 p233 q233
     obtain rfl : ad232 = ad233 := (by injection e233)
     replace hx233_0 := zh HB.out hx233_0
     replace hx233_1 := zh HB.out hx233_1
     replace hx233_2 := zh HB.out hx233_2
     replace hx233_3 := zh HB.out hx233_3
     replace hx233_4 := zh HB.out hx233_4
     replace p233 := eq_true p233
     replace q233 := eq_true q233
     go_wp2
     go_roundg k1
     case measure => have := HK1.out; omega
     case rel => exact ⟨(x8_1), (wrap64 (x9_1 + 1)), (x232000_1), (x232001_1), (x232002_1), (x232003_1), (zr), (zr), H', ⟨by have := HK1.out; omega⟩, ⟨zb BK230.out⟩, ⟨zb BK231.out⟩, ⟨zw2 HB.out GE230.out GE231.out⟩⟩
    rw [if_pos c11] at H
    have c11b0 : (((rd_T51 l2 x9_1).f0) == 2) = true := beq_iff_eq.mpr c11
    have c11b1 : (((rd_T51 l2 x9_1).f0) != 2) = false := bne_eq_false_iff_eq.mpr c11
    clear c11
    have H' := Aside0.mk H
    clear H
    have p232 : 0 ≤ (x9_1 : Int) := zdec
    have q232 : x9_1 < (l2.length : Int) := zdec
    obtain ⟨ad232, e232, hx232_0, hx232_1, hx232_2, hx232_3, hx232_4⟩ := at_T51 HR2.out x9_1 p232 q232
    cases e232
    replace hx232_0 := zh HB.out hx232_0
    replace hx232_1 := zh HB.out hx232_1
    replace hx232_2 := zh HB.out hx232_2
    replace hx232_3 := zh HB.out hx232_3
    replace hx232_4 := zh HB.out hx232_4
    replace p232 := eq_true p232
    replace q232 := eq_true q232
    have p233 : 0 ≤ (x9_1 : Int) := zdec
    have q233 : x9_1 < (l2.length : Int) := zdec
    obtain ⟨ad233, e233, hx233_0, hx233_1, hx233_2, hx233_3, hx233_4⟩ := at_T51 HR2.out x9_1 p233 q233
    obtain rfl : ad232 = ad233 := (by injection e233)
    replace hx233_0 := zh HB.out hx233_0
    replace hx233_1 := zh HB.out hx233_1
    replace hx233_2 := zh HB.out hx233_2
    replace hx233_3 := zh HB.out hx233_3
    replace hx233_4 := zh HB.out hx233_4
    replace p233 := eq_true p233
    replace q233 := eq_true q233
    go_wp2
    go_roundg k1
    case measure => have := HK1.out; omega
    case rel => exact ⟨(wrap64 (x8_1 + 1)), (wrap64 (x9_1 + 1)), (x232000_1), (x232001_1), (x232002_1), (x232003_1), (zr), (zr), H', ⟨by have := HK1.out; omega⟩, ⟨zb BK230.out⟩, ⟨zb BK231.out⟩, ⟨zw2 HB.out GE230.out GE231.out⟩⟩
   ·rw [if_neg c6] at H
    have c6b0 : decide (x9_1 < (l2.length : Int)) = false := decide_eq_false c6
    clear c6
    by_cases c12 : a1 = 7
    ·rw [if_pos c12] at H
     have c12b0 : (a1 == 7) = true := beq_iff_eq.mpr c12
     have c12b1 : (a1 != 7) = false := bne_eq_false_iff_eq.mpr c12
     clear c12
     by_cases c13 : x8_1 = 0
     ·rw [if_pos c13] at H
      have c13b0 : (x8_1 == 0) = true := beq_iff_eq.mpr c13
      have c13b1 : (x8_1 != 0) = false := bne_eq_false_iff_eq.mpr c13
      clear c13
      have H' := Aside0.mk H
      clear H
      go_wp2
      go_loopg [10] k1 (fun kq v10 w' => ∃ (x10_2 : Int) (x232000_2 : Bool) (x232001_2 : Int) (x232002_2 : Int) (x232003_2 : Int), v10 = .int .i64 x10_2 ∧ Aside0 (cellarref7_Get.l1 kq l2 x10_2 = some (r1, r2, r3, r4, r5)) ∧ Aside0 (kq ≤ k1) ∧ Aside0 (w'.heap[gb230]? = some (.cells #[.bool a0_0, .int .i64 a0_1] 38 (0, 0))) ∧ Aside0 (w'.heap[gb231]? = some (.cells #[.bool x232000_2, .int .i64 x232001_2, .int .i64 x232002_2, .int .i64 x232003_2] 33 (0, 0))) ∧ Aside0 (Below w.heap.size w w'))
      case atStart => exact ⟨(0), (x232000_1), (x232001_1), (x232002_1), (x232003_1), (zr), H', ⟨Nat.le_refl _⟩, ⟨zb BK230.out⟩, ⟨zb BK231.out⟩, ⟨zw2 HB.out GE230.out GE231.out⟩⟩
      case round =>
       clear H'
       try clear c1; try clear c2; try clear p2; try clear q2; try clear c6; try clear c6b0; try clear p6; try clear c7; try clear c7b0; try clear c8; try clear c8b0; try clear c8b1; try clear c9; try clear c11; try clear c11b0; try clear c11b1; try clear c12; try clear c12b0; try clear c12b1; try clear c13; try clear c13b0; try clear c13b1; try clear p2; try clear p232; try clear p233; try clear q232; try clear q233
       obtain ⟨x10_2, x232000_2, x232001_2, x232002_2, x232003_2, rfl, HA, HK2, BK230, BK231, HB⟩ := hrel
       cases gk with
       | zero => exact absurd HA.out (by simp [cellarref7_Get.l1])
       | succ k2 =>
        have H := HA.out
        clear HA
        simp only [cellarref7_Get.l1] at H
        by_cases c14 : x10_2 < (l2.length : Int)
        rotate_left
        ·rw [if_neg c14] at H
         have c14b0 : decide (x10_2 < (l2.length : Int)) = false := decide_eq_false c14
         clear c14
         simp only [Option.some.injEq, Prod.mk.injEq] at H
         obtain ⟨rfl, rfl, rfl, rfl, rfl⟩ := H
         have hnb19 := NB231_230.out
         have hnc19 := NB230_231.out
         have hcz20_0 := zc BK231.out 0
         have hcz20_1 := zc BK231.out 1
         have hcz20_2 := zc BK231.out 2
         have hcz20_3 := zc BK231.out 3
         have hfz20_0 := blk_frozen BK231.out 0
         have hfz20_1 := blk_frozen BK231.out 1
         have hfz20_2 := blk_frozen BK231.out 2
         have hfz20_3 := blk_frozen BK231.out 3
         go_wp2
         refine bodyPost_ret (results_ct rfl _ _ gb231 33 #[.bool true, .int .i64 0, .int .i64 0, .int .i64 0] (0, 0) _ rfl (by (with_reducible repeat (first | refine blk_drewN ?_ _ | refine blk_drew ?_ | refine blk_alloc ?_ _)); refine blk_put (cs := #[.bool true, .int .i64 0, .int .i64 0, .int .i64 x232003_2]) ?_ 3 _ rfl; (with_reducible repeat (first | refine blk_drewN ?_ _ | refine blk_drew ?_ | refine blk_alloc ?_ _)); refine blk_put (cs := #[.bool true, .int .i64 0, .int .i64 x232002_2, .int .i64 x232003_2]) ?_ 2 _ rfl; (with_reducible repeat (first | refine blk_drewN ?_ _ | refine blk_drew ?_ | refine blk_alloc ?_ _)); refine blk_put (cs := #[.bool true, .int .i64 x232001_2, .int .i64 x232002_2, .int .i64 x232003_2]) ?_ 1 _ rfl; (with_reducible repeat (first | refine blk_drewN ?_ _ | refine blk_drew ?_ | refine blk_alloc ?_ _)); refine blk_put (cs := #[.bool x232000_2, .int .i64 x232001_2, .int .i64 x232002_2, .int .i64 x232003_2]) ?_ 0 _ rfl; (with_reducible repeat (first | refine blk_drewN ?_ _ | refine blk_drew ?_ | refine blk_alloc ?_ _)); exact BK231.out) Try.underlying33 rfl (by kernel_rfl)) rfl ?_
         exact ⟨ze, zw2 HB.out GE230.out GE231.out⟩
        rw [if_pos c14] at H
        have c14b0 : decide (x10_2 < (l2.length : Int)) = true := decide_eq_true c14
        clear c14
        by_cases c15 : 0 ≤ x10_2
        rotate_left
        ·rw [if_neg c15] at H
         exact absurd H (by simp)
        rw [if_pos c15] at H
        have c15b0 : decide (0 ≤ x10_2) = true := decide_eq_true c15
        clear c15
        by_cases c16 : ((rd_T51 l2 x10_2).f1) = 0
        ·rw [if_pos c16] at H
         have c16b0 : (((rd_T51 l2 x10_2).f1) == 0) = true := beq_iff_eq.mpr c16
         have c16b1 : (((rd_T51 l2 x10_2).f1) != 0) = false := bne_eq_false_iff_eq.mpr c16
         clear c16
         have H' := Aside0.mk H
         clear H
         have p234 : 0 ≤ (x10_2 : Int) := zdec
         have q234 : x10_2 < (l2.length : Int) := zdec
         obtain ⟨ad234, e234, hx234_0, hx234_1, hx234_2, hx234_3, hx234_4⟩ := at_T51 HR2.out x10_2 p234 q234
         cases e234
         replace hx234_0 := zh HB.out hx234_0
         replace hx234_1 := zh HB.out hx234_1
         replace hx234_2 := zh HB.out hx234_2
         replace hx234_3 := zh HB.out hx234_3
         replace hx234_4 := zh HB.out hx234_4
         replace p234 := eq_true p234
         replace q234 := eq_true q234
         go_wp2
         go_roundg k2
         case measure => have := HK1.out; have := HK2.out; omega
         case rel => exact ⟨(wrap64 (x10_2 + 1)), (x232000_2), (x232001_2), (x232002_2), (x232003_2), (zr), H', ⟨by have := HK1.out; have := HK2.out; omega⟩, ⟨zb BK230.out⟩, ⟨zb BK231.out⟩, ⟨zw2 HB.out GE230.out GE231.out⟩⟩
        rw [if_neg c16] at H
        have c16b0 : (((rd_T51 l2 x10_2).f1) == 0) = false := beq_eq_false_iff_ne.mpr c16
        have c16b1 : (((rd_T51 l2 x10_2).f1) != 0) = true := bne_iff_ne.mpr c16
        simp only [Option.some.injEq, Prod.mk.injEq] at H
        obtain ⟨rfl, rfl, rfl, rfl, rfl⟩ := H
        have p234 : 0 ≤ (x10_2 : Int) := zdec
        have q234 : x10_2 < (l2.length : Int) := zdec
        obtain ⟨ad234, e234, hx234_0, hx234_1, hx234_2, hx234_3, hx234_4⟩ := at_T51 HR2.out x10_2 p234 q234
        cases e234
        replace hx234_0 := zh HB.out hx234_0
        replace hx234_1 := zh HB.out hx234_1
        replace hx234_2 := zh HB.out hx234_2
        replace hx234_3 := zh HB.out hx234_3
        replace hx234_4 := zh HB.out hx234_4
        replace p234 := eq_true p234
        replace q234 := eq_true q234
        have hnb17 := NB231_230.out
        have hnc17 := NB230_231.out
        have hcz18_0 := zc BK231.out 0
        have hcz18_1 := zc BK231.out 1
        have hcz18_2 := zc BK231.out 2
        have hcz18_3 := zc BK231.out 3
        have hfz18_0 := blk_frozen BK231.out 0
        have hfz18_1 := blk_frozen BK231.out 1
        have hfz18_2 := blk_frozen BK231.out 2
        have hfz18_3 := blk_frozen BK231.out 3
        go_wp2
        refine bodyPost_ret (results_ct rfl _ _ gb231 33 #[.bool false, .int .i64 0, .int .i64 0, .int .i64 0] (0, 0) _ rfl (by (with_reducible repeat (first | refine blk_drewN ?_ _ | refine blk_drew ?_ | refine blk_alloc ?_ _)); refine blk_put (cs := #[.bool false, .int .i64 0, .int .i64 0, .int .i64 x232003_2]) ?_ 3 _ rfl; (with_reducible repeat (first | refine blk_drewN ?_ _ | refine blk_drew ?_ | refine blk_alloc ?_ _)); refine blk_put (cs := #[.bool false, .int .i64 0, .int .i64 x232002_2, .int .i64 x232003_2]) ?_ 2 _ rfl; (with_reducible repeat (first | refine blk_drewN ?_ _ | refine blk_drew ?_ | refine blk_alloc ?_ _)); refine blk_put (cs := #[.bool false, .int .i64 x232001_2, .int .i64 x232002_2, .int .i64 x232003_2]) ?_ 1 _ rfl; (with_reducible repeat (first | refine blk_drewN ?_ _ | refine blk_drew ?_ | refine blk_alloc ?_ _)); refine blk_put (cs := #[.bool x232000_2, .int .i64 x232001_2, .int .i64 x232002_2, .int .i64 x232003_2]) ?_ 0 _ rfl; (with_reducible repeat (first | refine blk_drewN ?_ _ | refine blk_drew ?_ | refine blk_alloc ?_ _)); exact BK231.out) Try.underlying33 rfl (by kernel_rfl)) rfl ?_
        exact ⟨ze, zw2 HB.out GE230.out GE231.out⟩
     rw [if_neg c13] at H
     have c13b0 : (x8_1 == 0) = false := beq_eq_false_iff_ne.mpr c13
     have c13b1 : (x8_1 != 0) = true := bne_iff_ne.mpr c13
     by_cases c21 : 0 < (l2.length : Int)
     rotate_left
     ·rw [if_neg c21] at H
      exact absurd H (by simp)
     rw [if_pos c21] at H
     have c21b0 : decide (0 < (l2.length : Int)) = true := decide_eq_true c21
     have c21b1 : decide (0 < l2.length) = true := decide_eq_true (by omega)
     clear c21
     by_cases c22 : ((rd_T51 l2 0).f0) = 2
     rotate_left
     ·rw [if_neg c22] at H
      have c22b0 : (((rd_T51 l2 0).f0) == 2) = false := beq_eq_false_iff_ne.mpr c22
      have c22b1 : (((rd_T51 l2 0).f0) != 2) = true := bne_iff_ne.mpr c22
      simp only [Option.some.injEq, Prod.mk.injEq] at H
      obtain ⟨rfl, rfl, rfl, rfl, rfl⟩ := H
      try go_wp2
      have n0_ := Aside0.mk (blk_drew BK230.out)
      have n1_ := Aside0.mk (blk_drew BK231.out)
      have n2_ := Aside0.mk (below_drew1 HB.out)
      clear BK230
      clear BK231
      clear HB
      have BK230 := n0_
      have BK231 := n1_
      have HB := n2_
      clear n0_ n1_ n2_
      have p235 : 0 ≤ (0 : Int) := (by omega)
      have q235 : 0 < (l2.length : Int) := zdec
      obtain ⟨ad235, e235, hx235_0, hx235_1, hx235_2, hx235_3, hx235_4⟩ := at_T51 HR2.out 0 p235 q235
      have hw235_4 := hx235_4
      (try rw [show ((0 : Int)).toNat = 0 from rfl] at hw235_4)
      (try rw [show 0 * 5 = 0 from rfl] at hw235_4)
      (try rw [Addr.add_zero'] at hw235_4)
      have hw235_3 := hx235_3
      (try rw [show ((0 : Int)).toNat = 0 from rfl] at hw235_3)
      (try rw [show 0 * 5 = 0 from rfl] at hw235_3)
      (try rw [Addr.add_zero'] at hw235_3)
      have hw235_2 := hx235_2
      (try rw [show ((0 : Int)).toNat = 0 from rfl] at hw235_2)
      (try rw [show 0 * 5 = 0 from rfl] at hw235_2)
      (try rw [Addr.add_zero'] at hw235_2)
      have hw235_1 := hx235_1
      (try rw [show ((0 : Int)).toNat = 0 from rfl] at hw235_1)
      (try rw [show 0 * 5 = 0 from rfl] at hw235_1)
      (try rw [Addr.add_zero'] at hw235_1)
      have hw235_0 := hx235_0
      (try rw [show ((0 : Int)).toNat = 0 from rfl] at hw235_0)
      (try rw [show 0 * 5 = 0 from rfl] at hw235_0)
      (try rw [Addr.add_zero'] at hw235_0)
      cases e235
      have qi235 : (0 < l2.length) = True := eq_true (by omega)
      (try rw [show ((0 : Int)).toNat = 0 from rfl] at hx235_0)
      (try rw [show 0 * 5 = 0 from rfl] at hx235_0)
      (try rw [Addr.add_zero'] at hx235_0)
      (try rw [show ((0 : Int)).toNat = 0 from rfl] at hx235_1)
      (try rw [show 0 * 5 = 0 from rfl] at hx235_1)
      (try rw [Addr.add_zero'] at hx235_1)
      (try rw [show ((0 : Int)).toNat = 0 from rfl] at hx235_2)
      (try rw [show 0 * 5 = 0 from rfl] at hx235_2)
      (try rw [Addr.add_zero'] at hx235_2)
      (try rw [show ((0 : Int)).toNat = 0 from rfl] at hx235_3)
      (try rw [show 0 * 5 = 0 from rfl] at hx235_3)
      (try rw [Addr.add_zero'] at hx235_3)
      (try rw [show ((0 : Int)).toNat = 0 from rfl] at hx235_4)
      (try rw [show 0 * 5 = 0 from rfl] at hx235_4)
      (try rw [Addr.add_zero'] at hx235_4)
      replace hx235_0 := zh HB.out hx235_0
      replace hx235_1 := zh HB.out hx235_1
      replace hx235_2 := zh HB.out hx235_2
      replace hx235_3 := zh HB.out hx235_3
      replace hx235_4 := zh HB.out hx235_4
      replace p235 := eq_true p235
      replace q235 := eq_true q235
      have p236 : 0 ≤ (0 : Int) := (by omega)
      have q236 : 0 < (l2.length : Int) := zdec
      obtain ⟨ad236, e236, hx236_0, hx236_1, hx236_2, hx236_3, hx236_4⟩ := at_T51 HR2.out 0 p236 q236
      have hw236_4 := hx236_4
      (try rw [show ((0 : Int)).toNat = 0 from rfl] at hw236_4)
      (try rw [show 0 * 5 = 0 from rfl] at hw236_4)
      (try rw [Addr.add_zero'] at hw236_4)
      have hw236_3 := hx236_3
      (try rw [show ((0 : Int)).toNat = 0 from rfl] at hw236_3)
      (try rw [show 0 * 5 = 0 from rfl] at hw236_3)
      (try rw [Addr.add_zero'] at hw236_3)
      have hw236_2 := hx236_2
      (try rw [show ((0 : Int)).toNat = 0 from rfl] at hw236_2)
      (try rw [show 0 * 5 = 0 from rfl] at hw236_2)
      (try rw [Addr.add_zero'] at hw236_2)
      have hw236_1 := hx236_1
      (try rw [show ((0 : Int)).toNat = 0 from rfl] at hw236_1)
      (try rw [show 0 * 5 = 0 from rfl] at hw236_1)
      (try rw [Addr.add_zero'] at hw236_1)
      have hw236_0 := hx236_0
      (try rw [show ((0 : Int)).toNat = 0 from rfl] at hw236_0)
      (try rw [show 0 * 5 = 0 from rfl] at hw236_0)
      (try rw [Addr.add_zero'] at hw236_0)
      obtain rfl : ad235 = ad236 := (by injection e236)
      have qi236 : (0 < l2.length) = True := eq_true (by omega)
      (try rw [show ((0 : Int)).toNat = 0 from rfl] at hx236_0)
      (try rw [show 0 * 5 = 0 from rfl] at hx236_0)
      (try rw [Addr.add_zero'] at hx236_0)
      (try rw [show ((0 : Int)).toNat = 0 from rfl] at hx236_1)
      (try rw [show 0 * 5 = 0 from rfl] at hx236_1)
      (try rw [Addr.add_zero'] at hx236_1)
      (try rw [show ((0 : Int)).toNat = 0 from rfl] at hx236_2)
      (try rw [show 0 * 5 = 0 from rfl] at hx236_2)
      (try rw [Addr.add_zero'] at hx236_2)
      (try rw [show ((0 : Int)).toNat = 0 from rfl] at hx236_3)
      (try rw [show 0 * 5 = 0 from rfl] at hx236_3)
      (try rw [Addr.add_zero'] at hx236_3)
      (try rw [show ((0 : Int)).toNat = 0 from rfl] at hx236_4)
      (try rw [show 0 * 5 = 0 from rfl] at hx236_4)
      (try rw [Addr.add_zero'] at hx236_4)
      replace hx236_0 := zh HB.out hx236_0
      replace hx236_1 := zh HB.out hx236_1
      replace hx236_2 := zh HB.out hx236_2
      replace hx236_3 := zh HB.out hx236_3
      replace hx236_4 := zh HB.out hx236_4
      replace p236 := eq_true p236
      replace q236 := eq_true q236
      refine start_ (n := 11) (S := fun w' => w'.cell? ad235 = some (.int .i64 ((rd_T51 l2 0).f0)) ∧ w'.cell? ⟨ad235.block, ad235.off + 1, none⟩ = some (.int .i64 ((rd_T51 l2 0).f1)) ∧ w'.cell? ⟨ad235.block, ad235.off + 2, none⟩ = some (.int .i64 ((rd_T51 l2 0).f2)) ∧ w'.cell? ⟨ad235.block, ad235.off + 3, none⟩ = some (.int .i64 ((rd_T51 l2 0).f3)) ∧ w'.cell? ⟨ad235.block, ad235.off + 4, none⟩ = some (.int .i64 ((rd_T51 l2 0).f4)) ∧ w'.cell? ad235 = some (.int .i64 ((rd_T51 l2 0).f0)) ∧ w'.cell? ⟨ad235.block, ad235.off + 1, none⟩ = some (.int .i64 ((rd_T51 l2 0).f1)) ∧ w'.cell? ⟨ad235.block, ad235.off + 2, none⟩ = some (.int .i64 ((rd_T51 l2 0).f2)) ∧ w'.cell? ⟨ad235.block, ad235.off + 3, none⟩ = some (.int .i64 ((rd_T51 l2 0).f3)) ∧ w'.cell? ⟨ad235.block, ad235.off + 4, none⟩ = some (.int .i64 ((rd_T51 l2 0).f4))) (ds := []) #[false,false,false,false,false,false,false,false,false,false,false] (by kernel_rfl) rfl rfl ⟨((HB.out.cell (World.block_lt_of_cell? w _ hw235_0)).trans hw235_0), ((HB.out.cell (World.block_lt_of_cell? w _ hw235_1)).trans hw235_1), ((HB.out.cell (World.block_lt_of_cell? w _ hw235_2)).trans hw235_2), ((HB.out.cell (World.block_lt_of_cell? w _ hw235_3)).trans hw235_3), ((HB.out.cell (World.block_lt_of_cell? w _ hw235_4)).trans hw235_4), ((HB.out.cell (World.block_lt_of_cell? w _ hw236_0)).trans hw236_0), ((HB.out.cell (World.block_lt_of_cell? w _ hw236_1)).trans hw236_1), ((HB.out.cell (World.block_lt_of_cell? w _ hw236_2)).trans hw236_2), ((HB.out.cell (World.block_lt_of_cell? w _ hw236_3)).trans hw236_3), ((HB.out.cell (World.block_lt_of_cell? w _ hw236_4)).trans hw236_4)⟩ (fun hHeld => ?_); refine with_tabW cellarref7_Get.tab17 cellarref7_Get.bits17 (fun HT_ HW_ => ?_)
      generalize wr.drew = w55 at BK230 BK231 HB hx235_0 hx235_1 hx235_2 hx235_3 hx235_4 hx236_0 hx236_1 hx236_2 hx236_3 hx236_4 hHeld ⊢
      refine zp (i := 0) (N := some 54) #[true,false,false,false,false,false,false,false,false,false,false] (any_of HT_.out (by kernel_rfl)) ?_
      refine zp (i := 1) (N := some 55) #[true,true,false,false,false,false,false,false,false,false,false] (any_of HT_.out (by kernel_rfl)) ?_
      refine zp (i := 2) (N := some 56) #[true,true,true,false,false,false,false,false,false,false,false] (any_of HT_.out (by kernel_rfl)) ?_
      refine zp (i := 4) (N := some 58) #[true,true,true,false,true,false,false,false,false,false,false] (any_of HT_.out (by kernel_rfl)) ?_
      refine zp (i := 5) (N := some 59) #[true,true,true,false,true,true,false,false,false,false,false] (any_of HT_.out (by kernel_rfl)) ?_
      refine zp (i := 6) (N := some 60) #[true,true,true,false,true,true,true,false,false,false,false] (any_of HT_.out (by kernel_rfl)) ?_
      refine take_ (i := 3) (N := some 57) (v := ?_) (a' := ?_) #[true,true,true,true,true,true,true,false,false,false,false] rfl rfl (take_ofW HT_.out HW_.out (by kernel_rfl)) (fun _ _ _ h => h) (Or.inl ⟨by rfl, ?_⟩) hHeld ?_ ?_
      rotate_left
      ·rintro w' ⟨s0, s1, s2, s3, s4, s5, s6, s7, s8, s9⟩
       go_simp
       with_reducible rfl
      rotate_left
      ·simp only [Act.put, List.setIfInBounds_toArray, List.set_cons_zero, List.set_cons_succ, i64_w, i32_w]
       rfl
      refine take_ (i := 7) (N := some 61) (v := ?_) (a' := ?_) #[true,true,true,true,true,true,true,true,false,false,false] rfl rfl (take_ofW HT_.out HW_.out (by kernel_rfl)) (fun _ _ _ h => h) (Or.inl ⟨by rfl, ?_⟩) hHeld ?_ ?_
      rotate_left
      ·rintro w' ⟨s0, s1, s2, s3, s4, s5, s6, s7, s8, s9⟩
       go_simp
       with_reducible rfl
      rotate_left
      ·simp only [Act.put, List.setIfInBounds_toArray, List.set_cons_zero, List.set_cons_succ, i64_w, i32_w]
       rfl
      refine zp (i := 8) (N := some 62) #[true,true,true,true,true,true,true,true,true,false,false] (any_of HT_.out (by kernel_rfl)) ?_
      refine one_ (i := 9) (N := some 11) #[true,true,true,true,true,true,true,true,true,true,false] rfl rfl (one_of HT_.out (by kernel_rfl)) (by decide) (fun K hK => ?_)
      refine box_step ?hg (N := 11) ?hd (cs := #[.bool false, .int .i64 0, .int .i64 0, .int .i64 0]) (t := 33) ?hr ?_; (case hd => rfl); (case hg => rfl); (case hr => first | (go_simp; done) | (go_simp; rfl))
      intro gb237 hg w56 hbox hb
      have n0_ := Aside0.mk (zbb BK230.out hb)
      have n1_ := Aside0.mk (zbb BK231.out hb)
      have n2_ := Aside0.mk (below_step (zw2 HB.out GE230.out GE231.out) hb)
      have n3_ := Aside0.mk (hbox)
      have n4_ := Aside0.mk (zg hg (below_size (zw2 HB.out GE230.out GE231.out)))
      have n5_ := Aside0.mk (zg hg (below_size (zw2 HB.out GE230.out GE231.out)))
      have n6_ := Aside0.mk (zlt hg BK230.out)
      have n7_ := Aside0.mk (zgt hg BK230.out)
      have n8_ := Aside0.mk (zlt hg BK231.out)
      have n9_ := Aside0.mk (zgt hg BK231.out)
      clear BK230
      clear BK231
      clear HB
      have BK230 := n0_
      have BK231 := n1_
      have HB := n2_
      have BK237 := n3_
      have GW237 := n4_
      have GE237 := n5_
      have NB230_237 := n6_
      have NB237_230 := n7_
      have NB231_237 := n8_
      have NB237_231 := n9_
      clear n0_ n1_ n2_ n3_ n4_ n5_ n6_ n7_ n8_ n9_
      clear hb hbox hg
      refine hK.out _ _ ⟨((HB.out.cell (World.block_lt_of_cell? w _ hw235_0)).trans hw235_0), ((HB.out.cell (World.block_lt_of_cell? w _ hw235_1)).trans hw235_1), ((HB.out.cell (World.block_lt_of_cell? w _ hw235_2)).trans hw235_2), ((HB.out.cell (World.block_lt_of_cell? w _ hw235_3)).trans hw235_3), ((HB.out.cell (World.block_lt_of_cell? w _ hw235_4)).trans hw235_4), ((HB.out.cell (World.block_lt_of_cell? w _ hw236_0)).trans hw236_0), ((HB.out.cell (World.block_lt_of_cell? w _ hw236_1)).trans hw236_1), ((HB.out.cell (World.block_lt_of_cell? w _ hw236_2)).trans hw236_2), ((HB.out.cell (World.block_lt_of_cell? w _ hw236_3)).trans hw236_3), ((HB.out.cell (World.block_lt_of_cell? w _ hw236_4)).trans hw236_4)⟩ (fun hHeld => ?_)
      clear hK K
      refine norm_ (a' := ?_) ?_ ?_
      rotate_left
      ·show Act.put _ (some 11) _ = _
       simp only [Act.put, List.setIfInBounds_toArray, List.set_cons_zero, List.set_cons_succ, i64_w, i32_w]
       rfl
      refine one_ (i := 10) (N := none) #[true,true,true,true,true,true,true,true,true,true,true] rfl rfl (one_of HT_.out (by kernel_rfl)) (by decide) (fun K hK => ?_)
      have hs57 : w56.cell? ⟨gb237, 0, none⟩ = some (.bool false) := (blk_cell BK237.out 0).trans rfl
      have hfs57 := blk_frozen BK237.out 0
      have hns57_0 := NB230_237.out
      have hns57_1 := NB231_237.out
      have hms57_0 := NB237_230.out
      have hms57_1 := NB237_231.out
      have hs58 : w56.cell? ⟨gb237, 1, none⟩ = some (.int .i64 0) := (blk_cell BK237.out 1).trans rfl
      have hfs58 := blk_frozen BK237.out 1
      have hns58_0 := NB230_237.out
      have hns58_1 := NB231_237.out
      have hms58_0 := NB237_230.out
      have hms58_1 := NB237_231.out
      have hs59 : w56.cell? ⟨gb237, 2, none⟩ = some (.int .i64 0) := (blk_cell BK237.out 2).trans rfl
      have hfs59 := blk_frozen BK237.out 2
      have hns59_0 := NB230_237.out
      have hns59_1 := NB231_237.out
      have hms59_0 := NB237_230.out
      have hms59_1 := NB237_231.out
      have hs60 : w56.cell? ⟨gb237, 3, none⟩ = some (.int .i64 0) := (blk_cell BK237.out 3).trans rfl
      have hfs60 := blk_frozen BK237.out 3
      have hns60_0 := NB230_237.out
      have hns60_1 := NB231_237.out
      have hms60_0 := NB237_230.out
      have hms60_1 := NB237_231.out
      refine skip_ (w1 := ?_) (by rfl) rfl ?_ ?_
      rotate_left
      ·go_simp
       rfl
      refine hK.out _ _ ⟨((cell_far (p := ⟨gb237, _, none⟩) (zx (zfar hw235_0 GW237.out)) _).trans (((cell_far (p := ⟨gb237, _, none⟩) (zx (zfar hw235_0 GW237.out)) _).trans (((cell_far (p := ⟨gb237, _, none⟩) (zx (zfar hw235_0 GW237.out)) _).trans (((cell_far (p := ⟨gb237, _, none⟩) (zx (zfar hw235_0 GW237.out)) _).trans (hHeld.1)))))))), ((cell_far (p := ⟨gb237, _, none⟩) (zx (zfar hw235_1 GW237.out)) _).trans (((cell_far (p := ⟨gb237, _, none⟩) (zx (zfar hw235_1 GW237.out)) _).trans (((cell_far (p := ⟨gb237, _, none⟩) (zx (zfar hw235_1 GW237.out)) _).trans (((cell_far (p := ⟨gb237, _, none⟩) (zx (zfar hw235_1 GW237.out)) _).trans (hHeld.2.1)))))))), ((cell_far (p := ⟨gb237, _, none⟩) (zx (zfar hw235_2 GW237.out)) _).trans (((cell_far (p := ⟨gb237, _, none⟩) (zx (zfar hw235_2 GW237.out)) _).trans (((cell_far (p := ⟨gb237, _, none⟩) (zx (zfar hw235_2 GW237.out)) _).trans (((cell_far (p := ⟨gb237, _, none⟩) (zx (zfar hw235_2 GW237.out)) _).trans (hHeld.2.2.1)))))))), ((cell_far (p := ⟨gb237, _, none⟩) (zx (zfar hw235_3 GW237.out)) _).trans (((cell_far (p := ⟨gb237, _, none⟩) (zx (zfar hw235_3 GW237.out)) _).trans (((cell_far (p := ⟨gb237, _, none⟩) (zx (zfar hw235_3 GW237.out)) _).trans (((cell_far (p := ⟨gb237, _, none⟩) (zx (zfar hw235_3 GW237.out)) _).trans (hHeld.2.2.2.1)))))))), ((cell_far (p := ⟨gb237, _, none⟩) (zx (zfar hw235_4 GW237.out)) _).trans (((cell_far (p := ⟨gb237, _, none⟩) (zx (zfar hw235_4 GW237.out)) _).trans (((cell_far (p := ⟨gb237, _, none⟩) (zx (zfar hw235_4 GW237.out)) _).trans (((cell_far (p := ⟨gb237, _, none⟩) (zx (zfar hw235_4 GW237.out)) _).trans (hHeld.2.2.2.2.1)))))))), ((cell_far (p := ⟨gb237, _, none⟩) (zx (zfar hw236_0 GW237.out)) _).trans (((cell_far (p := ⟨gb237, _, none⟩) (zx (zfar hw236_0 GW237.out)) _).trans (((cell_far (p := ⟨gb237, _, none⟩) (zx (zfar hw236_0 GW237.out)) _).trans (((cell_far (p := ⟨gb237, _, none⟩) (zx (zfar hw236_0 GW237.out)) _).trans (hHeld.2.2.2.2.2.1)))))))), ((cell_far (p := ⟨gb237, _, none⟩) (zx (zfar hw236_1 GW237.out)) _).trans (((cell_far (p := ⟨gb237, _, none⟩) (zx (zfar hw236_1 GW237.out)) _).trans (((cell_far (p := ⟨gb237, _, none⟩) (zx (zfar hw236_1 GW237.out)) _).trans (((cell_far (p := ⟨gb237, _, none⟩) (zx (zfar hw236_1 GW237.out)) _).trans (hHeld.2.2.2.2.2.2.1)))))))), ((cell_far (p := ⟨gb237, _, none⟩) (zx (zfar hw236_2 GW237.out)) _).trans (((cell_far (p := ⟨gb237, _, none⟩) (zx (zfar hw236_2 GW237.out)) _).trans (((cell_far (p := ⟨gb237, _, none⟩) (zx (zfar hw236_2 GW237.out)) _).trans (((cell_far (p := ⟨gb237, _, none⟩) (zx (zfar hw236_2 GW237.out)) _).trans (hHeld.2.2.2.2.2.2.2.1)))))))), ((cell_far (p := ⟨gb237, _, none⟩) (zx (zfar hw236_3 GW237.out)) _).trans (((cell_far (p := ⟨gb237, _, none⟩) (zx (zfar hw236_3 GW237.out)) _).trans (((cell_far (p := ⟨gb237, _, none⟩) (zx (zfar hw236_3 GW237.out)) _).trans (((cell_far (p := ⟨gb237, _, none⟩) (zx (zfar hw236_3 GW237.out)) _).trans (hHeld.2.2.2.2.2.2.2.2.1)))))))), ((cell_far (p := ⟨gb237, _, none⟩) (zx (zfar hw236_4 GW237.out)) _).trans (((cell_far (p := ⟨gb237, _, none⟩) (zx (zfar hw236_4 GW237.out)) _).trans (((cell_far (p := ⟨gb237, _, none⟩) (zx (zfar hw236_4 GW237.out)) _).trans (((cell_far (p := ⟨gb237, _, none⟩) (zx (zfar hw236_4 GW237.out)) _).trans (hHeld.2.2.2.2.2.2.2.2.2))))))))⟩ (fun hHeld => ?_)
      clear hK K
      refine done_ (done_of HT_.out (by kernel_rfl)) ?_
      have p238 : 0 ≤ (0 : Int) := (by omega)
      have q238 : 0 < (l2.length : Int) := zdec
      obtain ⟨ad238, e238, hx238_0, hx238_1, hx238_2, hx238_3, hx238_4⟩ := at_T51 HR2.out 0 p238 q238
      obtain rfl : ad235 = ad238 := (by injection e238)
      have qi238 : (0 < l2.length) = True := eq_true (by omega)
      (try rw [show ((0 : Int)).toNat = 0 from rfl] at hx238_0)
      (try rw [show 0 * 5 = 0 from rfl] at hx238_0)
      (try rw [Addr.add_zero'] at hx238_0)
      (try rw [show ((0 : Int)).toNat = 0 from rfl] at hx238_1)
      (try rw [show 0 * 5 = 0 from rfl] at hx238_1)
      (try rw [Addr.add_zero'] at hx238_1)
      (try rw [show ((0 : Int)).toNat = 0 from rfl] at hx238_2)
      (try rw [show 0 * 5 = 0 from rfl] at hx238_2)
      (try rw [Addr.add_zero'] at hx238_2)
      (try rw [show ((0 : Int)).toNat = 0 from rfl] at hx238_3)
      (try rw [show 0 * 5 = 0 from rfl] at hx238_3)
      (try rw [Addr.add_zero'] at hx238_3)
      (try rw [show ((0 : Int)).toNat = 0 from rfl] at hx238_4)
      (try rw [show 0 * 5 = 0 from rfl] at hx238_4)
      (try rw [Addr.add_zero'] at hx238_4)
      have hn238_0 : ad235.block ≠ gb237 := zx (zfar hx238_0 GW237.out)
      have hn238_1 : ad235.block ≠ gb237 := zx (zfar hx238_0 GW237.out)
      have hn238_2 : ad235.block ≠ gb237 := zx (zfar hx238_0 GW237.out)
      have hn238_3 : ad235.block ≠ gb237 := zx (zfar hx238_0 GW237.out)
      replace hx238_0 := zh HB.out hx238_0
      replace hx238_1 := zh HB.out hx238_1
      replace hx238_2 := zh HB.out hx238_2
      replace hx238_3 := zh HB.out hx238_3
      replace hx238_4 := zh HB.out hx238_4
      replace hx238_0 := (cell_far (p := ⟨gb237, 0, none⟩) (zy hn238_0) (.bool true)).trans hx238_0
      replace hx238_1 := (cell_far (p := ⟨gb237, 0, none⟩) (zy hn238_0) (.bool true)).trans hx238_1
      replace hx238_2 := (cell_far (p := ⟨gb237, 0, none⟩) (zy hn238_0) (.bool true)).trans hx238_2
      replace hx238_3 := (cell_far (p := ⟨gb237, 0, none⟩) (zy hn238_0) (.bool true)).trans hx238_3
      replace hx238_4 := (cell_far (p := ⟨gb237, 0, none⟩) (zy hn238_0) (.bool true)).trans hx238_4
      replace hx238_0 := (cell_far (p := ⟨gb237, 1, none⟩) (zy hn238_1) (.int .i64 0)).trans hx238_0
      replace hx238_1 := (cell_far (p := ⟨gb237, 1, none⟩) (zy hn238_1) (.int .i64 0)).trans hx238_1
      replace hx238_2 := (cell_far (p := ⟨gb237, 1, none⟩) (zy hn238_1) (.int .i64 0)).trans hx238_2
      replace hx238_3 := (cell_far (p := ⟨gb237, 1, none⟩) (zy hn238_1) (.int .i64 0)).trans hx238_3
      replace hx238_4 := (cell_far (p := ⟨gb237, 1, none⟩) (zy hn238_1) (.int .i64 0)).trans hx238_4
      replace hx238_0 := (cell_far (p := ⟨gb237, 2, none⟩) (zy hn238_2) (.int .i64 ((rd_T51 l2 0).f2))).trans hx238_0
      replace hx238_1 := (cell_far (p := ⟨gb237, 2, none⟩) (zy hn238_2) (.int .i64 ((rd_T51 l2 0).f2))).trans hx238_1
      replace hx238_2 := (cell_far (p := ⟨gb237, 2, none⟩) (zy hn238_2) (.int .i64 ((rd_T51 l2 0).f2))).trans hx238_2
      replace hx238_3 := (cell_far (p := ⟨gb237, 2, none⟩) (zy hn238_2) (.int .i64 ((rd_T51 l2 0).f2))).trans hx238_3
      replace hx238_4 := (cell_far (p := ⟨gb237, 2, none⟩) (zy hn238_2) (.int .i64 ((rd_T51 l2 0).f2))).trans hx238_4
      replace hx238_0 := (cell_far (p := ⟨gb237, 3, none⟩) (zy hn238_3) (.int .i64 ((rd_T51 l2 0).f3))).trans hx238_0
      replace hx238_1 := (cell_far (p := ⟨gb237, 3, none⟩) (zy hn238_3) (.int .i64 ((rd_T51 l2 0).f3))).trans hx238_1
      replace hx238_2 := (cell_far (p := ⟨gb237, 3, none⟩) (zy hn238_3) (.int .i64 ((rd_T51 l2 0).f3))).trans hx238_2
      replace hx238_3 := (cell_far (p := ⟨gb237, 3, none⟩) (zy hn238_3) (.int .i64 ((rd_T51 l2 0).f3))).trans hx238_3
      replace hx238_4 := (cell_far (p := ⟨gb237, 3, none⟩) (zy hn238_3) (.int .i64 ((rd_T51 l2 0).f3))).trans hx238_4
      clear hn238_0
      clear hn238_1
      clear hn238_2
      clear hn238_3
      replace p238 := eq_true p238
      replace q238 := eq_true q238
      have hnb61 := NB231_230.out
      have hnc61 := NB230_231.out
      have hnb62 := NB231_237.out
      have hnc62 := NB237_231.out
      have hcz63_0 := zc BK231.out 0
      have hcz63_1 := zc BK231.out 1
      have hcz63_2 := zc BK231.out 2
      have hcz63_3 := zc BK231.out 3
      have hfz63_0 := blk_frozen BK231.out 0
      have hfz63_1 := blk_frozen BK231.out 1
      have hfz63_2 := blk_frozen BK231.out 2
      have hfz63_3 := blk_frozen BK231.out 3
      try go_wp2
      refine bodyPost_ret (results_ct rfl _ _ gb231 33 #[.bool false, .int .i64 0, .int .i64 0, .int .i64 0] (0, 0) _ rfl (by (with_reducible repeat (first | refine blk_drewN ?_ _ | refine blk_drew ?_ | refine blk_alloc ?_ _)); refine blk_put (cs := #[.bool false, .int .i64 0, .int .i64 0, .int .i64 x232003_1]) ?_ 3 _ rfl; (with_reducible repeat (first | refine blk_drewN ?_ _ | refine blk_drew ?_ | refine blk_alloc ?_ _)); refine blk_put (cs := #[.bool false, .int .i64 0, .int .i64 x232002_1, .int .i64 x232003_1]) ?_ 2 _ rfl; (with_reducible repeat (first | refine blk_drewN ?_ _ | refine blk_drew ?_ | refine blk_alloc ?_ _)); refine blk_put (cs := #[.bool false, .int .i64 x232001_1, .int .i64 x232002_1, .int .i64 x232003_1]) ?_ 1 _ rfl; (with_reducible repeat (first | refine blk_drewN ?_ _ | refine blk_drew ?_ | refine blk_alloc ?_ _)); refine blk_put (cs := #[.bool x232000_1, .int .i64 x232001_1, .int .i64 x232002_1, .int .i64 x232003_1]) ?_ 0 _ rfl; (with_reducible repeat (first | refine blk_drewN ?_ _ | refine blk_drew ?_ | refine blk_alloc ?_ _)); refine blk_far ?_ NB231_237.out _; (with_reducible repeat (first | refine blk_drewN ?_ _ | refine blk_drew ?_ | refine blk_alloc ?_ _)); refine blk_far ?_ NB231_237.out _; (with_reducible repeat (first | refine blk_drewN ?_ _ | refine blk_drew ?_ | refine blk_alloc ?_ _)); refine blk_far ?_ NB231_237.out _; (with_reducible repeat (first | refine blk_drewN ?_ _ | refine blk_drew ?_ | refine blk_alloc ?_ _)); refine blk_far ?_ NB231_237.out _; (with_reducible repeat (first | refine blk_drewN ?_ _ | refine blk_drew ?_ | refine blk_alloc ?_ _)); exact BK231.out) Try.underlying33 rfl (by kernel_rfl)) rfl ?_
      exact ⟨ze, zw3 HB.out GE230.out GE231.out GE237.out⟩
     rw [if_pos c22] at H
     have c22b0 : (((rd_T51 l2 0).f0) == 2) = true := beq_iff_eq.mpr c22
     have c22b1 : (((rd_T51 l2 0).f0) != 2) = false := bne_eq_false_iff_eq.mpr c22
     clear c22
     replace H := Option.bind_eq_some_iff.mp H
     obtain ⟨t239, A230, H⟩ := H
     replace H : ((cellarref0_EqBytes.f k1 t239 l2).bind fun t242 => (if t242 = true then (some (true, 0, (rd_T51 l2 0).f2, (rd_T51 l2 0).f3, 0)) else (some (false, 0, 0, 0, 8)))) = some (r1, r2, r3, r4, r5) := H
     have A23 := Aside0.mk A230
     clear A230
     replace H := Option.bind_eq_some_iff.mp H
     obtain ⟨t242, A240, H⟩ := H
     replace H : (if t242 = true then (some (true, 0, (rd_T51 l2 0).f2, (rd_T51 l2 0).f3, 0)) else (some (false, 0, 0, 0, 8))) = some (r1, r2, r3, r4, r5) := H
     have A24 := Aside0.mk A240
     clear A240
     by_cases c25 : t242 = true
     rotate_left
     ·replace c25 := Bool.eq_false_iff.mpr c25
      subst c25
      have H1 : (some (false, 0, 0, 0, 8)) = some (r1, r2, r3, r4, r5) := by rw [if_neg (show ¬ (false = true) by decide)] at H; exact H
      clear H
      have H := H1
      clear H1
      simp only [Option.some.injEq, Prod.mk.injEq] at H
      obtain ⟨rfl, rfl, rfl, rfl, rfl⟩ := H
      try go_wp2
      have n0_ := Aside0.mk (blk_drew BK230.out)
      have n1_ := Aside0.mk (blk_drew BK231.out)
      have n2_ := Aside0.mk (below_drew1 HB.out)
      clear BK230
      clear BK231
      clear HB
      have BK230 := n0_
      have BK231 := n1_
      have HB := n2_
      clear n0_ n1_ n2_
      have p235 : 0 ≤ (0 : Int) := (by omega)
      have q235 : 0 < (l2.length : Int) := zdec
      obtain ⟨ad235, e235, hx235_0, hx235_1, hx235_2, hx235_3, hx235_4⟩ := at_T51 HR2.out 0 p235 q235
      have hw235_4 := hx235_4
      (try rw [show ((0 : Int)).toNat = 0 from rfl] at hw235_4)
      (try rw [show 0 * 5 = 0 from rfl] at hw235_4)
      (try rw [Addr.add_zero'] at hw235_4)
      have hw235_3 := hx235_3
      (try rw [show ((0 : Int)).toNat = 0 from rfl] at hw235_3)
      (try rw [show 0 * 5 = 0 from rfl] at hw235_3)
      (try rw [Addr.add_zero'] at hw235_3)
      have hw235_2 := hx235_2
      (try rw [show ((0 : Int)).toNat = 0 from rfl] at hw235_2)
      (try rw [show 0 * 5 = 0 from rfl] at hw235_2)
      (try rw [Addr.add_zero'] at hw235_2)
      have hw235_1 := hx235_1
      (try rw [show ((0 : Int)).toNat = 0 from rfl] at hw235_1)
      (try rw [show 0 * 5 = 0 from rfl] at hw235_1)
      (try rw [Addr.add_zero'] at hw235_1)
      have hw235_0 := hx235_0
      (try rw [show ((0 : Int)).toNat = 0 from rfl] at hw235_0)
      (try rw [show 0 * 5 = 0 from rfl] at hw235_0)
      (try rw [Addr.add_zero'] at hw235_0)
      cases e235
      have qi235 : (0 < l2.length) = True := eq_true (by omega)
      (try rw [show ((0 : Int)).toNat = 0 from rfl] at hx235_0)
      (try rw [show 0 * 5 = 0 from rfl] at hx235_0)
      (try rw [Addr.add_zero'] at hx235_0)
      (try rw [show ((0 : Int)).toNat = 0 from rfl] at hx235_1)
      (try rw [show 0 * 5 = 0 from rfl] at hx235_1)
      (try rw [Addr.add_zero'] at hx235_1)
      (try rw [show ((0 : Int)).toNat = 0 from rfl] at hx235_2)
      (try rw [show 0 * 5 = 0 from rfl] at hx235_2)
      (try rw [Addr.add_zero'] at hx235_2)
      (try rw [show ((0 : Int)).toNat = 0 from rfl] at hx235_3)
      (try rw [show 0 * 5 = 0 from rfl] at hx235_3)
      (try rw [Addr.add_zero'] at hx235_3)
      (try rw [show ((0 : Int)).toNat = 0 from rfl] at hx235_4)
      (try rw [show 0 * 5 = 0 from rfl] at hx235_4)
      (try rw [Addr.add_zero'] at hx235_4)
      replace hx235_0 := zh HB.out hx235_0
      replace hx235_1 := zh HB.out hx235_1
      replace hx235_2 := zh HB.out hx235_2
      replace hx235_3 := zh HB.out hx235_3
      replace hx235_4 := zh HB.out hx235_4
      replace p235 := eq_true p235
      replace q235 := eq_true q235
      have p236 : 0 ≤ (0 : Int) := (by omega)
      have q236 : 0 < (l2.length : Int) := zdec
      obtain ⟨ad236, e236, hx236_0, hx236_1, hx236_2, hx236_3, hx236_4⟩ := at_T51 HR2.out 0 p236 q236
      have hw236_4 := hx236_4
      (try rw [show ((0 : Int)).toNat = 0 from rfl] at hw236_4)
      (try rw [show 0 * 5 = 0 from rfl] at hw236_4)
      (try rw [Addr.add_zero'] at hw236_4)
      have hw236_3 := hx236_3
      (try rw [show ((0 : Int)).toNat = 0 from rfl] at hw236_3)
      (try rw [show 0 * 5 = 0 from rfl] at hw236_3)
      (try rw [Addr.add_zero'] at hw236_3)
      have hw236_2 := hx236_2
      (try rw [show ((0 : Int)).toNat = 0 from rfl] at hw236_2)
      (try rw [show 0 * 5 = 0 from rfl] at hw236_2)
      (try rw [Addr.add_zero'] at hw236_2)
      have hw236_1 := hx236_1
      (try rw [show ((0 : Int)).toNat = 0 from rfl] at hw236_1)
      (try rw [show 0 * 5 = 0 from rfl] at hw236_1)
      (try rw [Addr.add_zero'] at hw236_1)
      have hw236_0 := hx236_0
      (try rw [show ((0 : Int)).toNat = 0 from rfl] at hw236_0)
      (try rw [show 0 * 5 = 0 from rfl] at hw236_0)
      (try rw [Addr.add_zero'] at hw236_0)
      obtain rfl : ad235 = ad236 := (by injection e236)
      have qi236 : (0 < l2.length) = True := eq_true (by omega)
      (try rw [show ((0 : Int)).toNat = 0 from rfl] at hx236_0)
      (try rw [show 0 * 5 = 0 from rfl] at hx236_0)
      (try rw [Addr.add_zero'] at hx236_0)
      (try rw [show ((0 : Int)).toNat = 0 from rfl] at hx236_1)
      (try rw [show 0 * 5 = 0 from rfl] at hx236_1)
      (try rw [Addr.add_zero'] at hx236_1)
      (try rw [show ((0 : Int)).toNat = 0 from rfl] at hx236_2)
      (try rw [show 0 * 5 = 0 from rfl] at hx236_2)
      (try rw [Addr.add_zero'] at hx236_2)
      (try rw [show ((0 : Int)).toNat = 0 from rfl] at hx236_3)
      (try rw [show 0 * 5 = 0 from rfl] at hx236_3)
      (try rw [Addr.add_zero'] at hx236_3)
      (try rw [show ((0 : Int)).toNat = 0 from rfl] at hx236_4)
      (try rw [show 0 * 5 = 0 from rfl] at hx236_4)
      (try rw [Addr.add_zero'] at hx236_4)
      replace hx236_0 := zh HB.out hx236_0
      replace hx236_1 := zh HB.out hx236_1
      replace hx236_2 := zh HB.out hx236_2
      replace hx236_3 := zh HB.out hx236_3
      replace hx236_4 := zh HB.out hx236_4
      replace p236 := eq_true p236
      replace q236 := eq_true q236
      refine start_ (n := 11) (S := fun w' => w'.cell? ad235 = some (.int .i64 ((rd_T51 l2 0).f0)) ∧ w'.cell? ⟨ad235.block, ad235.off + 1, none⟩ = some (.int .i64 ((rd_T51 l2 0).f1)) ∧ w'.cell? ⟨ad235.block, ad235.off + 2, none⟩ = some (.int .i64 ((rd_T51 l2 0).f2)) ∧ w'.cell? ⟨ad235.block, ad235.off + 3, none⟩ = some (.int .i64 ((rd_T51 l2 0).f3)) ∧ w'.cell? ⟨ad235.block, ad235.off + 4, none⟩ = some (.int .i64 ((rd_T51 l2 0).f4)) ∧ w'.cell? ad235 = some (.int .i64 ((rd_T51 l2 0).f0)) ∧ w'.cell? ⟨ad235.block, ad235.off + 1, none⟩ = some (.int .i64 ((rd_T51 l2 0).f1)) ∧ w'.cell? ⟨ad235.block, ad235.off + 2, none⟩ = some (.int .i64 ((rd_T51 l2 0).f2)) ∧ w'.cell? ⟨ad235.block, ad235.off + 3, none⟩ = some (.int .i64 ((rd_T51 l2 0).f3)) ∧ w'.cell? ⟨ad235.block, ad235.off + 4, none⟩ = some (.int .i64 ((rd_T51 l2 0).f4))) (ds := []) #[false,false,false,false,false,false,false,false,false,false,false] (by kernel_rfl) rfl rfl ⟨((HB.out.cell (World.block_lt_of_cell? w _ hw235_0)).trans hw235_0), ((HB.out.cell (World.block_lt_of_cell? w _ hw235_1)).trans hw235_1), ((HB.out.cell (World.block_lt_of_cell? w _ hw235_2)).trans hw235_2), ((HB.out.cell (World.block_lt_of_cell? w _ hw235_3)).trans hw235_3), ((HB.out.cell (World.block_lt_of_cell? w _ hw235_4)).trans hw235_4), ((HB.out.cell (World.block_lt_of_cell? w _ hw236_0)).trans hw236_0), ((HB.out.cell (World.block_lt_of_cell? w _ hw236_1)).trans hw236_1), ((HB.out.cell (World.block_lt_of_cell? w _ hw236_2)).trans hw236_2), ((HB.out.cell (World.block_lt_of_cell? w _ hw236_3)).trans hw236_3), ((HB.out.cell (World.block_lt_of_cell? w _ hw236_4)).trans hw236_4)⟩ (fun hHeld => ?_); refine with_tabW cellarref7_Get.tab17 cellarref7_Get.bits17 (fun HT_ HW_ => ?_)
      generalize wr.drew = w41 at BK230 BK231 HB hx235_0 hx235_1 hx235_2 hx235_3 hx235_4 hx236_0 hx236_1 hx236_2 hx236_3 hx236_4 hHeld ⊢
      refine zp (i := 0) (N := some 54) #[true,false,false,false,false,false,false,false,false,false,false] (any_of HT_.out (by kernel_rfl)) ?_
      refine zp (i := 1) (N := some 55) #[true,true,false,false,false,false,false,false,false,false,false] (any_of HT_.out (by kernel_rfl)) ?_
      refine zp (i := 2) (N := some 56) #[true,true,true,false,false,false,false,false,false,false,false] (any_of HT_.out (by kernel_rfl)) ?_
      refine zp (i := 4) (N := some 58) #[true,true,true,false,true,false,false,false,false,false,false] (any_of HT_.out (by kernel_rfl)) ?_
      refine zp (i := 5) (N := some 59) #[true,true,true,false,true,true,false,false,false,false,false] (any_of HT_.out (by kernel_rfl)) ?_
      refine zp (i := 6) (N := some 60) #[true,true,true,false,true,true,true,false,false,false,false] (any_of HT_.out (by kernel_rfl)) ?_
      refine take_ (i := 3) (N := some 57) (v := ?_) (a' := ?_) #[true,true,true,true,true,true,true,false,false,false,false] rfl rfl (take_ofW HT_.out HW_.out (by kernel_rfl)) (fun _ _ _ h => h) (Or.inl ⟨by rfl, ?_⟩) hHeld ?_ ?_
      rotate_left
      ·rintro w' ⟨s0, s1, s2, s3, s4, s5, s6, s7, s8, s9⟩
       go_simp
       with_reducible rfl
      rotate_left
      ·simp only [Act.put, List.setIfInBounds_toArray, List.set_cons_zero, List.set_cons_succ, i64_w, i32_w]
       rfl
      refine take_ (i := 7) (N := some 61) (v := ?_) (a' := ?_) #[true,true,true,true,true,true,true,true,false,false,false] rfl rfl (take_ofW HT_.out HW_.out (by kernel_rfl)) (fun _ _ _ h => h) (Or.inl ⟨by rfl, ?_⟩) hHeld ?_ ?_
      rotate_left
      ·rintro w' ⟨s0, s1, s2, s3, s4, s5, s6, s7, s8, s9⟩
       go_simp
       with_reducible rfl
      rotate_left
      ·simp only [Act.put, List.setIfInBounds_toArray, List.set_cons_zero, List.set_cons_succ, i64_w, i32_w]
       rfl
      refine zp (i := 8) (N := some 62) #[true,true,true,true,true,true,true,true,true,false,false] (any_of HT_.out (by kernel_rfl)) ?_
      refine one_ (i := 9) (N := some 11) #[true,true,true,true,true,true,true,true,true,true,false] rfl rfl (one_of HT_.out (by kernel_rfl)) (by decide) (fun K hK => ?_)
      refine box_step ?hg (N := 11) ?hd (cs := #[.bool false, .int .i64 0, .int .i64 0, .int .i64 0]) (t := 33) ?hr ?_; (case hd => rfl); (case hg => rfl); (case hr => first | (go_simp; done) | (go_simp; rfl))
      intro gb237 hg w42 hbox hb
      have n0_ := Aside0.mk (zbb BK230.out hb)
      have n1_ := Aside0.mk (zbb BK231.out hb)
      have n2_ := Aside0.mk (below_step (zw2 HB.out GE230.out GE231.out) hb)
      have n3_ := Aside0.mk (hbox)
      have n4_ := Aside0.mk (zg hg (below_size (zw2 HB.out GE230.out GE231.out)))
      have n5_ := Aside0.mk (zg hg (below_size (zw2 HB.out GE230.out GE231.out)))
      have n6_ := Aside0.mk (zlt hg BK230.out)
      have n7_ := Aside0.mk (zgt hg BK230.out)
      have n8_ := Aside0.mk (zlt hg BK231.out)
      have n9_ := Aside0.mk (zgt hg BK231.out)
      clear BK230
      clear BK231
      clear HB
      have BK230 := n0_
      have BK231 := n1_
      have HB := n2_
      have BK237 := n3_
      have GW237 := n4_
      have GE237 := n5_
      have NB230_237 := n6_
      have NB237_230 := n7_
      have NB231_237 := n8_
      have NB237_231 := n9_
      clear n0_ n1_ n2_ n3_ n4_ n5_ n6_ n7_ n8_ n9_
      clear hb hbox hg
      refine hK.out _ _ ⟨((HB.out.cell (World.block_lt_of_cell? w _ hw235_0)).trans hw235_0), ((HB.out.cell (World.block_lt_of_cell? w _ hw235_1)).trans hw235_1), ((HB.out.cell (World.block_lt_of_cell? w _ hw235_2)).trans hw235_2), ((HB.out.cell (World.block_lt_of_cell? w _ hw235_3)).trans hw235_3), ((HB.out.cell (World.block_lt_of_cell? w _ hw235_4)).trans hw235_4), ((HB.out.cell (World.block_lt_of_cell? w _ hw236_0)).trans hw236_0), ((HB.out.cell (World.block_lt_of_cell? w _ hw236_1)).trans hw236_1), ((HB.out.cell (World.block_lt_of_cell? w _ hw236_2)).trans hw236_2), ((HB.out.cell (World.block_lt_of_cell? w _ hw236_3)).trans hw236_3), ((HB.out.cell (World.block_lt_of_cell? w _ hw236_4)).trans hw236_4)⟩ (fun hHeld => ?_)
      clear hK K
      refine norm_ (a' := ?_) ?_ ?_
      rotate_left
      ·show Act.put _ (some 11) _ = _
       simp only [Act.put, List.setIfInBounds_toArray, List.set_cons_zero, List.set_cons_succ, i64_w, i32_w]
       rfl
      refine one_ (i := 10) (N := none) #[true,true,true,true,true,true,true,true,true,true,true] rfl rfl (one_of HT_.out (by kernel_rfl)) (by decide) (fun K hK => ?_)
      have hs43 : w42.cell? ⟨gb237, 0, none⟩ = some (.bool false) := (blk_cell BK237.out 0).trans rfl
      have hfs43 := blk_frozen BK237.out 0
      have hns43_0 := NB230_237.out
      have hns43_1 := NB231_237.out
      have hms43_0 := NB237_230.out
      have hms43_1 := NB237_231.out
      have hs44 : w42.cell? ⟨gb237, 1, none⟩ = some (.int .i64 0) := (blk_cell BK237.out 1).trans rfl
      have hfs44 := blk_frozen BK237.out 1
      have hns44_0 := NB230_237.out
      have hns44_1 := NB231_237.out
      have hms44_0 := NB237_230.out
      have hms44_1 := NB237_231.out
      have hs45 : w42.cell? ⟨gb237, 2, none⟩ = some (.int .i64 0) := (blk_cell BK237.out 2).trans rfl
      have hfs45 := blk_frozen BK237.out 2
      have hns45_0 := NB230_237.out
      have hns45_1 := NB231_237.out
      have hms45_0 := NB237_230.out
      have hms45_1 := NB237_231.out
      have hs46 : w42.cell? ⟨gb237, 3, none⟩ = some (.int .i64 0) := (blk_cell BK237.out 3).trans rfl
      have hfs46 := blk_frozen BK237.out 3
      have hns46_0 := NB230_237.out
      have hns46_1 := NB231_237.out
      have hms46_0 := NB237_230.out
      have hms46_1 := NB237_231.out
      refine skip_ (w1 := ?_) (by rfl) rfl ?_ ?_
      rotate_left
      ·go_simp
       rfl
      refine hK.out _ _ ⟨((cell_far (p := ⟨gb237, _, none⟩) (zx (zfar hw235_0 GW237.out)) _).trans (((cell_far (p := ⟨gb237, _, none⟩) (zx (zfar hw235_0 GW237.out)) _).trans (((cell_far (p := ⟨gb237, _, none⟩) (zx (zfar hw235_0 GW237.out)) _).trans (((cell_far (p := ⟨gb237, _, none⟩) (zx (zfar hw235_0 GW237.out)) _).trans (hHeld.1)))))))), ((cell_far (p := ⟨gb237, _, none⟩) (zx (zfar hw235_1 GW237.out)) _).trans (((cell_far (p := ⟨gb237, _, none⟩) (zx (zfar hw235_1 GW237.out)) _).trans (((cell_far (p := ⟨gb237, _, none⟩) (zx (zfar hw235_1 GW237.out)) _).trans (((cell_far (p := ⟨gb237, _, none⟩) (zx (zfar hw235_1 GW237.out)) _).trans (hHeld.2.1)))))))), ((cell_far (p := ⟨gb237, _, none⟩) (zx (zfar hw235_2 GW237.out)) _).trans (((cell_far (p := ⟨gb237, _, none⟩) (zx (zfar hw235_2 GW237.out)) _).trans (((cell_far (p := ⟨gb237, _, none⟩) (zx (zfar hw235_2 GW237.out)) _).trans (((cell_far (p := ⟨gb237, _, none⟩) (zx (zfar hw235_2 GW237.out)) _).trans (hHeld.2.2.1)))))))), ((cell_far (p := ⟨gb237, _, none⟩) (zx (zfar hw235_3 GW237.out)) _).trans (((cell_far (p := ⟨gb237, _, none⟩) (zx (zfar hw235_3 GW237.out)) _).trans (((cell_far (p := ⟨gb237, _, none⟩) (zx (zfar hw235_3 GW237.out)) _).trans (((cell_far (p := ⟨gb237, _, none⟩) (zx (zfar hw235_3 GW237.out)) _).trans (hHeld.2.2.2.1)))))))), ((cell_far (p := ⟨gb237, _, none⟩) (zx (zfar hw235_4 GW237.out)) _).trans (((cell_far (p := ⟨gb237, _, none⟩) (zx (zfar hw235_4 GW237.out)) _).trans (((cell_far (p := ⟨gb237, _, none⟩) (zx (zfar hw235_4 GW237.out)) _).trans (((cell_far (p := ⟨gb237, _, none⟩) (zx (zfar hw235_4 GW237.out)) _).trans (hHeld.2.2.2.2.1)))))))), ((cell_far (p := ⟨gb237, _, none⟩) (zx (zfar hw236_0 GW237.out)) _).trans (((cell_far (p := ⟨gb237, _, none⟩) (zx (zfar hw236_0 GW237.out)) _).trans (((cell_far (p := ⟨gb237, _, none⟩) (zx (zfar hw236_0 GW237.out)) _).trans (((cell_far (p := ⟨gb237, _, none⟩) (zx (zfar hw236_0 GW237.out)) _).trans (hHeld.2.2.2.2.2.1)))))))), ((cell_far (p := ⟨gb237, _, none⟩) (zx (zfar hw236_1 GW237.out)) _).trans (((cell_far (p := ⟨gb237, _, none⟩) (zx (zfar hw236_1 GW237.out)) _).trans (((cell_far (p := ⟨gb237, _, none⟩) (zx (zfar hw236_1 GW237.out)) _).trans (((cell_far (p := ⟨gb237, _, none⟩) (zx (zfar hw236_1 GW237.out)) _).trans (hHeld.2.2.2.2.2.2.1)))))))), ((cell_far (p := ⟨gb237, _, none⟩) (zx (zfar hw236_2 GW237.out)) _).trans (((cell_far (p := ⟨gb237, _, none⟩) (zx (zfar hw236_2 GW237.out)) _).trans (((cell_far (p := ⟨gb237, _, none⟩) (zx (zfar hw236_2 GW237.out)) _).trans (((cell_far (p := ⟨gb237, _, none⟩) (zx (zfar hw236_2 GW237.out)) _).trans (hHeld.2.2.2.2.2.2.2.1)))))))), ((cell_far (p := ⟨gb237, _, none⟩) (zx (zfar hw236_3 GW237.out)) _).trans (((cell_far (p := ⟨gb237, _, none⟩) (zx (zfar hw236_3 GW237.out)) _).trans (((cell_far (p := ⟨gb237, _, none⟩) (zx (zfar hw236_3 GW237.out)) _).trans (((cell_far (p := ⟨gb237, _, none⟩) (zx (zfar hw236_3 GW237.out)) _).trans (hHeld.2.2.2.2.2.2.2.2.1)))))))), ((cell_far (p := ⟨gb237, _, none⟩) (zx (zfar hw236_4 GW237.out)) _).trans (((cell_far (p := ⟨gb237, _, none⟩) (zx (zfar hw236_4 GW237.out)) _).trans (((cell_far (p := ⟨gb237, _, none⟩) (zx (zfar hw236_4 GW237.out)) _).trans (((cell_far (p := ⟨gb237, _, none⟩) (zx (zfar hw236_4 GW237.out)) _).trans (hHeld.2.2.2.2.2.2.2.2.2))))))))⟩ (fun hHeld => ?_)
      clear hK K
      refine done_ (done_of HT_.out (by kernel_rfl)) ?_
      have p238 : 0 ≤ (0 : Int) := (by omega)
      have q238 : 0 < (l2.length : Int) := zdec
      obtain ⟨ad238, e238, hx238_0, hx238_1, hx238_2, hx238_3, hx238_4⟩ := at_T51 HR2.out 0 p238 q238
      obtain rfl : ad235 = ad238 := (by injection e238)
      have qi238 : (0 < l2.length) = True := eq_true (by omega)
      (try rw [show ((0 : Int)).toNat = 0 from rfl] at hx238_0)
      (try rw [show 0 * 5 = 0 from rfl] at hx238_0)
      (try rw [Addr.add_zero'] at hx238_0)
      (try rw [show ((0 : Int)).toNat = 0 from rfl] at hx238_1)
      (try rw [show 0 * 5 = 0 from rfl] at hx238_1)
      (try rw [Addr.add_zero'] at hx238_1)
      (try rw [show ((0 : Int)).toNat = 0 from rfl] at hx238_2)
      (try rw [show 0 * 5 = 0 from rfl] at hx238_2)
      (try rw [Addr.add_zero'] at hx238_2)
      (try rw [show ((0 : Int)).toNat = 0 from rfl] at hx238_3)
      (try rw [show 0 * 5 = 0 from rfl] at hx238_3)
      (try rw [Addr.add_zero'] at hx238_3)
      (try rw [show ((0 : Int)).toNat = 0 from rfl] at hx238_4)
      (try rw [show 0 * 5 = 0 from rfl] at hx238_4)
      (try rw [Addr.add_zero'] at hx238_4)
      have hn238_0 : ad235.block ≠ gb237 := zx (zfar hx238_0 GW237.out)
      have hn238_1 : ad235.block ≠ gb237 := zx (zfar hx238_0 GW237.out)
      have hn238_2 : ad235.block ≠ gb237 := zx (zfar hx238_0 GW237.out)
      have hn238_3 : ad235.block ≠ gb237 := zx (zfar hx238_0 GW237.out)
      replace hx238_0 := zh HB.out hx238_0
      replace hx238_1 := zh HB.out hx238_1
      replace hx238_2 := zh HB.out hx238_2
      replace hx238_3 := zh HB.out hx238_3
      replace hx238_4 := zh HB.out hx238_4
      replace hx238_0 := (cell_far (p := ⟨gb237, 0, none⟩) (zy hn238_0) (.bool true)).trans hx238_0
      replace hx238_1 := (cell_far (p := ⟨gb237, 0, none⟩) (zy hn238_0) (.bool true)).trans hx238_1
      replace hx238_2 := (cell_far (p := ⟨gb237, 0, none⟩) (zy hn238_0) (.bool true)).trans hx238_2
      replace hx238_3 := (cell_far (p := ⟨gb237, 0, none⟩) (zy hn238_0) (.bool true)).trans hx238_3
      replace hx238_4 := (cell_far (p := ⟨gb237, 0, none⟩) (zy hn238_0) (.bool true)).trans hx238_4
      replace hx238_0 := (cell_far (p := ⟨gb237, 1, none⟩) (zy hn238_1) (.int .i64 0)).trans hx238_0
      replace hx238_1 := (cell_far (p := ⟨gb237, 1, none⟩) (zy hn238_1) (.int .i64 0)).trans hx238_1
      replace hx238_2 := (cell_far (p := ⟨gb237, 1, none⟩) (zy hn238_1) (.int .i64 0)).trans hx238_2
      replace hx238_3 := (cell_far (p := ⟨gb237, 1, none⟩) (zy hn238_1) (.int .i64 0)).trans hx238_3
      replace hx238_4 := (cell_far (p := ⟨gb237, 1, none⟩) (zy hn238_1) (.int .i64 0)).trans hx238_4
      replace hx238_0 := (cell_far (p := ⟨gb237, 2, none⟩) (zy hn238_2) (.int .i64 ((rd_T51 l2 0).f2))).trans hx238_0
      replace hx238_1 := (cell_far (p := ⟨gb237, 2, none⟩) (zy hn238_2) (.int .i64 ((rd_T51 l2 0).f2))).trans hx238_1
      replace hx238_2 := (cell_far (p := ⟨gb237, 2, none⟩) (zy hn238_2) (.int .i64 ((rd_T51 l2 0).f2))).trans hx238_2
      replace hx238_3 := (cell_far (p := ⟨gb237, 2, none⟩) (zy hn238_2) (.int .i64 ((rd_T51 l2 0).f2))).trans hx238_3
      replace hx238_4 := (cell_far (p := ⟨gb237, 2, none⟩) (zy hn238_2) (.int .i64 ((rd_T51 l2 0).f2))).trans hx238_4
      replace hx238_0 := (cell_far (p := ⟨gb237, 3, none⟩) (zy hn238_3) (.int .i64 ((rd_T51 l2 0).f3))).trans hx238_0
      replace hx238_1 := (cell_far (p := ⟨gb237, 3, none⟩) (zy hn238_3) (.int .i64 ((rd_T51 l2 0).f3))).trans hx238_1
      replace hx238_2 := (cell_far (p := ⟨gb237, 3, none⟩) (zy hn238_3) (.int .i64 ((rd_T51 l2 0).f3))).trans hx238_2
      replace hx238_3 := (cell_far (p := ⟨gb237, 3, none⟩) (zy hn238_3) (.int .i64 ((rd_T51 l2 0).f3))).trans hx238_3
      replace hx238_4 := (cell_far (p := ⟨gb237, 3, none⟩) (zy hn238_3) (.int .i64 ((rd_T51 l2 0).f3))).trans hx238_4
      clear hn238_0
      clear hn238_1
      clear hn238_2
      clear hn238_3
      replace p238 := eq_true p238
      replace q238 := eq_true q238
      have hnb47 := NB230_231.out
      have hnc47 := NB231_230.out
      have hnb48 := NB230_237.out
      have hnc48 := NB237_230.out
      have hcz49_0 := zc BK230.out 0
      have hcz49_1 := zc BK230.out 1
      have hfz49_0 := blk_frozen BK230.out 0
      have hfz49_1 := blk_frozen BK230.out 1
      have hnb50 := NB237_231.out
      have hnc50 := NB231_237.out
      have hcz51_0 := zc BK237.out 0
      have hcz51_1 := zc BK237.out 1
      have hcz51_2 := zc BK237.out 2
      have hcz51_3 := zc BK237.out 3
      have hfz51_0 := blk_frozen BK237.out 0
      have hfz51_1 := blk_frozen BK237.out 1
      have hfz51_2 := blk_frozen BK237.out 2
      have hfz51_3 := blk_frozen BK237.out 3
      try go_wp2_with (first | (go_at_call 30; (with_reducible refine (cellarref7_Put.calls k1 a0_0 a0_1 a1 true 0 ((rd_T51 l2 0).f2) ((rd_T51 l2 0).f3) t239 _ A23.out).mono ?_); rintro e w52 ⟨v240, rfl, ho0, hb⟩; have HO241 := Aside0.mk (Kd.R_lower ho0 (below_size (zw3 HB.out GE230.out GE231.out GE237.out))); have n1_ := Aside0.mk (blk_below (g := gb230) (o := .cells #[.bool a0_0, .int .i64 a0_1] 38 (0, 0)) (zf1 BK230.out NB230_237.out) hb); have n2_ := Aside0.mk (blk_below (g := gb231) (o := .cells #[.bool x232000_1, .int .i64 x232001_1, .int .i64 x232002_1, .int .i64 x232003_1] 33 (0, 0)) (zf1 BK231.out NB231_237.out) hb); have n3_ := Aside0.mk (blk_below (g := gb237) (o := .cells #[.bool true, .int .i64 0, .int .i64 ((rd_T51 l2 0).f2), .int .i64 ((rd_T51 l2 0).f3)] 33 (0, 0)) (by (with_reducible repeat (first | refine blk_drewN ?_ _ | refine blk_drew ?_ | refine blk_alloc ?_ _)); refine blk_put (cs := #[.bool true, .int .i64 0, .int .i64 ((rd_T51 l2 0).f2), .int .i64 0]) ?_ 3 _ rfl; (with_reducible repeat (first | refine blk_drewN ?_ _ | refine blk_drew ?_ | refine blk_alloc ?_ _)); refine blk_put (cs := #[.bool true, .int .i64 0, .int .i64 0, .int .i64 0]) ?_ 2 _ rfl; (with_reducible repeat (first | refine blk_drewN ?_ _ | refine blk_drew ?_ | refine blk_alloc ?_ _)); refine blk_put (cs := #[.bool true, .int .i64 0, .int .i64 0, .int .i64 0]) ?_ 1 _ rfl; (with_reducible repeat (first | refine blk_drewN ?_ _ | refine blk_drew ?_ | refine blk_alloc ?_ _)); refine blk_put (cs := #[.bool false, .int .i64 0, .int .i64 0, .int .i64 0]) ?_ 0 _ rfl; (with_reducible repeat (first | refine blk_drewN ?_ _ | refine blk_drew ?_ | refine blk_alloc ?_ _)); exact BK237.out) hb); have n4_ := Aside0.mk (below_step (zw3 HB.out GE230.out GE231.out GE237.out) hb); clear BK230 BK231 BK237 HB; have BK230 := n1_; have BK231 := n2_; have BK237 := n3_; have HB := n4_; clear n1_ n2_ n3_ n4_; (try clear hb); (try clear hb2); (try clear hk); (try clear hi); (try clear ho0); obtain ⟨Ao53, co53, eo53⟩ := Kd.R_slice HO241.out; subst eo53) | (go_at_call 24; (with_reducible refine (cellarref0_EqBytes.calls k1 _ _ t239 _ _ l2 false _ ?side1 ?side2 ?side3 ?side4 A24.out).mono ?_); (case side1 => repeat (first | exact (Kd.R_reads' HO241.out).2.2 | (with_reducible refine Kd.C_alloc ?_ _) | (with_reducible refine Kd.C_drewN ?_ _) | (with_reducible refine Kd.C_drew ?_))); (case side2 => exact (Kd.R_reads' HO241.out).2.1); (case side3 => repeat (first | exact (Kd.C_below HR2.out HB.out) | (with_reducible refine Kd.C_alloc ?_ _) | (with_reducible refine Kd.C_drewN ?_ _) | (with_reducible refine Kd.C_drew ?_))); (case side4 => exact HC2.out); rintro e w' ⟨rfl, ⟨nd, rfl⟩⟩; (try (rw [drewN_self w52]; generalize hq_ : World.drewN w52 _ = w52; have n0_ : Aside0 (Kd.R k51 51 w52 w.heap.size (fun _ => True) (.slice Ao53 t239.length co53) t239) := ⟨by rw [← hq_]; exact (by (with_reducible repeat (first | apply Kd.R_alloc | apply Kd.R_drewN | apply Kd.R_drew)); exact HO241.out)⟩; have n1_ : Aside0 (w52.heap[gb230]? = some (.cells #[.bool a0_0, .int .i64 a0_1] 38 (0, 0))) := ⟨by rw [← hq_]; exact (zb BK230.out)⟩; have n2_ : Aside0 (w52.heap[gb231]? = some (.cells #[.bool x232000_1, .int .i64 x232001_1, .int .i64 x232002_1, .int .i64 x232003_1] 33 (0, 0))) := ⟨by rw [← hq_]; exact (zb BK231.out)⟩; have n3_ : Aside0 (w52.heap[gb237]? = some (.cells #[.bool true, .int .i64 0, .int .i64 ((rd_T51 l2 0).f2), .int .i64 ((rd_T51 l2 0).f3)] 33 (0, 0))) := ⟨by rw [← hq_]; exact (zb BK237.out)⟩; have n4_ : Aside0 (Below w.heap.size w w52) := ⟨by rw [← hq_]; exact (zw3 HB.out GE230.out GE231.out GE237.out)⟩; clear HO241 BK230 BK231 BK237 HB hq_; have HO241 := n0_; have BK230 := n1_; have BK231 := n2_; have BK237 := n3_; have HB := n4_; clear n0_ n1_ n2_ n3_ n4_)); have hcz54_0 := zc BK231.out 0; have hcz54_1 := zc BK231.out 1; have hcz54_2 := zc BK231.out 2; have hcz54_3 := zc BK231.out 3; have hfz54_0 := blk_frozen BK231.out 0; have hfz54_1 := blk_frozen BK231.out 1; have hfz54_2 := blk_frozen BK231.out 2; have hfz54_3 := blk_frozen BK231.out 3))
      refine bodyPost_ret (results_ct rfl _ _ gb231 33 #[.bool false, .int .i64 0, .int .i64 0, .int .i64 0] (0, 0) _ rfl (by (with_reducible repeat (first | refine blk_drewN ?_ _ | refine blk_drew ?_ | refine blk_alloc ?_ _)); refine blk_put (cs := #[.bool false, .int .i64 0, .int .i64 0, .int .i64 x232003_1]) ?_ 3 _ rfl; (with_reducible repeat (first | refine blk_drewN ?_ _ | refine blk_drew ?_ | refine blk_alloc ?_ _)); refine blk_put (cs := #[.bool false, .int .i64 0, .int .i64 x232002_1, .int .i64 x232003_1]) ?_ 2 _ rfl; (with_reducible repeat (first | refine blk_drewN ?_ _ | refine blk_drew ?_ | refine blk_alloc ?_ _)); refine blk_put (cs := #[.bool false, .int .i64 x232001_1, .int .i64 x232002_1, .int .i64 x232003_1]) ?_ 1 _ rfl; (with_reducible repeat (first | refine blk_drewN ?_ _ | refine blk_drew ?_ | refine blk_alloc ?_ _)); refine blk_put (cs := #[.bool x232000_1, .int .i64 x232001_1, .int .i64 x232002_1, .int .i64 x232003_1]) ?_ 0 _ rfl; (with_reducible repeat (first | refine blk_drewN ?_ _ | refine blk_drew ?_ | refine blk_alloc ?_ _)); exact BK231.out) Try.underlying33 rfl (by kernel_rfl)) rfl ?_
      exact ⟨ze, zw3 HB.out GE230.out GE231.out GE237.out⟩
     subst c25
     have H1 : (some (true, 0, (rd_T51 l2 0).f2, (rd_T51 l2 0).f3, 0)) = some (r1, r2, r3, r4, r5) := by rw [if_pos rfl] at H; exact H
     clear H
     have H := H1
     clear H1
     simp only [Option.some.injEq, Prod.mk.injEq] at H
     obtain ⟨rfl, rfl, rfl, rfl, rfl⟩ := H
     try go_wp2
     have n0_ := Aside0.mk (blk_drew BK230.out)
     have n1_ := Aside0.mk (blk_drew BK231.out)
     have n2_ := Aside0.mk (below_drew1 HB.out)
     clear BK230
     clear BK231
     clear HB
     have BK230 := n0_
     have BK231 := n1_
     have HB := n2_
     clear n0_ n1_ n2_
     have p235 : 0 ≤ (0 : Int) := (by omega)
     have q235 : 0 < (l2.length : Int) := zdec
     obtain ⟨ad235, e235, hx235_0, hx235_1, hx235_2, hx235_3, hx235_4⟩ := at_T51 HR2.out 0 p235 q235
     have hw235_4 := hx235_4
     (try rw [show ((0 : Int)).toNat = 0 from rfl] at hw235_4)
     (try rw [show 0 * 5 = 0 from rfl] at hw235_4)
     (try rw [Addr.add_zero'] at hw235_4)
     have hw235_3 := hx235_3
     (try rw [show ((0 : Int)).toNat = 0 from rfl] at hw235_3)
     (try rw [show 0 * 5 = 0 from rfl] at hw235_3)
     (try rw [Addr.add_zero'] at hw235_3)
     have hw235_2 := hx235_2
     (try rw [show ((0 : Int)).toNat = 0 from rfl] at hw235_2)
     (try rw [show 0 * 5 = 0 from rfl] at hw235_2)
     (try rw [Addr.add_zero'] at hw235_2)
     have hw235_1 := hx235_1
     (try rw [show ((0 : Int)).toNat = 0 from rfl] at hw235_1)
     (try rw [show 0 * 5 = 0 from rfl] at hw235_1)
     (try rw [Addr.add_zero'] at hw235_1)
     have hw235_0 := hx235_0
     (try rw [show ((0 : Int)).toNat = 0 from rfl] at hw235_0)
     (try rw [show 0 * 5 = 0 from rfl] at hw235_0)
     (try rw [Addr.add_zero'] at hw235_0)
     cases e235
     have qi235 : (0 < l2.length) = True := eq_true (by omega)
     (try rw [show ((0 : Int)).toNat = 0 from rfl] at hx235_0)
     (try rw [show 0 * 5 = 0 from rfl] at hx235_0)
     (try rw [Addr.add_zero'] at hx235_0)
     (try rw [show ((0 : Int)).toNat = 0 from rfl] at hx235_1)
     (try rw [show 0 * 5 = 0 from rfl] at hx235_1)
     (try rw [Addr.add_zero'] at hx235_1)
     (try rw [show ((0 : Int)).toNat = 0 from rfl] at hx235_2)
     (try rw [show 0 * 5 = 0 from rfl] at hx235_2)
     (try rw [Addr.add_zero'] at hx235_2)
     (try rw [show ((0 : Int)).toNat = 0 from rfl] at hx235_3)
     (try rw [show 0 * 5 = 0 from rfl] at hx235_3)
     (try rw [Addr.add_zero'] at hx235_3)
     (try rw [show ((0 : Int)).toNat = 0 from rfl] at hx235_4)
     (try rw [show 0 * 5 = 0 from rfl] at hx235_4)
     (try rw [Addr.add_zero'] at hx235_4)
     replace hx235_0 := zh HB.out hx235_0
     replace hx235_1 := zh HB.out hx235_1
     replace hx235_2 := zh HB.out hx235_2
     replace hx235_3 := zh HB.out hx235_3
     replace hx235_4 := zh HB.out hx235_4
     replace p235 := eq_true p235
     replace q235 := eq_true q235
     have p236 : 0 ≤ (0 : Int) := (by omega)
     have q236 : 0 < (l2.length : Int) := zdec
     obtain ⟨ad236, e236, hx236_0, hx236_1, hx236_2, hx236_3, hx236_4⟩ := at_T51 HR2.out 0 p236 q236
     have hw236_4 := hx236_4
     (try rw [show ((0 : Int)).toNat = 0 from rfl] at hw236_4)
     (try rw [show 0 * 5 = 0 from rfl] at hw236_4)
     (try rw [Addr.add_zero'] at hw236_4)
     have hw236_3 := hx236_3
     (try rw [show ((0 : Int)).toNat = 0 from rfl] at hw236_3)
     (try rw [show 0 * 5 = 0 from rfl] at hw236_3)
     (try rw [Addr.add_zero'] at hw236_3)
     have hw236_2 := hx236_2
     (try rw [show ((0 : Int)).toNat = 0 from rfl] at hw236_2)
     (try rw [show 0 * 5 = 0 from rfl] at hw236_2)
     (try rw [Addr.add_zero'] at hw236_2)
     have hw236_1 := hx236_1
     (try rw [show ((0 : Int)).toNat = 0 from rfl] at hw236_1)
     (try rw [show 0 * 5 = 0 from rfl] at hw236_1)
     (try rw [Addr.add_zero'] at hw236_1)
     have hw236_0 := hx236_0
     (try rw [show ((0 : Int)).toNat = 0 from rfl] at hw236_0)
     (try rw [show 0 * 5 = 0 from rfl] at hw236_0)
     (try rw [Addr.add_zero'] at hw236_0)
     obtain rfl : ad235 = ad236 := (by injection e236)
     have qi236 : (0 < l2.length) = True := eq_true (by omega)
     (try rw [show ((0 : Int)).toNat = 0 from rfl] at hx236_0)
     (try rw [show 0 * 5 = 0 from rfl] at hx236_0)
     (try rw [Addr.add_zero'] at hx236_0)
     (try rw [show ((0 : Int)).toNat = 0 from rfl] at hx236_1)
     (try rw [show 0 * 5 = 0 from rfl] at hx236_1)
     (try rw [Addr.add_zero'] at hx236_1)
     (try rw [show ((0 : Int)).toNat = 0 from rfl] at hx236_2)
     (try rw [show 0 * 5 = 0 from rfl] at hx236_2)
     (try rw [Addr.add_zero'] at hx236_2)
     (try rw [show ((0 : Int)).toNat = 0 from rfl] at hx236_3)
     (try rw [show 0 * 5 = 0 from rfl] at hx236_3)
     (try rw [Addr.add_zero'] at hx236_3)
     (try rw [show ((0 : Int)).toNat = 0 from rfl] at hx236_4)
     (try rw [show 0 * 5 = 0 from rfl] at hx236_4)
     (try rw [Addr.add_zero'] at hx236_4)
     replace hx236_0 := zh HB.out hx236_0
     replace hx236_1 := zh HB.out hx236_1
     replace hx236_2 := zh HB.out hx236_2
     replace hx236_3 := zh HB.out hx236_3
     replace hx236_4 := zh HB.out hx236_4
     replace p236 := eq_true p236
     replace q236 := eq_true q236
     refine start_ (n := 11) (S := fun w' => w'.cell? ad235 = some (.int .i64 ((rd_T51 l2 0).f0)) ∧ w'.cell? ⟨ad235.block, ad235.off + 1, none⟩ = some (.int .i64 ((rd_T51 l2 0).f1)) ∧ w'.cell? ⟨ad235.block, ad235.off + 2, none⟩ = some (.int .i64 ((rd_T51 l2 0).f2)) ∧ w'.cell? ⟨ad235.block, ad235.off + 3, none⟩ = some (.int .i64 ((rd_T51 l2 0).f3)) ∧ w'.cell? ⟨ad235.block, ad235.off + 4, none⟩ = some (.int .i64 ((rd_T51 l2 0).f4)) ∧ w'.cell? ad235 = some (.int .i64 ((rd_T51 l2 0).f0)) ∧ w'.cell? ⟨ad235.block, ad235.off + 1, none⟩ = some (.int .i64 ((rd_T51 l2 0).f1)) ∧ w'.cell? ⟨ad235.block, ad235.off + 2, none⟩ = some (.int .i64 ((rd_T51 l2 0).f2)) ∧ w'.cell? ⟨ad235.block, ad235.off + 3, none⟩ = some (.int .i64 ((rd_T51 l2 0).f3)) ∧ w'.cell? ⟨ad235.block, ad235.off + 4, none⟩ = some (.int .i64 ((rd_T51 l2 0).f4))) (ds := []) #[false,false,false,false,false,false,false,false,false,false,false] (by kernel_rfl) rfl rfl ⟨((HB.out.cell (World.block_lt_of_cell? w _ hw235_0)).trans hw235_0), ((HB.out.cell (World.block_lt_of_cell? w _ hw235_1)).trans hw235_1), ((HB.out.cell (World.block_lt_of_cell? w _ hw235_2)).trans hw235_2), ((HB.out.cell (World.block_lt_of_cell? w _ hw235_3)).trans hw235_3), ((HB.out.cell (World.block_lt_of_cell? w _ hw235_4)).trans hw235_4), ((HB.out.cell (World.block_lt_of_cell? w _ hw236_0)).trans hw236_0), ((HB.out.cell (World.block_lt_of_cell? w _ hw236_1)).trans hw236_1), ((HB.out.cell (World.block_lt_of_cell? w _ hw236_2)).trans hw236_2), ((HB.out.cell (World.block_lt_of_cell? w _ hw236_3)).trans hw236_3), ((HB.out.cell (World.block_lt_of_cell? w _ hw236_4)).trans hw236_4)⟩ (fun hHeld => ?_); refine with_tabW cellarref7_Get.tab17 cellarref7_Get.bits17 (fun HT_ HW_ => ?_)
     generalize wr.drew = w26 at BK230 BK231 HB hx235_0 hx235_1 hx235_2 hx235_3 hx235_4 hx236_0 hx236_1 hx236_2 hx236_3 hx236_4 hHeld ⊢
     refine zp (i := 0) (N := some 54) #[true,false,false,false,false,false,false,false,false,false,false] (any_of HT_.out (by kernel_rfl)) ?_
     refine zp (i := 1) (N := some 55) #[true,true,false,false,false,false,false,false,false,false,false] (any_of HT_.out (by kernel_rfl)) ?_
     refine zp (i := 2) (N := some 56) #[true,true,true,false,false,false,false,false,false,false,false] (any_of HT_.out (by kernel_rfl)) ?_
     refine zp (i := 4) (N := some 58) #[true,true,true,false,true,false,false,false,false,false,false] (any_of HT_.out (by kernel_rfl)) ?_
     refine zp (i := 5) (N := some 59) #[true,true,true,false,true,true,false,false,false,false,false] (any_of HT_.out (by kernel_rfl)) ?_
     refine zp (i := 6) (N := some 60) #[true,true,true,false,true,true,true,false,false,false,false] (any_of HT_.out (by kernel_rfl)) ?_
     refine take_ (i := 3) (N := some 57) (v := ?_) (a' := ?_) #[true,true,true,true,true,true,true,false,false,false,false] rfl rfl (take_ofW HT_.out HW_.out (by kernel_rfl)) (fun _ _ _ h => h) (Or.inl ⟨by rfl, ?_⟩) hHeld ?_ ?_
     rotate_left
     ·rintro w' ⟨s0, s1, s2, s3, s4, s5, s6, s7, s8, s9⟩
      go_simp
      with_reducible rfl
     rotate_left
     ·simp only [Act.put, List.setIfInBounds_toArray, List.set_cons_zero, List.set_cons_succ, i64_w, i32_w]
      rfl
     refine take_ (i := 7) (N := some 61) (v := ?_) (a' := ?_) #[true,true,true,true,true,true,true,true,false,false,false] rfl rfl (take_ofW HT_.out HW_.out (by kernel_rfl)) (fun _ _ _ h => h) (Or.inl ⟨by rfl, ?_⟩) hHeld ?_ ?_
     rotate_left
     ·rintro w' ⟨s0, s1, s2, s3, s4, s5, s6, s7, s8, s9⟩
      go_simp
      with_reducible rfl
     rotate_left
     ·simp only [Act.put, List.setIfInBounds_toArray, List.set_cons_zero, List.set_cons_succ, i64_w, i32_w]
      rfl
     refine zp (i := 8) (N := some 62) #[true,true,true,true,true,true,true,true,true,false,false] (any_of HT_.out (by kernel_rfl)) ?_
     refine one_ (i := 9) (N := some 11) #[true,true,true,true,true,true,true,true,true,true,false] rfl rfl (one_of HT_.out (by kernel_rfl)) (by decide) (fun K hK => ?_)
     refine box_step ?hg (N := 11) ?hd (cs := #[.bool false, .int .i64 0, .int .i64 0, .int .i64 0]) (t := 33) ?hr ?_; (case hd => rfl); (case hg => rfl); (case hr => first | (go_simp; done) | (go_simp; rfl))
     intro gb237 hg w27 hbox hb
     have n0_ := Aside0.mk (zbb BK230.out hb)
     have n1_ := Aside0.mk (zbb BK231.out hb)
     have n2_ := Aside0.mk (below_step (zw2 HB.out GE230.out GE231.out) hb)
     have n3_ := Aside0.mk (hbox)
     have n4_ := Aside0.mk (zg hg (below_size (zw2 HB.out GE230.out GE231.out)))
     have n5_ := Aside0.mk (zg hg (below_size (zw2 HB.out GE230.out GE231.out)))
     have n6_ := Aside0.mk (zlt hg BK230.out)
     have n7_ := Aside0.mk (zgt hg BK230.out)
     have n8_ := Aside0.mk (zlt hg BK231.out)
     have n9_ := Aside0.mk (zgt hg BK231.out)
     clear BK230
     clear BK231
     clear HB
     have BK230 := n0_
     have BK231 := n1_
     have HB := n2_
     have BK237 := n3_
     have GW237 := n4_
     have GE237 := n5_
     have NB230_237 := n6_
     have NB237_230 := n7_
     have NB231_237 := n8_
     have NB237_231 := n9_
     clear n0_ n1_ n2_ n3_ n4_ n5_ n6_ n7_ n8_ n9_
     clear hb hbox hg
     refine hK.out _ _ ⟨((HB.out.cell (World.block_lt_of_cell? w _ hw235_0)).trans hw235_0), ((HB.out.cell (World.block_lt_of_cell? w _ hw235_1)).trans hw235_1), ((HB.out.cell (World.block_lt_of_cell? w _ hw235_2)).trans hw235_2), ((HB.out.cell (World.block_lt_of_cell? w _ hw235_3)).trans hw235_3), ((HB.out.cell (World.block_lt_of_cell? w _ hw235_4)).trans hw235_4), ((HB.out.cell (World.block_lt_of_cell? w _ hw236_0)).trans hw236_0), ((HB.out.cell (World.block_lt_of_cell? w _ hw236_1)).trans hw236_1), ((HB.out.cell (World.block_lt_of_cell? w _ hw236_2)).trans hw236_2), ((HB.out.cell (World.block_lt_of_cell? w _ hw236_3)).trans hw236_3), ((HB.out.cell (World.block_lt_of_cell? w _ hw236_4)).trans hw236_4)⟩ (fun hHeld => ?_)
     clear hK K
     refine norm_ (a' := ?_) ?_ ?_
     rotate_left
     ·show Act.put _ (some 11) _ = _
      simp only [Act.put, List.setIfInBounds_toArray, List.set_cons_zero, List.set_cons_succ, i64_w, i32_w]
      rfl
     refine one_ (i := 10) (N := none) #[true,true,true,true,true,true,true,true,true,true,true] rfl rfl (one_of HT_.out (by kernel_rfl)) (by decide) (fun K hK => ?_)
     have hs28 : w27.cell? ⟨gb237, 0, none⟩ = some (.bool false) := (blk_cell BK237.out 0).trans rfl
     have hfs28 := blk_frozen BK237.out 0
     have hns28_0 := NB230_237.out
     have hns28_1 := NB231_237.out
     have hms28_0 := NB237_230.out
     have hms28_1 := NB237_231.out
     have hs29 : w27.cell? ⟨gb237, 1, none⟩ = some (.int .i64 0) := (blk_cell BK237.out 1).trans rfl
     have hfs29 := blk_frozen BK237.out 1
     have hns29_0 := NB230_237.out
     have hns29_1 := NB231_237.out
     have hms29_0 := NB237_230.out
     have hms29_1 := NB237_231.out
     have hs30 : w27.cell? ⟨gb237, 2, none⟩ = some (.int .i64 0) := (blk_cell BK237.out 2).trans rfl
     have hfs30 := blk_frozen BK237.out 2
     have hns30_0 := NB230_237.out
     have hns30_1 := NB231_237.out
     have hms30_0 := NB237_230.out
     have hms30_1 := NB237_231.out
     have hs31 : w27.cell? ⟨gb237, 3, none⟩ = some (.int .i64 0) := (blk_cell BK237.out 3).trans rfl
     have hfs31 := blk_frozen BK237.out 3
     have hns31_0 := NB230_237.out
     have hns31_1 := NB231_237.out
     have hms31_0 := NB237_230.out
     have hms31_1 := NB237_231.out
     refine skip_ (w1 := ?_) (by rfl) rfl ?_ ?_
     rotate_left
     ·go_simp
      rfl
     refine hK.out _ _ ⟨((cell_far (p := ⟨gb237, _, none⟩) (zx (zfar hw235_0 GW237.out)) _).trans (((cell_far (p := ⟨gb237, _, none⟩) (zx (zfar hw235_0 GW237.out)) _).trans (((cell_far (p := ⟨gb237, _, none⟩) (zx (zfar hw235_0 GW237.out)) _).trans (((cell_far (p := ⟨gb237, _, none⟩) (zx (zfar hw235_0 GW237.out)) _).trans (hHeld.1)))))))), ((cell_far (p := ⟨gb237, _, none⟩) (zx (zfar hw235_1 GW237.out)) _).trans (((cell_far (p := ⟨gb237, _, none⟩) (zx (zfar hw235_1 GW237.out)) _).trans (((cell_far (p := ⟨gb237, _, none⟩) (zx (zfar hw235_1 GW237.out)) _).trans (((cell_far (p := ⟨gb237, _, none⟩) (zx (zfar hw235_1 GW237.out)) _).trans (hHeld.2.1)))))))), ((cell_far (p := ⟨gb237, _, none⟩) (zx (zfar hw235_2 GW237.out)) _).trans (((cell_far (p := ⟨gb237, _, none⟩) (zx (zfar hw235_2 GW237.out)) _).trans (((cell_far (p := ⟨gb237, _, none⟩) (zx (zfar hw235_2 GW237.out)) _).trans (((cell_far (p := ⟨gb237, _, none⟩) (zx (zfar hw235_2 GW237.out)) _).trans (hHeld.2.2.1)))))))), ((cell_far (p := ⟨gb237, _, none⟩) (zx (zfar hw235_3 GW237.out)) _).trans (((cell_far (p := ⟨gb237, _, none⟩) (zx (zfar hw235_3 GW237.out)) _).trans (((cell_far (p := ⟨gb237, _, none⟩) (zx (zfar hw235_3 GW237.out)) _).trans (((cell_far (p := ⟨gb237, _, none⟩) (zx (zfar hw235_3 GW237.out)) _).trans (hHeld.2.2.2.1)))))))), ((cell_far (p := ⟨gb237, _, none⟩) (zx (zfar hw235_4 GW237.out)) _).trans (((cell_far (p := ⟨gb237, _, none⟩) (zx (zfar hw235_4 GW237.out)) _).trans (((cell_far (p := ⟨gb237, _, none⟩) (zx (zfar hw235_4 GW237.out)) _).trans (((cell_far (p := ⟨gb237, _, none⟩) (zx (zfar hw235_4 GW237.out)) _).trans (hHeld.2.2.2.2.1)))))))), ((cell_far (p := ⟨gb237, _, none⟩) (zx (zfar hw236_0 GW237.out)) _).trans (((cell_far (p := ⟨gb237, _, none⟩) (zx (zfar hw236_0 GW237.out)) _).trans (((cell_far (p := ⟨gb237, _, none⟩) (zx (zfar hw236_0 GW237.out)) _).trans (((cell_far (p := ⟨gb237, _, none⟩) (zx (zfar hw236_0 GW237.out)) _).trans (hHeld.2.2.2.2.2.1)))))))), ((cell_far (p := ⟨gb237, _, none⟩) (zx (zfar hw236_1 GW237.out)) _).trans (((cell_far (p := ⟨gb237, _, none⟩) (zx (zfar hw236_1 GW237.out)) _).trans (((cell_far (p := ⟨gb237, _, none⟩) (zx (zfar hw236_1 GW237.out)) _).trans (((cell_far (p := ⟨gb237, _, none⟩) (zx (zfar hw236_1 GW237.out)) _).trans (hHeld.2.2.2.2.2.2.1)))))))), ((cell_far (p := ⟨gb237, _, none⟩) (zx (zfar hw236_2 GW237.out)) _).trans (((cell_far (p := ⟨gb237, _, none⟩) (zx (zfar hw236_2 GW237.out)) _).trans (((cell_far (p := ⟨gb237, _, none⟩) (zx (zfar hw236_2 GW237.out)) _).trans (((cell_far (p := ⟨gb237, _, none⟩) (zx (zfar hw236_2 GW237.out)) _).trans (hHeld.2.2.2.2.2.2.2.1)))))))), ((cell_far (p := ⟨gb237, _, none⟩) (zx (zfar hw236_3 GW237.out)) _).trans (((cell_far (p := ⟨gb237, _, none⟩) (zx (zfar hw236_3 GW237.out)) _).trans (((cell_far (p := ⟨gb237, _, none⟩) (zx (zfar hw236_3 GW237.out)) _).trans (((cell_far (p := ⟨gb237, _, none⟩) (zx (zfar hw236_3 GW237.out)) _).trans (hHeld.2.2.2.2.2.2.2.2.1)))))))), ((cell_far (p := ⟨gb237, _, none⟩) (zx (zfar hw236_4 GW237.out)) _).trans (((cell_far (p := ⟨gb237, _, none⟩) (zx (zfar hw236_4 GW237.out)) _).trans (((cell_far (p := ⟨gb237, _, none⟩) (zx (zfar hw236_4 GW237.out)) _).trans (((cell_far (p := ⟨gb237, _, none⟩) (zx (zfar hw236_4 GW237.out)) _).trans (hHeld.2.2.2.2.2.2.2.2.2))))))))⟩ (fun hHeld => ?_)
     clear hK K
     refine done_ (done_of HT_.out (by kernel_rfl)) ?_
     have p238 : 0 ≤ (0 : Int) := (by omega)
     have q238 : 0 < (l2.length : Int) := zdec
     obtain ⟨ad238, e238, hx238_0, hx238_1, hx238_2, hx238_3, hx238_4⟩ := at_T51 HR2.out 0 p238 q238
     obtain rfl : ad235 = ad238 := (by injection e238)
     have qi238 : (0 < l2.length) = True := eq_true (by omega)
     (try rw [show ((0 : Int)).toNat = 0 from rfl] at hx238_0)
     (try rw [show 0 * 5 = 0 from rfl] at hx238_0)
     (try rw [Addr.add_zero'] at hx238_0)
     (try rw [show ((0 : Int)).toNat = 0 from rfl] at hx238_1)
     (try rw [show 0 * 5 = 0 from rfl] at hx238_1)
     (try rw [Addr.add_zero'] at hx238_1)
     (try rw [show ((0 : Int)).toNat = 0 from rfl] at hx238_2)
     (try rw [show 0 * 5 = 0 from rfl] at hx238_2)
     (try rw [Addr.add_zero'] at hx238_2)
     (try rw [show ((0 : Int)).toNat = 0 from rfl] at hx238_3)
     (try rw [show 0 * 5 = 0 from rfl] at hx238_3)
     (try rw [Addr.add_zero'] at hx238_3)
     (try rw [show ((0 : Int)).toNat = 0 from rfl] at hx238_4)
     (try rw [show 0 * 5 = 0 from rfl] at hx238_4)
     (try rw [Addr.add_zero'] at hx238_4)
     have hn238_0 : ad235.block ≠ gb237 := zx (zfar hx238_0 GW237.out)
     have hn238_1 : ad235.block ≠ gb237 := zx (zfar hx238_0 GW237.out)
     have hn238_2 : ad235.block ≠ gb237 := zx (zfar hx238_0 GW237.out)
     have hn238_3 : ad235.block ≠ gb237 := zx (zfar hx238_0 GW237.out)
     replace hx238_0 := zh HB.out hx238_0
     replace hx238_1 := zh HB.out hx238_1
     replace hx238_2 := zh HB.out hx238_2
     replace hx238_3 := zh HB.out hx238_3
     replace hx238_4 := zh HB.out hx238_4
     replace hx238_0 := (cell_far (p := ⟨gb237, 0, none⟩) (zy hn238_0) (.bool true)).trans hx238_0
     replace hx238_1 := (cell_far (p := ⟨gb237, 0, none⟩) (zy hn238_0) (.bool true)).trans hx238_1
     replace hx238_2 := (cell_far (p := ⟨gb237, 0, none⟩) (zy hn238_0) (.bool true)).trans hx238_2
     replace hx238_3 := (cell_far (p := ⟨gb237, 0, none⟩) (zy hn238_0) (.bool true)).trans hx238_3
     replace hx238_4 := (cell_far (p := ⟨gb237, 0, none⟩) (zy hn238_0) (.bool true)).trans hx238_4
     replace hx238_0 := (cell_far (p := ⟨gb237, 1, none⟩) (zy hn238_1) (.int .i64 0)).trans hx238_0
     replace hx238_1 := (cell_far (p := ⟨gb237, 1, none⟩) (zy hn238_1) (.int .i64 0)).trans hx238_1
     replace hx238_2 := (cell_far (p := ⟨gb237, 1, none⟩) (zy hn238_1) (.int .i64 0)).trans hx238_2
     replace hx238_3 := (cell_far (p := ⟨gb237, 1, none⟩) (zy hn238_1) (.int .i64 0)).trans hx238_3
     replace hx238_4 := (cell_far (p := ⟨gb237, 1, none⟩) (zy hn238_1) (.int .i64 0)).trans hx238_4
     replace hx238_0 := (cell_far (p := ⟨gb237, 2, none⟩) (zy hn238_2) (.int .i64 ((rd_T51 l2 0).f2))).trans hx238_0
     replace hx238_1 := (cell_far (p := ⟨gb237, 2, none⟩) (zy hn238_2) (.int .i64 ((rd_T51 l2 0).f2))).trans hx238_1
     replace hx238_2 := (cell_far (p := ⟨gb237, 2, none⟩) (zy hn238_2) (.int .i64 ((rd_T51 l2 0).f2))).trans hx238_2
     replace hx238_3 := (cell_far (p := ⟨gb237, 2, none⟩) (zy hn238_2) (.int .i64 ((rd_T51 l2 0).f2))).trans hx238_3
     replace hx238_4 := (cell_far (p := ⟨gb237, 2, none⟩) (zy hn238_2) (.int .i64 ((rd_T51 l2 0).f2))).trans hx238_4
     replace hx238_0 := (cell_far (p := ⟨gb237, 3, none⟩) (zy hn238_3) (.int .i64 ((rd_T51 l2 0).f3))).trans hx238_0
     replace hx238_1 := (cell_far (p := ⟨gb237, 3, none⟩) (zy hn238_3) (.int .i64 ((rd_T51 l2 0).f3))).trans hx238_1
     replace hx238_2 := (cell_far (p := ⟨gb237, 3, none⟩) (zy hn238_3) (.int .i64 ((rd_T51 l2 0).f3))).trans hx238_2
     replace hx238_3 := (cell_far (p := ⟨gb237, 3, none⟩) (zy hn238_3) (.int .i64 ((rd_T51 l2 0).f3))).trans hx238_3
     replace hx238_4 := (cell_far (p := ⟨gb237, 3, none⟩) (zy hn238_3) (.int .i64 ((rd_T51 l2 0).f3))).trans hx238_4
     clear hn238_0
     clear hn238_1
     clear hn238_2
     clear hn238_3
     replace p238 := eq_true p238
     replace q238 := eq_true q238
     have hnb32 := NB230_231.out
     have hnc32 := NB231_230.out
     have hnb33 := NB230_237.out
     have hnc33 := NB237_230.out
     have hcz34_0 := zc BK230.out 0
     have hcz34_1 := zc BK230.out 1
     have hfz34_0 := blk_frozen BK230.out 0
     have hfz34_1 := blk_frozen BK230.out 1
     have hnb35 := NB237_231.out
     have hnc35 := NB231_237.out
     have hcz36_0 := zc BK237.out 0
     have hcz36_1 := zc BK237.out 1
     have hcz36_2 := zc BK237.out 2
     have hcz36_3 := zc BK237.out 3
     have hfz36_0 := blk_frozen BK237.out 0
     have hfz36_1 := blk_frozen BK237.out 1
     have hfz36_2 := blk_frozen BK237.out 2
     have hfz36_3 := blk_frozen BK237.out 3
     try go_wp2_with (first | (go_at_call 30; (with_reducible refine (cellarref7_Put.calls k1 a0_0 a0_1 a1 true 0 ((rd_T51 l2 0).f2) ((rd_T51 l2 0).f3) t239 _ A23.out).mono ?_); rintro e w37 ⟨v240, rfl, ho0, hb⟩; have HO241 := Aside0.mk (Kd.R_lower ho0 (below_size (zw3 HB.out GE230.out GE231.out GE237.out))); have n1_ := Aside0.mk (blk_below (g := gb230) (o := .cells #[.bool a0_0, .int .i64 a0_1] 38 (0, 0)) (zf1 BK230.out NB230_237.out) hb); have n2_ := Aside0.mk (blk_below (g := gb231) (o := .cells #[.bool x232000_1, .int .i64 x232001_1, .int .i64 x232002_1, .int .i64 x232003_1] 33 (0, 0)) (zf1 BK231.out NB231_237.out) hb); have n3_ := Aside0.mk (blk_below (g := gb237) (o := .cells #[.bool true, .int .i64 0, .int .i64 ((rd_T51 l2 0).f2), .int .i64 ((rd_T51 l2 0).f3)] 33 (0, 0)) (by (with_reducible repeat (first | refine blk_drewN ?_ _ | refine blk_drew ?_ | refine blk_alloc ?_ _)); refine blk_put (cs := #[.bool true, .int .i64 0, .int .i64 ((rd_T51 l2 0).f2), .int .i64 0]) ?_ 3 _ rfl; (with_reducible repeat (first | refine blk_drewN ?_ _ | refine blk_drew ?_ | refine blk_alloc ?_ _)); refine blk_put (cs := #[.bool true, .int .i64 0, .int .i64 0, .int .i64 0]) ?_ 2 _ rfl; (with_reducible repeat (first | refine blk_drewN ?_ _ | refine blk_drew ?_ | refine blk_alloc ?_ _)); refine blk_put (cs := #[.bool true, .int .i64 0, .int .i64 0, .int .i64 0]) ?_ 1 _ rfl; (with_reducible repeat (first | refine blk_drewN ?_ _ | refine blk_drew ?_ | refine blk_alloc ?_ _)); refine blk_put (cs := #[.bool false, .int .i64 0, .int .i64 0, .int .i64 0]) ?_ 0 _ rfl; (with_reducible repeat (first | refine blk_drewN ?_ _ | refine blk_drew ?_ | refine blk_alloc ?_ _)); exact BK237.out) hb); have n4_ := Aside0.mk (below_step (zw3 HB.out GE230.out GE231.out GE237.out) hb); clear BK230 BK231 BK237 HB; have BK230 := n1_; have BK231 := n2_; have BK237 := n3_; have HB := n4_; clear n1_ n2_ n3_ n4_; (try clear hb); (try clear hb2); (try clear hk); (try clear hi); (try clear ho0); obtain ⟨Ao38, co38, eo38⟩ := Kd.R_slice HO241.out; subst eo38) | (go_at_call 24; (with_reducible refine (cellarref0_EqBytes.calls k1 _ _ t239 _ _ l2 true _ ?side1 ?side2 ?side3 ?side4 A24.out).mono ?_); (case side1 => repeat (first | exact (Kd.R_reads' HO241.out).2.2 | (with_reducible refine Kd.C_alloc ?_ _) | (with_reducible refine Kd.C_drewN ?_ _) | (with_reducible refine Kd.C_drew ?_))); (case side2 => exact (Kd.R_reads' HO241.out).2.1); (case side3 => repeat (first | exact (Kd.C_below HR2.out HB.out) | (with_reducible refine Kd.C_alloc ?_ _) | (with_reducible refine Kd.C_drewN ?_ _) | (with_reducible refine Kd.C_drew ?_))); (case side4 => exact HC2.out); rintro e w' ⟨rfl, ⟨nd, rfl⟩⟩; (try (rw [drewN_self w37]; generalize hq_ : World.drewN w37 _ = w37; have n0_ : Aside0 (Kd.R k51 51 w37 w.heap.size (fun _ => True) (.slice Ao38 t239.length co38) t239) := ⟨by rw [← hq_]; exact (by (with_reducible repeat (first | apply Kd.R_alloc | apply Kd.R_drewN | apply Kd.R_drew)); exact HO241.out)⟩; have n1_ : Aside0 (w37.heap[gb230]? = some (.cells #[.bool a0_0, .int .i64 a0_1] 38 (0, 0))) := ⟨by rw [← hq_]; exact (zb BK230.out)⟩; have n2_ : Aside0 (w37.heap[gb231]? = some (.cells #[.bool x232000_1, .int .i64 x232001_1, .int .i64 x232002_1, .int .i64 x232003_1] 33 (0, 0))) := ⟨by rw [← hq_]; exact (zb BK231.out)⟩; have n3_ : Aside0 (w37.heap[gb237]? = some (.cells #[.bool true, .int .i64 0, .int .i64 ((rd_T51 l2 0).f2), .int .i64 ((rd_T51 l2 0).f3)] 33 (0, 0))) := ⟨by rw [← hq_]; exact (zb BK237.out)⟩; have n4_ : Aside0 (Below w.heap.size w w37) := ⟨by rw [← hq_]; exact (zw3 HB.out GE230.out GE231.out GE237.out)⟩; clear HO241 BK230 BK231 BK237 HB hq_; have HO241 := n0_; have BK230 := n1_; have BK231 := n2_; have BK237 := n3_; have HB := n4_; clear n0_ n1_ n2_ n3_ n4_)); have hcz39_0 := zc BK237.out 0; have hcz39_1 := zc BK237.out 1; have hcz39_2 := zc BK237.out 2; have hcz39_3 := zc BK237.out 3; have hfz39_0 := blk_frozen BK237.out 0; have hfz39_1 := blk_frozen BK237.out 1; have hfz39_2 := blk_frozen BK237.out 2; have hfz39_3 := blk_frozen BK237.out 3; have hcz40_0 := zc BK231.out 0; have hcz40_1 := zc BK231.out 1; have hcz40_2 := zc BK231.out 2; have hcz40_3 := zc BK231.out 3; have hfz40_0 := blk_frozen BK231.out 0; have hfz40_1 := blk_frozen BK231.out 1; have hfz40_2 := blk_frozen BK231.out 2; have hfz40_3 := blk_frozen BK231.out 3))
     refine bodyPost_ret (results_ct rfl _ _ gb231 33 #[.bool true, .int .i64 0, .int .i64 ((rd_T51 l2 0).f2), .int .i64 ((rd_T51 l2 0).f3)] (0, 0) _ rfl (by (with_reducible repeat (first | refine blk_drewN ?_ _ | refine blk_drew ?_ | refine blk_alloc ?_ _)); refine blk_put (cs := #[.bool true, .int .i64 0, .int .i64 ((rd_T51 l2 0).f2), .int .i64 x232003_1]) ?_ 3 _ rfl; (with_reducible repeat (first | refine blk_drewN ?_ _ | refine blk_drew ?_ | refine blk_alloc ?_ _)); refine blk_put (cs := #[.bool true, .int .i64 0, .int .i64 x232002_1, .int .i64 x232003_1]) ?_ 2 _ rfl; (with_reducible repeat (first | refine blk_drewN ?_ _ | refine blk_drew ?_ | refine blk_alloc ?_ _)); refine blk_put (cs := #[.bool true, .int .i64 x232001_1, .int .i64 x232002_1, .int .i64 x232003_1]) ?_ 1 _ rfl; (with_reducible repeat (first | refine blk_drewN ?_ _ | refine blk_drew ?_ | refine blk_alloc ?_ _)); refine blk_put (cs := #[.bool x232000_1, .int .i64 x232001_1, .int .i64 x232002_1, .int .i64 x232003_1]) ?_ 0 _ rfl; (with_reducible repeat (first | refine blk_drewN ?_ _ | refine blk_drew ?_ | refine blk_alloc ?_ _)); exact BK231.out) Try.underlying33 rfl (by kernel_rfl)) rfl ?_
     exact ⟨ze, zw3 HB.out GE230.out GE231.out GE237.out⟩
    ·rw [if_neg c12] at H
     have c12b0 : (a1 == 7) = false := beq_eq_false_iff_ne.mpr c12
     have c12b1 : (a1 != 7) = true := bne_iff_ne.mpr c12
     by_cases c64 : x8_1 > 0
     ·rw [if_pos c64] at H
      have c64b0 : decide (0 < x8_1) = true := decide_eq_true c64
      clear c64
      simp only [Option.some.injEq, Prod.mk.injEq] at H
      obtain ⟨rfl, rfl, rfl, rfl, rfl⟩ := H
      have hnb65 := NB231_230.out
      have hnc65 := NB230_231.out
      have hcz66_0 := zc BK231.out 0
      have hcz66_1 := zc BK231.out 1
      have hcz66_2 := zc BK231.out 2
      have hcz66_3 := zc BK231.out 3
      have hfz66_0 := blk_frozen BK231.out 0
      have hfz66_1 := blk_frozen BK231.out 1
      have hfz66_2 := blk_frozen BK231.out 2
      have hfz66_3 := blk_frozen BK231.out 3
      go_wp2
      refine bodyPost_ret (results_ct rfl _ _ gb231 33 #[.bool false, .int .i64 0, .int .i64 0, .int .i64 0] (0, 0) _ rfl (by (with_reducible repeat (first | refine blk_drewN ?_ _ | refine blk_drew ?_ | refine blk_alloc ?_ _)); refine blk_put (cs := #[.bool false, .int .i64 0, .int .i64 0, .int .i64 x232003_1]) ?_ 3 _ rfl; (with_reducible repeat (first | refine blk_drewN ?_ _ | refine blk_drew ?_ | refine blk_alloc ?_ _)); refine blk_put (cs := #[.bool false, .int .i64 0, .int .i64 x232002_1, .int .i64 x232003_1]) ?_ 2 _ rfl; (with_reducible repeat (first | refine blk_drewN ?_ _ | refine blk_drew ?_ | refine blk_alloc ?_ _)); refine blk_put (cs := #[.bool false, .int .i64 x232001_1, .int .i64 x232002_1, .int .i64 x232003_1]) ?_ 1 _ rfl; (with_reducible repeat (first | refine blk_drewN ?_ _ | refine blk_drew ?_ | refine blk_alloc ?_ _)); refine blk_put (cs := #[.bool x232000_1, .int .i64 x232001_1, .int .i64 x232002_1, .int .i64 x232003_1]) ?_ 0 _ rfl; (with_reducible repeat (first | refine blk_drewN ?_ _ | refine blk_drew ?_ | refine blk_alloc ?_ _)); exact BK231.out) Try.underlying33 rfl (by kernel_rfl)) rfl ?_
      exact ⟨ze, zw2 HB.out GE230.out GE231.out⟩
     ·rw [if_neg c64] at H
      have c64b0 : decide (0 < x8_1) = false := decide_eq_false c64
      clear c64
      have H' := Aside0.mk H
      clear H
      go_wp2
      go_loopg [12, 13] k1 (fun kq v12 v13 w' => ∃ (x12_2 : Int) (x13_2 : Int), v12 = .int .i64 x12_2 ∧ v13 = .int .i64 x13_2 ∧ Aside0 (cellarref7_Get.l2 kq l2 x12_2 x13_2 a0_0 a0_1 = some (r1, r2, r3, r4, r5)) ∧ Aside0 (kq ≤ k1) ∧ Aside0 (w'.heap[gb230]? = some (.cells #[.bool a0_0, .int .i64 a0_1] 38 (0, 0))) ∧ Aside0 (w'.heap[gb231]? = some (.cells #[.bool x232000_1, .int .i64 x232001_1, .int .i64 x232002_1, .int .i64 x232003_1] 33 (0, 0))) ∧ Aside0 (Below w.heap.size w w'))
      case atStart => exact ⟨(0), (0), (zr), (zr), H', ⟨Nat.le_refl _⟩, ⟨zb BK230.out⟩, ⟨zb BK231.out⟩, ⟨zw2 HB.out GE230.out GE231.out⟩⟩
      case round =>
       clear H'
       try clear c1; try clear c2; try clear p2; try clear q2; try clear qi2; try clear c4; try clear c5; try clear c6; try clear c12; try clear c12b0; try clear c12b1; try clear c21; try clear c22; try clear c22b0; try clear c22b1; try clear p23; try clear q23; try clear qi23; try clear c47; try clear c48; try clear c50; try clear c61; try clear c62; try clear c64; try clear c64b0; try clear c65; try clear p235; try clear p236; try clear p238; try clear q235; try clear q236; try clear q238
       obtain ⟨x12_2, x13_2, rfl, rfl, HA, HK2, BK230, BK231, HB⟩ := hrel
       cases gk with
       | zero => exact absurd HA.out (by simp [cellarref7_Get.l2])
       | succ k2 =>
        have H := HA.out
        clear HA
        simp only [cellarref7_Get.l2] at H
        by_cases c67 : x13_2 < (l2.length : Int)
        ·rw [if_pos c67] at H
         have c67b0 : decide (x13_2 < (l2.length : Int)) = true := decide_eq_true c67
         clear c67
         by_cases c68 : a0_0 = true
         ·subst c68
          have H1 : (if 0 ≤ x13_2 then (cellarref7_Get.l2 k2 l2 (Go.bits .or .i64 (wrap64 (x12_2 * 256)) ((rd_T51 l2 x13_2).f1)) (wrap64 (x13_2 + 1)) true a0_1) else (none)) = some (r1, r2, r3, r4, r5) := by rw [if_pos rfl] at H; exact H
          clear H
          have H := H1
          clear H1
          by_cases c69 : 0 ≤ x13_2
          rotate_left
          ·rw [if_neg c69] at H
           exact absurd H (by simp)
          rw [if_pos c69] at H
          have c69b0 : decide (0 ≤ x13_2) = true := decide_eq_true c69
          clear c69
          have H' := Aside0.mk H
          clear H
          have hnb70 := NB230_231.out
          have hnc70 := NB231_230.out
          have hcz71_0 := zc BK230.out 0
          have hcz71_1 := zc BK230.out 1
          have hfz71_0 := blk_frozen BK230.out 0
          have hfz71_1 := blk_frozen BK230.out 1
          have p243 : 0 ≤ (x13_2 : Int) := zdec
          have q243 : x13_2 < (l2.length : Int) := zdec
          obtain ⟨ad243, e243, hx243_0, hx243_1, hx243_2, hx243_3, hx243_4⟩ := at_T51 HR2.out x13_2 p243 q243
          cases e243
          replace hx243_0 := zh HB.out hx243_0
          replace hx243_1 := zh HB.out hx243_1
          replace hx243_2 := zh HB.out hx243_2
          replace hx243_3 := zh HB.out hx243_3
          replace hx243_4 := zh HB.out hx243_4
          replace p243 := eq_true p243
          replace q243 := eq_true q243
          go_wp2
          go_roundg k2
          case measure => have := HK1.out; have := HK2.out; omega
          case rel => exact ⟨(Go.bits .or .i64 (wrap64 (x12_2 * 256)) ((rd_T51 l2 x13_2).f1)), (wrap64 (x13_2 + 1)), (zr), (zr), H', ⟨by have := HK1.out; have := HK2.out; omega⟩, ⟨zb BK230.out⟩, ⟨zb BK231.out⟩, ⟨zw2 HB.out GE230.out GE231.out⟩⟩
         replace c68 := Bool.eq_false_iff.mpr c68
         subst c68
         have H1 : (if 0 ≤ (wrap64 ((wrap64 ((l2.length : Int) - 1)) - x13_2)) then (if (wrap64 ((wrap64 ((l2.length : Int) - 1)) - x13_2)) < (l2.length : Int) then (cellarref7_Get.l2 k2 l2 (Go.bits .or .i64 (wrap64 (x12_2 * 256)) ((rd_T51 l2 (wrap64 ((wrap64 ((l2.length : Int) - 1)) - x13_2))).f1)) (wrap64 (x13_2 + 1)) false a0_1) else (none)) else (none)) = some (r1, r2, r3, r4, r5) := by rw [if_neg (show ¬ (false = true) by decide)] at H; exact H
         clear H
         have H := H1
         clear H1
         obtain ⟨ji72, hji72⟩ : ∃ j_ : Int, (wrap64 ((wrap64 ((l2.length : Int) - 1)) - x13_2)) = j_ := ⟨_, rfl⟩
         replace H : (if 0 ≤ (ji72) then (if (ji72) < (l2.length : Int) then (cellarref7_Get.l2 k2 l2 (Go.bits .or .i64 (wrap64 (x12_2 * 256)) ((rd_T51 l2 (ji72)).f1)) (wrap64 (x13_2 + 1)) false a0_1) else (none)) else (none)) = some (r1, r2, r3, r4, r5) := by first | (rw [hji72] at H; exact H) | (simp only [hji72] at H ⊢; exact H)
         have hji72w : (IntKind.i64.wrap ((wrap64 ((l2.length : Int) - 1)) - x13_2)) = ji72 := (i64_w _).trans hji72
         by_cases c73 : 0 ≤ (ji72)
         rotate_left
         ·rw [if_neg c73] at H
          exact absurd H (by simp)
         rw [if_pos c73] at H
         have c73b0 : decide (0 ≤ (ji72)) = true := decide_eq_true c73
         clear c73
         by_cases c74 : (ji72) < (l2.length : Int)
         rotate_left
         ·rw [if_neg c74] at H
          exact absurd H (by simp)
         rw [if_pos c74] at H
         have c74b0 : decide ((ji72) < (l2.length : Int)) = true := decide_eq_true c74
         clear c74
         have H' := Aside0.mk H
         clear H
         have hnb75 := NB230_231.out
         have hnc75 := NB231_230.out
         have hcz76_0 := zc BK230.out 0
         have hcz76_1 := zc BK230.out 1
         have hfz76_0 := blk_frozen BK230.out 0
         have hfz76_1 := blk_frozen BK230.out 1
         have p244 : 0 ≤ ((ji72) : Int) := zdec
         have q244 : (ji72) < (l2.length : Int) := zdec
         obtain ⟨ad244, e244, hx244_0, hx244_1, hx244_2, hx244_3, hx244_4⟩ := at_T51 HR2.out (ji72) p244 q244
         cases e244
         replace hx244_0 := zh HB.out hx244_0
         replace hx244_1 := zh HB.out hx244_1
         replace hx244_2 := zh HB.out hx244_2
         replace hx244_3 := zh HB.out hx244_3
         replace hx244_4 := zh HB.out hx244_4
         replace p244 := eq_true p244
         replace q244 := eq_true q244
         go_wp2
         go_roundg k2
         case measure => have := HK1.out; have := HK2.out; omega
         case rel => exact ⟨(Go.bits .or .i64 (wrap64 (x12_2 * 256)) ((rd_T51 l2 (ji72)).f1)), (wrap64 (x13_2 + 1)), (by first | rfl | (simp; done) | (simp only [← hji72] <;> (first | rfl | simp)) | (simp [*]; done)), (zr), H', ⟨by have := HK1.out; have := HK2.out; omega⟩, ⟨zb BK230.out⟩, ⟨zb BK231.out⟩, ⟨zw2 HB.out GE230.out GE231.out⟩⟩
        ·rw [if_neg c67] at H
         have c67b0 : decide (x13_2 < (l2.length : Int)) = false := decide_eq_false c67
         clear c67
         simp only [Option.some.injEq, Prod.mk.injEq] at H
         obtain ⟨rfl, rfl, rfl, rfl, rfl⟩ := H
         have hnb77 := NB231_230.out
         have hnc77 := NB230_231.out
         have hcz78_0 := zc BK231.out 0
         have hcz78_1 := zc BK231.out 1
         have hcz78_2 := zc BK231.out 2
         have hcz78_3 := zc BK231.out 3
         have hfz78_0 := blk_frozen BK231.out 0
         have hfz78_1 := blk_frozen BK231.out 1
         have hfz78_2 := blk_frozen BK231.out 2
         have hfz78_3 := blk_frozen BK231.out 3
         go_wp2
         refine bodyPost_ret (results_ct rfl _ _ gb231 33 #[.bool false, .int .i64 x12_2, .int .i64 0, .int .i64 0] (0, 0) _ rfl (by (with_reducible repeat (first | refine blk_drewN ?_ _ | refine blk_drew ?_ | refine blk_alloc ?_ _)); refine blk_put (cs := #[.bool false, .int .i64 x12_2, .int .i64 0, .int .i64 x232003_1]) ?_ 3 _ rfl; (with_reducible repeat (first | refine blk_drewN ?_ _ | refine blk_drew ?_ | refine blk_alloc ?_ _)); refine blk_put (cs := #[.bool false, .int .i64 x12_2, .int .i64 x232002_1, .int .i64 x232003_1]) ?_ 2 _ rfl; (with_reducible repeat (first | refine blk_drewN ?_ _ | refine blk_drew ?_ | refine blk_alloc ?_ _)); refine blk_put (cs := #[.bool false, .int .i64 x232001_1, .int .i64 x232002_1, .int .i64 x232003_1]) ?_ 1 _ rfl; (with_reducible repeat (first | refine blk_drewN ?_ _ | refine blk_drew ?_ | refine blk_alloc ?_ _)); refine blk_put (cs := #[.bool x232000_1, .int .i64 x232001_1, .int .i64 x232002_1, .int .i64 x232003_1]) ?_ 0 _ rfl; (with_reducible repeat (first | refine blk_drewN ?_ _ | refine blk_drew ?_ | refine blk_alloc ?_ _)); exact BK231.out) Try.underlying33 rfl (by kernel_rfl)) rfl ?_
         exact ⟨ze, zw2 HB.out GE230.out GE231.out⟩

end Go.Proofs.Ythhdmanpjeminaa.H
