-- Written by this session's own edition of the print.
import Derived.Test.YtjoplkillkhiaaaDx0
import Derived.Test.YtjoplkillkhiaaaDx6
import Derived.Test.YtjoplkillkhiaaaDx13
import Derived.Test.YtjoplkillkhiaaaSq
import Derived.Test.YtjoplkillkhiaaaSq2
namespace Go.Proofs.Ytjoplkillkhiaaa.D
open Go.RowKit Go.Proofs.Ytjoplkillkhiaaa.Fn Go.Proofs.YtjoplkillkhiaaaW.PrintWords Go.Proofs.YtjoplkillkhiaaaW.PrintLast Go.Proofs.YtjoplkillkhiaaaW.PrintMore
attribute [local go_sem] max2_int min2_int max_two min_two max_three min_three max_four min_four   -- for this text's walks alone
set_option linter.unusedVariables false
set_option linter.unusedSimpArgs false

/-! cellarref7_Get -/
mutual
def cellarref7_Get.l0 : Nat → Int → List (S74) → Int → Int → Bool → Int → Option (Bool × Int × Int × Int × Int)
 | 0, _, _, _, _, _, _ => none
 | k + 1, x1, x2, x8, x9, x322000, x322001 => if x9 < (x2.length : Int) then (if 0 ≤ x9 then (if ((rd_T74 x2 x9).f0) = 0 then (some (false, 0, 0, 0, 7)) else (if ((rd_T74 x2 x9).f0) = 2 then (cellarref7_Get.l0 k x1 x2 (wrap64 (x8 + 1)) (wrap64 (x9 + 1)) x322000 x322001) else (cellarref7_Get.l0 k x1 x2 x8 (wrap64 (x9 + 1)) x322000 x322001))) else (none)) else (if x1 = 7 then (if x8 = 0 then (cellarref7_Get.l1 k x2 0) else (if 0 < (x2.length : Int) then (if ((rd_T74 x2 0).f0) = 2 then ((cellarref7_Put.f k x322000 x322001 x1 true 0 ((rd_T74 x2 0).f2) ((rd_T74 x2 0).f3)).bind fun t330 => ((cellarref0_EqBytes.f k t330 x2).bind fun t333 => (if t333 = true then (some (true, 0, (rd_T74 x2 0).f2, (rd_T74 x2 0).f3, 0)) else (some (false, 0, 0, 0, 8))))) else (some (false, 0, 0, 0, 8))) else (none))) else (if x8 > 0 then (some (false, 0, 0, 0, 8)) else (cellarref7_Get.l2 k x2 0 0 x322000 x322001)))
def cellarref7_Get.l1 : Nat → List (S74) → Int → Option (Bool × Int × Int × Int × Int)
 | 0, _, _ => none
 | k + 1, x2, x10 => if x10 < (x2.length : Int) then (if 0 ≤ x10 then (if ((rd_T74 x2 x10).f1) = 0 then (cellarref7_Get.l1 k x2 (wrap64 (x10 + 1))) else (some (false, 0, 0, 0, 8))) else (none)) else (some (true, 0, 0, 0, 0))
def cellarref7_Get.l2 : Nat → List (S74) → Int → Int → Bool → Int → Option (Bool × Int × Int × Int × Int)
 | 0, _, _, _, _, _ => none
 | k + 1, x2, x12, x13, x322000, x322001 => if x13 < (x2.length : Int) then (if x322000 = true then (if 0 ≤ x13 then (cellarref7_Get.l2 k x2 (Go.bits .or .i64 (wrap64 (x12 * 256)) ((rd_T74 x2 x13).f1)) (wrap64 (x13 + 1)) x322000 x322001) else (none)) else (if 0 ≤ (wrap64 ((wrap64 ((x2.length : Int) - 1)) - x13)) then (if (wrap64 ((wrap64 ((x2.length : Int) - 1)) - x13)) < (x2.length : Int) then (cellarref7_Get.l2 k x2 (Go.bits .or .i64 (wrap64 (x12 * 256)) ((rd_T74 x2 (wrap64 ((wrap64 ((x2.length : Int) - 1)) - x13))).f1)) (wrap64 (x13 + 1)) x322000 x322001) else (none)) else (none))) else (some (false, x12, 0, 0, 0))
end
def cellarref7_Get.f (k : Nat) (a0_0 : Bool) (a0_1 : Int) (a1 : Int) (l2 : List (S74)) : Option (Bool × Int × Int × Int × Int) := cellarref7_Get.l0 k a1 l2 0 0 a0_0 a0_1
theorem cellarref7_Get.mono_l : ∀ k, (∀ y0 y1 y2 y3 y4 y5, LeO (cellarref7_Get.l0 k y0 y1 y2 y3 y4 y5) (cellarref7_Get.l0 (k + 1) y0 y1 y2 y3 y4 y5)) ∧ (∀ y0 y1, LeO (cellarref7_Get.l1 k y0 y1) (cellarref7_Get.l1 (k + 1) y0 y1)) ∧ (∀ y0 y1 y2 y3 y4, LeO (cellarref7_Get.l2 k y0 y1 y2 y3 y4) (cellarref7_Get.l2 (k + 1) y0 y1 y2 y3 y4))
 | 0 => ⟨fun _ _ _ _ _ _ r h => by simp [cellarref7_Get.l0] at h, fun _ _ r h => by simp [cellarref7_Get.l1] at h, fun _ _ _ _ _ r h => by simp [cellarref7_Get.l2] at h⟩
 | k + 1 => by
  obtain ⟨ih0, ih1, ih2⟩ := cellarref7_Get.mono_l k
  refine ⟨?_, ?_, ?_⟩
  ·intro y0 y1 y2 y3 y4 y5
   unfold cellarref7_Get.l0
   repeat' first
   | (with_reducible apply ih0)
   | (with_reducible apply ih1)
   | (with_reducible apply ih2)
   | (with_reducible apply cellarref0_EqBytes.mono)
   | (with_reducible apply cellarref7_Put.mono)
   | (with_reducible apply LeO.refl)
   | (with_reducible apply LeO.none)
   | (with_reducible refine LeO.ite ?_ ?_)
   | (with_reducible refine LeO.bind ?_ (fun _ => ?_))
  ·intro y0 y1
   unfold cellarref7_Get.l1
   repeat' first
   | (with_reducible apply ih0)
   | (with_reducible apply ih1)
   | (with_reducible apply ih2)
   | (with_reducible apply cellarref0_EqBytes.mono)
   | (with_reducible apply cellarref7_Put.mono)
   | (with_reducible apply LeO.refl)
   | (with_reducible apply LeO.none)
   | (with_reducible refine LeO.ite ?_ ?_)
   | (with_reducible refine LeO.bind ?_ (fun _ => ?_))
  ·intro y0 y1 y2 y3 y4
   unfold cellarref7_Get.l2
   repeat' first
   | (with_reducible apply ih0)
   | (with_reducible apply ih1)
   | (with_reducible apply ih2)
   | (with_reducible apply cellarref0_EqBytes.mono)
   | (with_reducible apply cellarref7_Put.mono)
   | (with_reducible apply LeO.refl)
   | (with_reducible apply LeO.none)
   | (with_reducible refine LeO.ite ?_ ?_)
   | (with_reducible refine LeO.bind ?_ (fun _ => ?_))
theorem cellarref7_Get.mono : ∀ a0 a1 a2 a3 k, LeO (cellarref7_Get.f k a0 a1 a2 a3) (cellarref7_Get.f (k + 1) a0 a1 a2 a3) := by
 intro a0 a1 a2 a3 k
 obtain ⟨ih0, ih1, ih2⟩ := cellarref7_Get.mono_l k
 unfold cellarref7_Get.f
 repeat' first
   | (with_reducible apply ih0)
   | (with_reducible apply ih1)
   | (with_reducible apply ih2)
   | (with_reducible apply cellarref0_EqBytes.mono)
   | (with_reducible apply cellarref7_Put.mono)
   | (with_reducible apply LeO.refl)
   | (with_reducible apply LeO.none)
   | (with_reducible refine LeO.ite ?_ ?_)
   | (with_reducible refine LeO.bind ?_ (fun _ => ?_))
def cellarref7_Get.T17 : Bool × List (List Nat × List Nat) := (true, [([], []), ([0], [0]), ([1], [1]), ([2], [2]), ([], []), ([4], [4]), ([5], [5]), ([6], [6]), ([3, 7], [3, 7]), ([], []), ([9, 8, 0, 1, 2, 3, 4, 5, 6, 7, 8, 9], [8, 9])])
def cellarref7_Get.B17 : List Nat := [0, 1, 3, 7, 0, 16, 48, 112, 255, 0, 1023]
theorem cellarref7_Get.tab17 : rtab .any (opsOf Try.f76 17) = cellarref7_Get.T17 := by kernel_rfl
theorem cellarref7_Get.bits17 : waitsOk cellarref7_Get.T17.2 cellarref7_Get.B17 = true := by kernel_rfl
set_option maxHeartbeats 8000000 in
set_option maxRecDepth 100000 in
theorem cellarref7_Get.calls (k : Nat) (a0_0 : Bool) (a0_1 : Int) (a1 : Int) (A2 : Option Addr) (c2 : Nat) (l2 : List (S74)) (r1 : Bool) (r2 : Int) (r3 : Int) (r4 : Int) (r5 : Int) (w : World) (hr2 : Kd.C k74 w A2 l2.length l2) (hc2 : l2.length ≤ c2) (h : cellarref7_Get.f k a0_0 a0_1 a1 l2 = some (r1, r2, r3, r4, r5)) :
  Calls Try.prog 76 #[.agg #[.bool a0_0, .int .i64 a0_1], .int .i64 a1, .slice A2 l2.length c2] w fun e w' => e = .returned (.tuple #[.agg #[.bool r1, .int .i64 r2, .int .i64 r3, .int .i64 r4], .int .i64 r5]) ∧ Below w.heap.size w w' := by
 have hu29 := Try.underlying29
 have hu62 := Try.underlying62
 have HR2 := Aside0.mk hr2
 have HC2 := Aside0.mk hc2
 clear hr2 hc2
 have HB := Aside0.mk (Below.refl w.heap.size w)
 have H : (cellarref7_Get.l0 k a1 l2 0 0 a0_0 a0_1) = some (r1, r2, r3, r4, r5) := h
 clear h
 have H' := Aside0.mk H
 clear H
 go_enter Try.func76, Try.ntmps76
 go_wp2_with (first | ((with_reducible refine gate_dst (N := 3) rfl ?_); refine zbox (N := 3) (cs := #[.bool a0_0, .int .i64 a0_1]) (t := 29) ?_; intro gb321 hg w4 hbox hb; have n0_ := Aside0.mk (below_step (zw0 HB.out) hb); have BK321 := Aside0.mk (hbox); have GW321 := Aside0.mk (zg hg (below_size (zw0 HB.out))); have GE321 := GW321; clear HB; have HB := n0_; clear n0_; clear hb hbox hg) | ((with_reducible refine gate_dst (N := 6) rfl ?_); refine zbox (N := 6) (cs := #[.bool false, .int .i64 0, .int .i64 0, .int .i64 0]) (t := 62) ?_; intro gb322 hg w5 hbox hb; have n0_ := Aside0.mk (zbb BK321.out hb); have n1_ := Aside0.mk (below_step (zw1 HB.out GE321.out) hb); have BK322 := Aside0.mk (hbox); have GW322 := Aside0.mk (zg hg (below_size (zw1 HB.out GE321.out))); have GE322 := GW322; have NB321_322 := Aside0.mk (zlt hg BK321.out); have NB322_321 := Aside0.mk (zgt hg BK321.out); clear BK321 HB; have BK321 := n0_; have HB := n1_; clear n0_ n1_; clear hb hbox hg))
 go_loopg [8, 9] k (fun kq v8 v9 w' => ∃ (x8_1 : Int) (x9_1 : Int) (x323000_1 : Bool) (x323001_1 : Int) (x323002_1 : Int) (x323003_1 : Int), v8 = .int .i64 x8_1 ∧ v9 = .int .i64 x9_1 ∧ Aside0 (cellarref7_Get.l0 kq a1 l2 x8_1 x9_1 a0_0 a0_1 = some (r1, r2, r3, r4, r5)) ∧ Aside0 (kq ≤ k) ∧ Aside0 (w'.heap[gb321]? = some (.cells #[.bool a0_0, .int .i64 a0_1] 29 (0, 0))) ∧ Aside0 (w'.heap[gb322]? = some (.cells #[.bool x323000_1, .int .i64 x323001_1, .int .i64 x323002_1, .int .i64 x323003_1] 62 (0, 0))) ∧ Aside0 (Below w.heap.size w w'))
 case atStart => exact ⟨(0), (0), (false), (0), (0), (0), (zr), (zr), H', ⟨Nat.le_refl _⟩, ⟨zb BK321.out⟩, ⟨zb BK322.out⟩, ⟨zw2 HB.out GE321.out GE322.out⟩⟩
 case round =>
  clear H'
  try clear c2
  try clear p2
  obtain ⟨x8_1, x9_1, x323000_1, x323001_1, x323002_1, x323003_1, rfl, rfl, HA, HK1, BK321, BK322, HB⟩ := hrel
  cases gk with
  | zero => exact absurd HA.out (by simp [cellarref7_Get.l0])
  | succ k1 =>
   have H := HA.out
   clear HA
   simp only [cellarref7_Get.l0] at H
   by_cases c6 : x9_1 < (l2.length : Int)
   ·rw [if_pos c6] at H
    have c6b0 : decide (x9_1 < (l2.length : Int)) = true := decide_eq_true c6
    clear c6
    by_cases c7 : 0 ≤ x9_1
    rotate_left
    ·rw [if_neg c7] at H
     exact absurd H (by simp)
    rw [if_pos c7] at H
    have c7b0 : decide (0 ≤ x9_1) = true := decide_eq_true c7
    clear c7
    by_cases c8 : ((rd_T74 l2 x9_1).f0) = 0
    ·rw [if_pos c8] at H
     have c8b0 : (((rd_T74 l2 x9_1).f0) == 0) = true := beq_iff_eq.mpr c8
     have c8b1 : (((rd_T74 l2 x9_1).f0) != 0) = false := bne_eq_false_iff_eq.mpr c8
     clear c8
     simp only [Option.some.injEq, Prod.mk.injEq] at H
     obtain ⟨rfl, rfl, rfl, rfl, rfl⟩ := H
     have p323 : 0 ≤ (x9_1 : Int) := zdec
     have q323 : x9_1 < (l2.length : Int) := zdec
     obtain ⟨ad323, e323, hx323_0, hx323_1, hx323_2, hx323_3, hx323_4⟩ := at_T74 HR2.out x9_1 p323 q323
     cases e323
     replace hx323_0 := zh HB.out hx323_0
     replace hx323_1 := zh HB.out hx323_1
     replace hx323_2 := zh HB.out hx323_2
     replace hx323_3 := zh HB.out hx323_3
     replace hx323_4 := zh HB.out hx323_4
     replace p323 := eq_true p323
     replace q323 := eq_true q323
     have hnb9 := NB322_321.out
     have hnc9 := NB321_322.out
     have hcz10_0 := zc BK322.out 0
     have hcz10_1 := zc BK322.out 1
     have hcz10_2 := zc BK322.out 2
     have hcz10_3 := zc BK322.out 3
     have hfz10_0 := blk_frozen BK322.out 0
     have hfz10_1 := blk_frozen BK322.out 1
     have hfz10_2 := blk_frozen BK322.out 2
     have hfz10_3 := blk_frozen BK322.out 3
     go_wp2
     refine bodyPost_ret (results_ct rfl _ _ gb322 62 #[.bool false, .int .i64 0, .int .i64 0, .int .i64 0] (0, 0) _ rfl (by (with_reducible repeat (first | refine blk_drewN ?_ _ | refine blk_drew ?_ | refine blk_alloc ?_ _)); refine blk_put (cs := #[.bool false, .int .i64 0, .int .i64 0, .int .i64 x323003_1]) ?_ 3 _ rfl; (with_reducible repeat (first | refine blk_drewN ?_ _ | refine blk_drew ?_ | refine blk_alloc ?_ _)); refine blk_put (cs := #[.bool false, .int .i64 0, .int .i64 x323002_1, .int .i64 x323003_1]) ?_ 2 _ rfl; (with_reducible repeat (first | refine blk_drewN ?_ _ | refine blk_drew ?_ | refine blk_alloc ?_ _)); refine blk_put (cs := #[.bool false, .int .i64 x323001_1, .int .i64 x323002_1, .int .i64 x323003_1]) ?_ 1 _ rfl; (with_reducible repeat (first | refine blk_drewN ?_ _ | refine blk_drew ?_ | refine blk_alloc ?_ _)); refine blk_put (cs := #[.bool x323000_1, .int .i64 x323001_1, .int .i64 x323002_1, .int .i64 x323003_1]) ?_ 0 _ rfl; (with_reducible repeat (first | refine blk_drewN ?_ _ | refine blk_drew ?_ | refine blk_alloc ?_ _)); exact BK322.out) Try.underlying62 rfl (by kernel_rfl)) rfl ?_
     exact ⟨ze, zw2 HB.out GE321.out GE322.out⟩
    rw [if_neg c8] at H
    have c8b0 : (((rd_T74 l2 x9_1).f0) == 0) = false := beq_eq_false_iff_ne.mpr c8
    have c8b1 : (((rd_T74 l2 x9_1).f0) != 0) = true := bne_iff_ne.mpr c8
    by_cases c11 : ((rd_T74 l2 x9_1).f0) = 2
    rotate_left
    ·rw [if_neg c11] at H
     have c11b0 : (((rd_T74 l2 x9_1).f0) == 2) = false := beq_eq_false_iff_ne.mpr c11
     have c11b1 : (((rd_T74 l2 x9_1).f0) != 2) = true := bne_iff_ne.mpr c11
     have H' := Aside0.mk H
     clear H
     have p323 : 0 ≤ (x9_1 : Int) := zdec
     have q323 : x9_1 < (l2.length : Int) := zdec
     obtain ⟨ad323, e323, hx323_0, hx323_1, hx323_2, hx323_3, hx323_4⟩ := at_T74 HR2.out x9_1 p323 q323
     cases e323
     replace hx323_0 := zh HB.out hx323_0
     replace hx323_1 := zh HB.out hx323_1
     replace hx323_2 := zh HB.out hx323_2
     replace hx323_3 := zh HB.out hx323_3
     replace hx323_4 := zh HB.out hx323_4
     replace p323 := eq_true p323
     replace q323 := eq_true q323
     have p324 : 0 ≤ (x9_1 : Int) := zdec
     have q324 : x9_1 < (l2.length : Int) := zdec
     obtain ⟨ad324, e324, hx324_0, hx324_1, hx324_2, hx324_3, hx324_4⟩ := at_T74 HR2.out x9_1 p324 q324
     obtain rfl : ad323 = ad324 := (by injection e324)
     replace hx324_0 := zh HB.out hx324_0
     replace hx324_1 := zh HB.out hx324_1
     replace hx324_2 := zh HB.out hx324_2
     replace hx324_3 := zh HB.out hx324_3
     replace hx324_4 := zh HB.out hx324_4
     replace p324 := eq_true p324
     replace q324 := eq_true q324
     go_wp2
     go_roundg k1
     case measure => have := HK1.out; omega
     case rel => exact ⟨(x8_1), (wrap64 (x9_1 + 1)), (x323000_1), (x323001_1), (x323002_1), (x323003_1), (zr), (zr), H', ⟨by have := HK1.out; omega⟩, ⟨zb BK321.out⟩, ⟨zb BK322.out⟩, ⟨zw2 HB.out GE321.out GE322.out⟩⟩
    rw [if_pos c11] at H
    have c11b0 : (((rd_T74 l2 x9_1).f0) == 2) = true := beq_iff_eq.mpr c11
    have c11b1 : (((rd_T74 l2 x9_1).f0) != 2) = false := bne_eq_false_iff_eq.mpr c11
    clear c11
    have H' := Aside0.mk H
    clear H
    have p323 : 0 ≤ (x9_1 : Int) := zdec
    have q323 : x9_1 < (l2.length : Int) := zdec
    obtain ⟨ad323, e323, hx323_0, hx323_1, hx323_2, hx323_3, hx323_4⟩ := at_T74 HR2.out x9_1 p323 q323
    cases e323
    replace hx323_0 := zh HB.out hx323_0
    replace hx323_1 := zh HB.out hx323_1
    replace hx323_2 := zh HB.out hx323_2
    replace hx323_3 := zh HB.out hx323_3
    replace hx323_4 := zh HB.out hx323_4
    replace p323 := eq_true p323
    replace q323 := eq_true q323
    have p324 : 0 ≤ (x9_1 : Int) := zdec
    have q324 : x9_1 < (l2.length : Int) := zdec
    obtain ⟨ad324, e324, hx324_0, hx324_1, hx324_2, hx324_3, hx324_4⟩ := at_T74 HR2.out x9_1 p324 q324
    obtain rfl : ad323 = ad324 := (by injection e324)
    replace hx324_0 := zh HB.out hx324_0
    replace hx324_1 := zh HB.out hx324_1
    replace hx324_2 := zh HB.out hx324_2
    replace hx324_3 := zh HB.out hx324_3
    replace hx324_4 := zh HB.out hx324_4
    replace p324 := eq_true p324
    replace q324 := eq_true q324
    go_wp2
    go_roundg k1
    case measure => have := HK1.out; omega
    case rel => exact ⟨(wrap64 (x8_1 + 1)), (wrap64 (x9_1 + 1)), (x323000_1), (x323001_1), (x323002_1), (x323003_1), (zr), (zr), H', ⟨by have := HK1.out; omega⟩, ⟨zb BK321.out⟩, ⟨zb BK322.out⟩, ⟨zw2 HB.out GE321.out GE322.out⟩⟩
   ·rw [if_neg c6] at H
    have c6b0 : decide (x9_1 < (l2.length : Int)) = false := decide_eq_false c6
    clear c6
    by_cases c12 : a1 = 7
    ·rw [if_pos c12] at H
     have c12b0 : (a1 == 7) = true := beq_iff_eq.mpr c12
     have c12b1 : (a1 != 7) = false := bne_eq_false_iff_eq.mpr c12
     clear c12
     by_cases c13 : x8_1 = 0
     ·rw [if_pos c13] at H
      have c13b0 : (x8_1 == 0) = true := beq_iff_eq.mpr c13
      have c13b1 : (x8_1 != 0) = false := bne_eq_false_iff_eq.mpr c13
      clear c13
      have H' := Aside0.mk H
      clear H
      go_wp2
      go_loopg [10] k1 (fun kq v10 w' => ∃ (x10_2 : Int) (x323000_2 : Bool) (x323001_2 : Int) (x323002_2 : Int) (x323003_2 : Int), v10 = .int .i64 x10_2 ∧ Aside0 (cellarref7_Get.l1 kq l2 x10_2 = some (r1, r2, r3, r4, r5)) ∧ Aside0 (kq ≤ k1) ∧ Aside0 (w'.heap[gb321]? = some (.cells #[.bool a0_0, .int .i64 a0_1] 29 (0, 0))) ∧ Aside0 (w'.heap[gb322]? = some (.cells #[.bool x323000_2, .int .i64 x323001_2, .int .i64 x323002_2, .int .i64 x323003_2] 62 (0, 0))) ∧ Aside0 (Below w.heap.size w w'))
      case atStart => exact ⟨(0), (x323000_1), (x323001_1), (x323002_1), (x323003_1), (zr), H', ⟨Nat.le_refl _⟩, ⟨zb BK321.out⟩, ⟨zb BK322.out⟩, ⟨zw2 HB.out GE321.out GE322.out⟩⟩
      case round =>
       clear H'
       try clear c1
       try clear c2
       try clear p2
       try clear p3
       try clear q3
       try clear hx3
       try clear c6
       try clear c6b0
       try clear p6
       try clear c7
       try clear c7b0
       try clear c8
       try clear c8b0
       try clear c8b1
       try clear c9
       try clear c11
       try clear c11b0
       try clear c11b1
       try clear c12
       try clear c12b0
       try clear c12b1
       try clear c13
       try clear c13b0
       try clear c13b1
       try clear hcz10_0
       try clear hcz10_1
       try clear hcz10_2
       try clear hcz10_3
       try clear hfz10_0
       try clear hfz10_1
       try clear hfz10_2
       try clear hfz10_3
       try clear hx323_0
       try clear hx323_1
       try clear hx323_2
       try clear hx323_3
       try clear hx323_4
       try clear hx324_0
       try clear hx324_1
       try clear hx324_2
       try clear hx324_3
       try clear hx324_4
       try clear p2
       try clear p323
       try clear p324
       try clear q323
       try clear q324
       obtain ⟨x10_2, x323000_2, x323001_2, x323002_2, x323003_2, rfl, HA, HK2, BK321, BK322, HB⟩ := hrel
       cases gk with
       | zero => exact absurd HA.out (by simp [cellarref7_Get.l1])
       | succ k2 =>
        have H := HA.out
        clear HA
        simp only [cellarref7_Get.l1] at H
        by_cases c14 : x10_2 < (l2.length : Int)
        rotate_left
        ·rw [if_neg c14] at H
         have c14b0 : decide (x10_2 < (l2.length : Int)) = false := decide_eq_false c14
         clear c14
         simp only [Option.some.injEq, Prod.mk.injEq] at H
         obtain ⟨rfl, rfl, rfl, rfl, rfl⟩ := H
         have hnb19 := NB322_321.out
         have hnc19 := NB321_322.out
         have hcz20_0 := zc BK322.out 0
         have hcz20_1 := zc BK322.out 1
         have hcz20_2 := zc BK322.out 2
         have hcz20_3 := zc BK322.out 3
         have hfz20_0 := blk_frozen BK322.out 0
         have hfz20_1 := blk_frozen BK322.out 1
         have hfz20_2 := blk_frozen BK322.out 2
         have hfz20_3 := blk_frozen BK322.out 3
         go_wp2
         refine bodyPost_ret (results_ct rfl _ _ gb322 62 #[.bool true, .int .i64 0, .int .i64 0, .int .i64 0] (0, 0) _ rfl (by (with_reducible repeat (first | refine blk_drewN ?_ _ | refine blk_drew ?_ | refine blk_alloc ?_ _)); refine blk_put (cs := #[.bool true, .int .i64 0, .int .i64 0, .int .i64 x323003_2]) ?_ 3 _ rfl; (with_reducible repeat (first | refine blk_drewN ?_ _ | refine blk_drew ?_ | refine blk_alloc ?_ _)); refine blk_put (cs := #[.bool true, .int .i64 0, .int .i64 x323002_2, .int .i64 x323003_2]) ?_ 2 _ rfl; (with_reducible repeat (first | refine blk_drewN ?_ _ | refine blk_drew ?_ | refine blk_alloc ?_ _)); refine blk_put (cs := #[.bool true, .int .i64 x323001_2, .int .i64 x323002_2, .int .i64 x323003_2]) ?_ 1 _ rfl; (with_reducible repeat (first | refine blk_drewN ?_ _ | refine blk_drew ?_ | refine blk_alloc ?_ _)); refine blk_put (cs := #[.bool x323000_2, .int .i64 x323001_2, .int .i64 x323002_2, .int .i64 x323003_2]) ?_ 0 _ rfl; (with_reducible repeat (first | refine blk_drewN ?_ _ | refine blk_drew ?_ | refine blk_alloc ?_ _)); exact BK322.out) Try.underlying62 rfl (by kernel_rfl)) rfl ?_
         exact ⟨ze, zw2 HB.out GE321.out GE322.out⟩
        rw [if_pos c14] at H
        have c14b0 : decide (x10_2 < (l2.length : Int)) = true := decide_eq_true c14
        clear c14
        by_cases c15 : 0 ≤ x10_2
        rotate_left
        ·rw [if_neg c15] at H
         exact absurd H (by simp)
        rw [if_pos c15] at H
        have c15b0 : decide (0 ≤ x10_2) = true := decide_eq_true c15
        clear c15
        by_cases c16 : ((rd_T74 l2 x10_2).f1) = 0
        ·rw [if_pos c16] at H
         have c16b0 : (((rd_T74 l2 x10_2).f1) == 0) = true := beq_iff_eq.mpr c16
         have c16b1 : (((rd_T74 l2 x10_2).f1) != 0) = false := bne_eq_false_iff_eq.mpr c16
         clear c16
         have H' := Aside0.mk H
         clear H
         have p325 : 0 ≤ (x10_2 : Int) := zdec
         have q325 : x10_2 < (l2.length : Int) := zdec
         obtain ⟨ad325, e325, hx325_0, hx325_1, hx325_2, hx325_3, hx325_4⟩ := at_T74 HR2.out x10_2 p325 q325
         cases e325
         replace hx325_0 := zh HB.out hx325_0
         replace hx325_1 := zh HB.out hx325_1
         replace hx325_2 := zh HB.out hx325_2
         replace hx325_3 := zh HB.out hx325_3
         replace hx325_4 := zh HB.out hx325_4
         replace p325 := eq_true p325
         replace q325 := eq_true q325
         go_wp2
         go_roundg k2
         case measure => have := HK1.out; have := HK2.out; omega
         case rel => exact ⟨(wrap64 (x10_2 + 1)), (x323000_2), (x323001_2), (x323002_2), (x323003_2), (zr), H', ⟨by have := HK1.out; have := HK2.out; omega⟩, ⟨zb BK321.out⟩, ⟨zb BK322.out⟩, ⟨zw2 HB.out GE321.out GE322.out⟩⟩
        rw [if_neg c16] at H
        have c16b0 : (((rd_T74 l2 x10_2).f1) == 0) = false := beq_eq_false_iff_ne.mpr c16
        have c16b1 : (((rd_T74 l2 x10_2).f1) != 0) = true := bne_iff_ne.mpr c16
        simp only [Option.some.injEq, Prod.mk.injEq] at H
        obtain ⟨rfl, rfl, rfl, rfl, rfl⟩ := H
        have p325 : 0 ≤ (x10_2 : Int) := zdec
        have q325 : x10_2 < (l2.length : Int) := zdec
        obtain ⟨ad325, e325, hx325_0, hx325_1, hx325_2, hx325_3, hx325_4⟩ := at_T74 HR2.out x10_2 p325 q325
        cases e325
        replace hx325_0 := zh HB.out hx325_0
        replace hx325_1 := zh HB.out hx325_1
        replace hx325_2 := zh HB.out hx325_2
        replace hx325_3 := zh HB.out hx325_3
        replace hx325_4 := zh HB.out hx325_4
        replace p325 := eq_true p325
        replace q325 := eq_true q325
        have hnb17 := NB322_321.out
        have hnc17 := NB321_322.out
        have hcz18_0 := zc BK322.out 0
        have hcz18_1 := zc BK322.out 1
        have hcz18_2 := zc BK322.out 2
        have hcz18_3 := zc BK322.out 3
        have hfz18_0 := blk_frozen BK322.out 0
        have hfz18_1 := blk_frozen BK322.out 1
        have hfz18_2 := blk_frozen BK322.out 2
        have hfz18_3 := blk_frozen BK322.out 3
        go_wp2
        refine bodyPost_ret (results_ct rfl _ _ gb322 62 #[.bool false, .int .i64 0, .int .i64 0, .int .i64 0] (0, 0) _ rfl (by (with_reducible repeat (first | refine blk_drewN ?_ _ | refine blk_drew ?_ | refine blk_alloc ?_ _)); refine blk_put (cs := #[.bool false, .int .i64 0, .int .i64 0, .int .i64 x323003_2]) ?_ 3 _ rfl; (with_reducible repeat (first | refine blk_drewN ?_ _ | refine blk_drew ?_ | refine blk_alloc ?_ _)); refine blk_put (cs := #[.bool false, .int .i64 0, .int .i64 x323002_2, .int .i64 x323003_2]) ?_ 2 _ rfl; (with_reducible repeat (first | refine blk_drewN ?_ _ | refine blk_drew ?_ | refine blk_alloc ?_ _)); refine blk_put (cs := #[.bool false, .int .i64 x323001_2, .int .i64 x323002_2, .int .i64 x323003_2]) ?_ 1 _ rfl; (with_reducible repeat (first | refine blk_drewN ?_ _ | refine blk_drew ?_ | refine blk_alloc ?_ _)); refine blk_put (cs := #[.bool x323000_2, .int .i64 x323001_2, .int .i64 x323002_2, .int .i64 x323003_2]) ?_ 0 _ rfl; (with_reducible repeat (first | refine blk_drewN ?_ _ | refine blk_drew ?_ | refine blk_alloc ?_ _)); exact BK322.out) Try.underlying62 rfl (by kernel_rfl)) rfl ?_
        exact ⟨ze, zw2 HB.out GE321.out GE322.out⟩
     rw [if_neg c13] at H
     have c13b0 : (x8_1 == 0) = false := beq_eq_false_iff_ne.mpr c13
     have c13b1 : (x8_1 != 0) = true := bne_iff_ne.mpr c13
     by_cases c21 : 0 < (l2.length : Int)
     rotate_left
     ·rw [if_neg c21] at H
      exact absurd H (by simp)
     rw [if_pos c21] at H
     have c21b0 : decide (0 < (l2.length : Int)) = true := decide_eq_true c21
     have c21b1 : decide (0 < l2.length) = true := decide_eq_true (by omega)
     clear c21
     by_cases c22 : ((rd_T74 l2 0).f0) = 2
     rotate_left
     ·rw [if_neg c22] at H
      have c22b0 : (((rd_T74 l2 0).f0) == 2) = false := beq_eq_false_iff_ne.mpr c22
      have c22b1 : (((rd_T74 l2 0).f0) != 2) = true := bne_iff_ne.mpr c22
      simp only [Option.some.injEq, Prod.mk.injEq] at H
      obtain ⟨rfl, rfl, rfl, rfl, rfl⟩ := H
      try go_wp2
      have n0_ := Aside0.mk (blk_drew BK321.out)
      have n1_ := Aside0.mk (blk_drew BK322.out)
      have n2_ := Aside0.mk (below_drew1 HB.out)
      clear BK321
      clear BK322
      clear HB
      have BK321 := n0_
      have BK322 := n1_
      have HB := n2_
      clear n0_ n1_ n2_
      have p326 : 0 ≤ (0 : Int) := (by omega)
      have q326 : 0 < (l2.length : Int) := zdec
      obtain ⟨ad326, e326, hx326_0, hx326_1, hx326_2, hx326_3, hx326_4⟩ := at_T74 HR2.out 0 p326 q326
      have hw326_4 := hx326_4
      (try rw [show ((0 : Int)).toNat = 0 from rfl] at hw326_4)
      (try rw [show 0 * 5 = 0 from rfl] at hw326_4)
      (try rw [Addr.add_zero'] at hw326_4)
      have hw326_3 := hx326_3
      (try rw [show ((0 : Int)).toNat = 0 from rfl] at hw326_3)
      (try rw [show 0 * 5 = 0 from rfl] at hw326_3)
      (try rw [Addr.add_zero'] at hw326_3)
      have hw326_2 := hx326_2
      (try rw [show ((0 : Int)).toNat = 0 from rfl] at hw326_2)
      (try rw [show 0 * 5 = 0 from rfl] at hw326_2)
      (try rw [Addr.add_zero'] at hw326_2)
      have hw326_1 := hx326_1
      (try rw [show ((0 : Int)).toNat = 0 from rfl] at hw326_1)
      (try rw [show 0 * 5 = 0 from rfl] at hw326_1)
      (try rw [Addr.add_zero'] at hw326_1)
      have hw326_0 := hx326_0
      (try rw [show ((0 : Int)).toNat = 0 from rfl] at hw326_0)
      (try rw [show 0 * 5 = 0 from rfl] at hw326_0)
      (try rw [Addr.add_zero'] at hw326_0)
      cases e326
      have qi326 : (0 < l2.length) = True := eq_true (by omega)
      (try rw [show ((0 : Int)).toNat = 0 from rfl] at hx326_0)
      (try rw [show 0 * 5 = 0 from rfl] at hx326_0)
      (try rw [Addr.add_zero'] at hx326_0)
      (try rw [show ((0 : Int)).toNat = 0 from rfl] at hx326_1)
      (try rw [show 0 * 5 = 0 from rfl] at hx326_1)
      (try rw [Addr.add_zero'] at hx326_1)
      (try rw [show ((0 : Int)).toNat = 0 from rfl] at hx326_2)
      (try rw [show 0 * 5 = 0 from rfl] at hx326_2)
      (try rw [Addr.add_zero'] at hx326_2)
      (try rw [show ((0 : Int)).toNat = 0 from rfl] at hx326_3)
      (try rw [show 0 * 5 = 0 from rfl] at hx326_3)
      (try rw [Addr.add_zero'] at hx326_3)
      (try rw [show ((0 : Int)).toNat = 0 from rfl] at hx326_4)
      (try rw [show 0 * 5 = 0 from rfl] at hx326_4)
      (try rw [Addr.add_zero'] at hx326_4)
      replace hx326_0 := zh HB.out hx326_0
      replace hx326_1 := zh HB.out hx326_1
      replace hx326_2 := zh HB.out hx326_2
      replace hx326_3 := zh HB.out hx326_3
      replace hx326_4 := zh HB.out hx326_4
      replace p326 := eq_true p326
      replace q326 := eq_true q326
      have p327 : 0 ≤ (0 : Int) := (by omega)
      have q327 : 0 < (l2.length : Int) := zdec
      obtain ⟨ad327, e327, hx327_0, hx327_1, hx327_2, hx327_3, hx327_4⟩ := at_T74 HR2.out 0 p327 q327
      have hw327_4 := hx327_4
      (try rw [show ((0 : Int)).toNat = 0 from rfl] at hw327_4)
      (try rw [show 0 * 5 = 0 from rfl] at hw327_4)
      (try rw [Addr.add_zero'] at hw327_4)
      have hw327_3 := hx327_3
      (try rw [show ((0 : Int)).toNat = 0 from rfl] at hw327_3)
      (try rw [show 0 * 5 = 0 from rfl] at hw327_3)
      (try rw [Addr.add_zero'] at hw327_3)
      have hw327_2 := hx327_2
      (try rw [show ((0 : Int)).toNat = 0 from rfl] at hw327_2)
      (try rw [show 0 * 5 = 0 from rfl] at hw327_2)
      (try rw [Addr.add_zero'] at hw327_2)
      have hw327_1 := hx327_1
      (try rw [show ((0 : Int)).toNat = 0 from rfl] at hw327_1)
      (try rw [show 0 * 5 = 0 from rfl] at hw327_1)
      (try rw [Addr.add_zero'] at hw327_1)
      have hw327_0 := hx327_0
      (try rw [show ((0 : Int)).toNat = 0 from rfl] at hw327_0)
      (try rw [show 0 * 5 = 0 from rfl] at hw327_0)
      (try rw [Addr.add_zero'] at hw327_0)
      obtain rfl : ad326 = ad327 := (by injection e327)
      have qi327 : (0 < l2.length) = True := eq_true (by omega)
      (try rw [show ((0 : Int)).toNat = 0 from rfl] at hx327_0)
      (try rw [show 0 * 5 = 0 from rfl] at hx327_0)
      (try rw [Addr.add_zero'] at hx327_0)
      (try rw [show ((0 : Int)).toNat = 0 from rfl] at hx327_1)
      (try rw [show 0 * 5 = 0 from rfl] at hx327_1)
      (try rw [Addr.add_zero'] at hx327_1)
      (try rw [show ((0 : Int)).toNat = 0 from rfl] at hx327_2)
      (try rw [show 0 * 5 = 0 from rfl] at hx327_2)
      (try rw [Addr.add_zero'] at hx327_2)
      (try rw [show ((0 : Int)).toNat = 0 from rfl] at hx327_3)
      (try rw [show 0 * 5 = 0 from rfl] at hx327_3)
      (try rw [Addr.add_zero'] at hx327_3)
      (try rw [show ((0 : Int)).toNat = 0 from rfl] at hx327_4)
      (try rw [show 0 * 5 = 0 from rfl] at hx327_4)
      (try rw [Addr.add_zero'] at hx327_4)
      replace hx327_0 := zh HB.out hx327_0
      replace hx327_1 := zh HB.out hx327_1
      replace hx327_2 := zh HB.out hx327_2
      replace hx327_3 := zh HB.out hx327_3
      replace hx327_4 := zh HB.out hx327_4
      replace p327 := eq_true p327
      replace q327 := eq_true q327
      refine start_ (n := 11) (S := fun w' => w'.cell? ad326 = some (.int .i64 ((rd_T74 l2 0).f0)) ∧ w'.cell? ⟨ad326.block, ad326.off + 1, none⟩ = some (.int .i64 ((rd_T74 l2 0).f1)) ∧ w'.cell? ⟨ad326.block, ad326.off + 2, none⟩ = some (.int .i64 ((rd_T74 l2 0).f2)) ∧ w'.cell? ⟨ad326.block, ad326.off + 3, none⟩ = some (.int .i64 ((rd_T74 l2 0).f3)) ∧ w'.cell? ⟨ad326.block, ad326.off + 4, none⟩ = some (.int .i64 ((rd_T74 l2 0).f4)) ∧ w'.cell? ad326 = some (.int .i64 ((rd_T74 l2 0).f0)) ∧ w'.cell? ⟨ad326.block, ad326.off + 1, none⟩ = some (.int .i64 ((rd_T74 l2 0).f1)) ∧ w'.cell? ⟨ad326.block, ad326.off + 2, none⟩ = some (.int .i64 ((rd_T74 l2 0).f2)) ∧ w'.cell? ⟨ad326.block, ad326.off + 3, none⟩ = some (.int .i64 ((rd_T74 l2 0).f3)) ∧ w'.cell? ⟨ad326.block, ad326.off + 4, none⟩ = some (.int .i64 ((rd_T74 l2 0).f4))) (ds := []) #[false,false,false,false,false,false,false,false,false,false,false] (by kernel_rfl) rfl rfl ⟨((HB.out.cell (World.block_lt_of_cell? w _ hw326_0)).trans hw326_0), ((HB.out.cell (World.block_lt_of_cell? w _ hw326_1)).trans hw326_1), ((HB.out.cell (World.block_lt_of_cell? w _ hw326_2)).trans hw326_2), ((HB.out.cell (World.block_lt_of_cell? w _ hw326_3)).trans hw326_3), ((HB.out.cell (World.block_lt_of_cell? w _ hw326_4)).trans hw326_4), ((HB.out.cell (World.block_lt_of_cell? w _ hw327_0)).trans hw327_0), ((HB.out.cell (World.block_lt_of_cell? w _ hw327_1)).trans hw327_1), ((HB.out.cell (World.block_lt_of_cell? w _ hw327_2)).trans hw327_2), ((HB.out.cell (World.block_lt_of_cell? w _ hw327_3)).trans hw327_3), ((HB.out.cell (World.block_lt_of_cell? w _ hw327_4)).trans hw327_4)⟩ (fun hHeld => ?_); refine with_tabW cellarref7_Get.tab17 cellarref7_Get.bits17 (fun HT_ HW_ => ?_)
      generalize wr.drew = w55 at BK321 BK322 HB hx326_0 hx326_1 hx326_2 hx326_3 hx326_4 hx327_0 hx327_1 hx327_2 hx327_3 hx327_4 hHeld ⊢
      refine zp (i := 0) (N := some 54) #[true,false,false,false,false,false,false,false,false,false,false] (any_of HT_.out (by kernel_rfl)) ?_
      refine zp (i := 1) (N := some 55) #[true,true,false,false,false,false,false,false,false,false,false] (any_of HT_.out (by kernel_rfl)) ?_
      refine zp (i := 2) (N := some 56) #[true,true,true,false,false,false,false,false,false,false,false] (any_of HT_.out (by kernel_rfl)) ?_
      refine zp (i := 4) (N := some 58) #[true,true,true,false,true,false,false,false,false,false,false] (any_of HT_.out (by kernel_rfl)) ?_
      refine zp (i := 5) (N := some 59) #[true,true,true,false,true,true,false,false,false,false,false] (any_of HT_.out (by kernel_rfl)) ?_
      refine zp (i := 6) (N := some 60) #[true,true,true,false,true,true,true,false,false,false,false] (any_of HT_.out (by kernel_rfl)) ?_
      refine take_ (i := 3) (N := some 57) (v := ?_) (a' := ?_) #[true,true,true,true,true,true,true,false,false,false,false] rfl rfl (take_ofW HT_.out HW_.out (by kernel_rfl)) (fun _ _ _ h => h) (Or.inl ⟨by rfl, ?_⟩) hHeld ?_ ?_
      rotate_left
      ·rintro w' ⟨s0, s1, s2, s3, s4, s5, s6, s7, s8, s9⟩
       go_simp
       with_reducible rfl
      rotate_left
      ·simp only [Act.put, List.setIfInBounds_toArray, List.set_cons_zero, List.set_cons_succ, i64_w, i32_w]
       rfl
      refine take_ (i := 7) (N := some 61) (v := ?_) (a' := ?_) #[true,true,true,true,true,true,true,true,false,false,false] rfl rfl (take_ofW HT_.out HW_.out (by kernel_rfl)) (fun _ _ _ h => h) (Or.inl ⟨by rfl, ?_⟩) hHeld ?_ ?_
      rotate_left
      ·rintro w' ⟨s0, s1, s2, s3, s4, s5, s6, s7, s8, s9⟩
       go_simp
       with_reducible rfl
      rotate_left
      ·simp only [Act.put, List.setIfInBounds_toArray, List.set_cons_zero, List.set_cons_succ, i64_w, i32_w]
       rfl
      refine zp (i := 8) (N := some 62) #[true,true,true,true,true,true,true,true,true,false,false] (any_of HT_.out (by kernel_rfl)) ?_
      refine one_ (i := 9) (N := some 11) #[true,true,true,true,true,true,true,true,true,true,false] rfl rfl (one_of HT_.out (by kernel_rfl)) (by decide) (fun K hK => ?_)
      refine box_step ?hg (N := 11) ?hd (cs := #[.bool false, .int .i64 0, .int .i64 0, .int .i64 0]) (t := 62) ?hr ?_; (case hd => rfl); (case hg => rfl); (case hr => first | (go_simp; done) | (go_simp; rfl))
      intro gb328 hg w56 hbox hb
      have n0_ := Aside0.mk (zbb BK321.out hb)
      have n1_ := Aside0.mk (zbb BK322.out hb)
      have n2_ := Aside0.mk (below_step (zw2 HB.out GE321.out GE322.out) hb)
      have n3_ := Aside0.mk (hbox)
      have n4_ := Aside0.mk (zg hg (below_size (zw2 HB.out GE321.out GE322.out)))
      have n5_ := Aside0.mk (zg hg (below_size (zw2 HB.out GE321.out GE322.out)))
      have n6_ := Aside0.mk (zlt hg BK321.out)
      have n7_ := Aside0.mk (zgt hg BK321.out)
      have n8_ := Aside0.mk (zlt hg BK322.out)
      have n9_ := Aside0.mk (zgt hg BK322.out)
      clear BK321
      clear BK322
      clear HB
      have BK321 := n0_
      have BK322 := n1_
      have HB := n2_
      have BK328 := n3_
      have GW328 := n4_
      have GE328 := n5_
      have NB321_328 := n6_
      have NB328_321 := n7_
      have NB322_328 := n8_
      have NB328_322 := n9_
      clear n0_ n1_ n2_ n3_ n4_ n5_ n6_ n7_ n8_ n9_
      clear hb hbox hg
      refine hK.out _ _ ⟨((HB.out.cell (World.block_lt_of_cell? w _ hw326_0)).trans hw326_0), ((HB.out.cell (World.block_lt_of_cell? w _ hw326_1)).trans hw326_1), ((HB.out.cell (World.block_lt_of_cell? w _ hw326_2)).trans hw326_2), ((HB.out.cell (World.block_lt_of_cell? w _ hw326_3)).trans hw326_3), ((HB.out.cell (World.block_lt_of_cell? w _ hw326_4)).trans hw326_4), ((HB.out.cell (World.block_lt_of_cell? w _ hw327_0)).trans hw327_0), ((HB.out.cell (World.block_lt_of_cell? w _ hw327_1)).trans hw327_1), ((HB.out.cell (World.block_lt_of_cell? w _ hw327_2)).trans hw327_2), ((HB.out.cell (World.block_lt_of_cell? w _ hw327_3)).trans hw327_3), ((HB.out.cell (World.block_lt_of_cell? w _ hw327_4)).trans hw327_4)⟩ (fun hHeld => ?_)
      clear hK K
      refine norm_ (a' := ?_) ?_ ?_
      rotate_left
      ·show Act.put _ (some 11) _ = _
       simp only [Act.put, List.setIfInBounds_toArray, List.set_cons_zero, List.set_cons_succ, i64_w, i32_w]
       rfl
      refine one_ (i := 10) (N := none) #[true,true,true,true,true,true,true,true,true,true,true] rfl rfl (one_of HT_.out (by kernel_rfl)) (by decide) (fun K hK => ?_)
      have hs57 : w56.cell? ⟨gb328, 0, none⟩ = some (.bool false) := (blk_cell BK328.out 0).trans rfl
      have hfs57 := blk_frozen BK328.out 0
      have hns57_0 := NB321_328.out
      have hns57_1 := NB322_328.out
      have hms57_0 := NB328_321.out
      have hms57_1 := NB328_322.out
      have hs58 : w56.cell? ⟨gb328, 1, none⟩ = some (.int .i64 0) := (blk_cell BK328.out 1).trans rfl
      have hfs58 := blk_frozen BK328.out 1
      have hns58_0 := NB321_328.out
      have hns58_1 := NB322_328.out
      have hms58_0 := NB328_321.out
      have hms58_1 := NB328_322.out
      have hs59 : w56.cell? ⟨gb328, 2, none⟩ = some (.int .i64 0) := (blk_cell BK328.out 2).trans rfl
      have hfs59 := blk_frozen BK328.out 2
      have hns59_0 := NB321_328.out
      have hns59_1 := NB322_328.out
      have hms59_0 := NB328_321.out
      have hms59_1 := NB328_322.out
      have hs60 : w56.cell? ⟨gb328, 3, none⟩ = some (.int .i64 0) := (blk_cell BK328.out 3).trans rfl
      have hfs60 := blk_frozen BK328.out 3
      have hns60_0 := NB321_328.out
      have hns60_1 := NB322_328.out
      have hms60_0 := NB328_321.out
      have hms60_1 := NB328_322.out
      refine skip_ (w1 := ?_) (by rfl) rfl ?_ ?_
      rotate_left
      ·go_simp
       rfl
      refine hK.out _ _ ⟨((cell_far (p := ⟨gb328, _, none⟩) (zx (zfar hw326_0 GW328.out)) _).trans (((cell_far (p := ⟨gb328, _, none⟩) (zx (zfar hw326_0 GW328.out)) _).trans (((cell_far (p := ⟨gb328, _, none⟩) (zx (zfar hw326_0 GW328.out)) _).trans (((cell_far (p := ⟨gb328, _, none⟩) (zx (zfar hw326_0 GW328.out)) _).trans (hHeld.1)))))))), ((cell_far (p := ⟨gb328, _, none⟩) (zx (zfar hw326_1 GW328.out)) _).trans (((cell_far (p := ⟨gb328, _, none⟩) (zx (zfar hw326_1 GW328.out)) _).trans (((cell_far (p := ⟨gb328, _, none⟩) (zx (zfar hw326_1 GW328.out)) _).trans (((cell_far (p := ⟨gb328, _, none⟩) (zx (zfar hw326_1 GW328.out)) _).trans (hHeld.2.1)))))))), ((cell_far (p := ⟨gb328, _, none⟩) (zx (zfar hw326_2 GW328.out)) _).trans (((cell_far (p := ⟨gb328, _, none⟩) (zx (zfar hw326_2 GW328.out)) _).trans (((cell_far (p := ⟨gb328, _, none⟩) (zx (zfar hw326_2 GW328.out)) _).trans (((cell_far (p := ⟨gb328, _, none⟩) (zx (zfar hw326_2 GW328.out)) _).trans (hHeld.2.2.1)))))))), ((cell_far (p := ⟨gb328, _, none⟩) (zx (zfar hw326_3 GW328.out)) _).trans (((cell_far (p := ⟨gb328, _, none⟩) (zx (zfar hw326_3 GW328.out)) _).trans (((cell_far (p := ⟨gb328, _, none⟩) (zx (zfar hw326_3 GW328.out)) _).trans (((cell_far (p := ⟨gb328, _, none⟩) (zx (zfar hw326_3 GW328.out)) _).trans (hHeld.2.2.2.1)))))))), ((cell_far (p := ⟨gb328, _, none⟩) (zx (zfar hw326_4 GW328.out)) _).trans (((cell_far (p := ⟨gb328, _, none⟩) (zx (zfar hw326_4 GW328.out)) _).trans (((cell_far (p := ⟨gb328, _, none⟩) (zx (zfar hw326_4 GW328.out)) _).trans (((cell_far (p := ⟨gb328, _, none⟩) (zx (zfar hw326_4 GW328.out)) _).trans (hHeld.2.2.2.2.1)))))))), ((cell_far (p := ⟨gb328, _, none⟩) (zx (zfar hw327_0 GW328.out)) _).trans (((cell_far (p := ⟨gb328, _, none⟩) (zx (zfar hw327_0 GW328.out)) _).trans (((cell_far (p := ⟨gb328, _, none⟩) (zx (zfar hw327_0 GW328.out)) _).trans (((cell_far (p := ⟨gb328, _, none⟩) (zx (zfar hw327_0 GW328.out)) _).trans (hHeld.2.2.2.2.2.1)))))))), ((cell_far (p := ⟨gb328, _, none⟩) (zx (zfar hw327_1 GW328.out)) _).trans (((cell_far (p := ⟨gb328, _, none⟩) (zx (zfar hw327_1 GW328.out)) _).trans (((cell_far (p := ⟨gb328, _, none⟩) (zx (zfar hw327_1 GW328.out)) _).trans (((cell_far (p := ⟨gb328, _, none⟩) (zx (zfar hw327_1 GW328.out)) _).trans (hHeld.2.2.2.2.2.2.1)))))))), ((cell_far (p := ⟨gb328, _, none⟩) (zx (zfar hw327_2 GW328.out)) _).trans (((cell_far (p := ⟨gb328, _, none⟩) (zx (zfar hw327_2 GW328.out)) _).trans (((cell_far (p := ⟨gb328, _, none⟩) (zx (zfar hw327_2 GW328.out)) _).trans (((cell_far (p := ⟨gb328, _, none⟩) (zx (zfar hw327_2 GW328.out)) _).trans (hHeld.2.2.2.2.2.2.2.1)))))))), ((cell_far (p := ⟨gb328, _, none⟩) (zx (zfar hw327_3 GW328.out)) _).trans (((cell_far (p := ⟨gb328, _, none⟩) (zx (zfar hw327_3 GW328.out)) _).trans (((cell_far (p := ⟨gb328, _, none⟩) (zx (zfar hw327_3 GW328.out)) _).trans (((cell_far (p := ⟨gb328, _, none⟩) (zx (zfar hw327_3 GW328.out)) _).trans (hHeld.2.2.2.2.2.2.2.2.1)))))))), ((cell_far (p := ⟨gb328, _, none⟩) (zx (zfar hw327_4 GW328.out)) _).trans (((cell_far (p := ⟨gb328, _, none⟩) (zx (zfar hw327_4 GW328.out)) _).trans (((cell_far (p := ⟨gb328, _, none⟩) (zx (zfar hw327_4 GW328.out)) _).trans (((cell_far (p := ⟨gb328, _, none⟩) (zx (zfar hw327_4 GW328.out)) _).trans (hHeld.2.2.2.2.2.2.2.2.2))))))))⟩ (fun hHeld => ?_)
      clear hK K
      refine done_ (done_of HT_.out (by kernel_rfl)) ?_
      have p329 : 0 ≤ (0 : Int) := (by omega)
      have q329 : 0 < (l2.length : Int) := zdec
      obtain ⟨ad329, e329, hx329_0, hx329_1, hx329_2, hx329_3, hx329_4⟩ := at_T74 HR2.out 0 p329 q329
      obtain rfl : ad326 = ad329 := (by injection e329)
      have qi329 : (0 < l2.length) = True := eq_true (by omega)
      (try rw [show ((0 : Int)).toNat = 0 from rfl] at hx329_0)
      (try rw [show 0 * 5 = 0 from rfl] at hx329_0)
      (try rw [Addr.add_zero'] at hx329_0)
      (try rw [show ((0 : Int)).toNat = 0 from rfl] at hx329_1)
      (try rw [show 0 * 5 = 0 from rfl] at hx329_1)
      (try rw [Addr.add_zero'] at hx329_1)
      (try rw [show ((0 : Int)).toNat = 0 from rfl] at hx329_2)
      (try rw [show 0 * 5 = 0 from rfl] at hx329_2)
      (try rw [Addr.add_zero'] at hx329_2)
      (try rw [show ((0 : Int)).toNat = 0 from rfl] at hx329_3)
      (try rw [show 0 * 5 = 0 from rfl] at hx329_3)
      (try rw [Addr.add_zero'] at hx329_3)
      (try rw [show ((0 : Int)).toNat = 0 from rfl] at hx329_4)
      (try rw [show 0 * 5 = 0 from rfl] at hx329_4)
      (try rw [Addr.add_zero'] at hx329_4)
      have hn329_0 : ad326.block ≠ gb328 := zx (zfar hx329_0 GW328.out)
      have hn329_1 : ad326.block ≠ gb328 := zx (zfar hx329_0 GW328.out)
      have hn329_2 : ad326.block ≠ gb328 := zx (zfar hx329_0 GW328.out)
      have hn329_3 : ad326.block ≠ gb328 := zx (zfar hx329_0 GW328.out)
      replace hx329_0 := zh HB.out hx329_0
      replace hx329_1 := zh HB.out hx329_1
      replace hx329_2 := zh HB.out hx329_2
      replace hx329_3 := zh HB.out hx329_3
      replace hx329_4 := zh HB.out hx329_4
      replace hx329_0 := (cell_far (p := ⟨gb328, 0, none⟩) (zy hn329_0) (.bool true)).trans hx329_0
      replace hx329_1 := (cell_far (p := ⟨gb328, 0, none⟩) (zy hn329_0) (.bool true)).trans hx329_1
      replace hx329_2 := (cell_far (p := ⟨gb328, 0, none⟩) (zy hn329_0) (.bool true)).trans hx329_2
      replace hx329_3 := (cell_far (p := ⟨gb328, 0, none⟩) (zy hn329_0) (.bool true)).trans hx329_3
      replace hx329_4 := (cell_far (p := ⟨gb328, 0, none⟩) (zy hn329_0) (.bool true)).trans hx329_4
      replace hx329_0 := (cell_far (p := ⟨gb328, 1, none⟩) (zy hn329_1) (.int .i64 0)).trans hx329_0
      replace hx329_1 := (cell_far (p := ⟨gb328, 1, none⟩) (zy hn329_1) (.int .i64 0)).trans hx329_1
      replace hx329_2 := (cell_far (p := ⟨gb328, 1, none⟩) (zy hn329_1) (.int .i64 0)).trans hx329_2
      replace hx329_3 := (cell_far (p := ⟨gb328, 1, none⟩) (zy hn329_1) (.int .i64 0)).trans hx329_3
      replace hx329_4 := (cell_far (p := ⟨gb328, 1, none⟩) (zy hn329_1) (.int .i64 0)).trans hx329_4
      replace hx329_0 := (cell_far (p := ⟨gb328, 2, none⟩) (zy hn329_2) (.int .i64 ((rd_T74 l2 0).f2))).trans hx329_0
      replace hx329_1 := (cell_far (p := ⟨gb328, 2, none⟩) (zy hn329_2) (.int .i64 ((rd_T74 l2 0).f2))).trans hx329_1
      replace hx329_2 := (cell_far (p := ⟨gb328, 2, none⟩) (zy hn329_2) (.int .i64 ((rd_T74 l2 0).f2))).trans hx329_2
      replace hx329_3 := (cell_far (p := ⟨gb328, 2, none⟩) (zy hn329_2) (.int .i64 ((rd_T74 l2 0).f2))).trans hx329_3
      replace hx329_4 := (cell_far (p := ⟨gb328, 2, none⟩) (zy hn329_2) (.int .i64 ((rd_T74 l2 0).f2))).trans hx329_4
      replace hx329_0 := (cell_far (p := ⟨gb328, 3, none⟩) (zy hn329_3) (.int .i64 ((rd_T74 l2 0).f3))).trans hx329_0
      replace hx329_1 := (cell_far (p := ⟨gb328, 3, none⟩) (zy hn329_3) (.int .i64 ((rd_T74 l2 0).f3))).trans hx329_1
      replace hx329_2 := (cell_far (p := ⟨gb328, 3, none⟩) (zy hn329_3) (.int .i64 ((rd_T74 l2 0).f3))).trans hx329_2
      replace hx329_3 := (cell_far (p := ⟨gb328, 3, none⟩) (zy hn329_3) (.int .i64 ((rd_T74 l2 0).f3))).trans hx329_3
      replace hx329_4 := (cell_far (p := ⟨gb328, 3, none⟩) (zy hn329_3) (.int .i64 ((rd_T74 l2 0).f3))).trans hx329_4
      clear hn329_0
      clear hn329_1
      clear hn329_2
      clear hn329_3
      replace p329 := eq_true p329
      replace q329 := eq_true q329
      have hnb61 := NB322_321.out
      have hnc61 := NB321_322.out
      have hnb62 := NB322_328.out
      have hnc62 := NB328_322.out
      have hcz63_0 := zc BK322.out 0
      have hcz63_1 := zc BK322.out 1
      have hcz63_2 := zc BK322.out 2
      have hcz63_3 := zc BK322.out 3
      have hfz63_0 := blk_frozen BK322.out 0
      have hfz63_1 := blk_frozen BK322.out 1
      have hfz63_2 := blk_frozen BK322.out 2
      have hfz63_3 := blk_frozen BK322.out 3
      try go_wp2
      refine bodyPost_ret (results_ct rfl _ _ gb322 62 #[.bool false, .int .i64 0, .int .i64 0, .int .i64 0] (0, 0) _ rfl (by (with_reducible repeat (first | refine blk_drewN ?_ _ | refine blk_drew ?_ | refine blk_alloc ?_ _)); refine blk_put (cs := #[.bool false, .int .i64 0, .int .i64 0, .int .i64 x323003_1]) ?_ 3 _ rfl; (with_reducible repeat (first | refine blk_drewN ?_ _ | refine blk_drew ?_ | refine blk_alloc ?_ _)); refine blk_put (cs := #[.bool false, .int .i64 0, .int .i64 x323002_1, .int .i64 x323003_1]) ?_ 2 _ rfl; (with_reducible repeat (first | refine blk_drewN ?_ _ | refine blk_drew ?_ | refine blk_alloc ?_ _)); refine blk_put (cs := #[.bool false, .int .i64 x323001_1, .int .i64 x323002_1, .int .i64 x323003_1]) ?_ 1 _ rfl; (with_reducible repeat (first | refine blk_drewN ?_ _ | refine blk_drew ?_ | refine blk_alloc ?_ _)); refine blk_put (cs := #[.bool x323000_1, .int .i64 x323001_1, .int .i64 x323002_1, .int .i64 x323003_1]) ?_ 0 _ rfl; (with_reducible repeat (first | refine blk_drewN ?_ _ | refine blk_drew ?_ | refine blk_alloc ?_ _)); refine blk_far ?_ NB322_328.out _; (with_reducible repeat (first | refine blk_drewN ?_ _ | refine blk_drew ?_ | refine blk_alloc ?_ _)); refine blk_far ?_ NB322_328.out _; (with_reducible repeat (first | refine blk_drewN ?_ _ | refine blk_drew ?_ | refine blk_alloc ?_ _)); refine blk_far ?_ NB322_328.out _; (with_reducible repeat (first | refine blk_drewN ?_ _ | refine blk_drew ?_ | refine blk_alloc ?_ _)); refine blk_far ?_ NB322_328.out _; (with_reducible repeat (first | refine blk_drewN ?_ _ | refine blk_drew ?_ | refine blk_alloc ?_ _)); exact BK322.out) Try.underlying62 rfl (by kernel_rfl)) rfl ?_
      exact ⟨ze, zw3 HB.out GE321.out GE322.out GE328.out⟩
     rw [if_pos c22] at H
     have c22b0 : (((rd_T74 l2 0).f0) == 2) = true := beq_iff_eq.mpr c22
     have c22b1 : (((rd_T74 l2 0).f0) != 2) = false := bne_eq_false_iff_eq.mpr c22
     clear c22
     replace H := Option.bind_eq_some_iff.mp H
     obtain ⟨t330, A230, H⟩ := H
     replace H : ((cellarref0_EqBytes.f k1 t330 l2).bind fun t333 => (if t333 = true then (some (true, 0, (rd_T74 l2 0).f2, (rd_T74 l2 0).f3, 0)) else (some (false, 0, 0, 0, 8)))) = some (r1, r2, r3, r4, r5) := H
     have A23 := Aside0.mk A230
     clear A230
     replace H := Option.bind_eq_some_iff.mp H
     obtain ⟨t333, A240, H⟩ := H
     replace H : (if t333 = true then (some (true, 0, (rd_T74 l2 0).f2, (rd_T74 l2 0).f3, 0)) else (some (false, 0, 0, 0, 8))) = some (r1, r2, r3, r4, r5) := H
     have A24 := Aside0.mk A240
     clear A240
     by_cases c25 : t333 = true
     rotate_left
     ·replace c25 := Bool.eq_false_iff.mpr c25
      subst c25
      have H1 : (some (false, 0, 0, 0, 8)) = some (r1, r2, r3, r4, r5) := by rw [if_neg (show ¬ (false = true) by decide)] at H; exact H
      clear H
      have H := H1
      clear H1
      simp only [Option.some.injEq, Prod.mk.injEq] at H
      obtain ⟨rfl, rfl, rfl, rfl, rfl⟩ := H
      try go_wp2
      have n0_ := Aside0.mk (blk_drew BK321.out)
      have n1_ := Aside0.mk (blk_drew BK322.out)
      have n2_ := Aside0.mk (below_drew1 HB.out)
      clear BK321
      clear BK322
      clear HB
      have BK321 := n0_
      have BK322 := n1_
      have HB := n2_
      clear n0_ n1_ n2_
      have p326 : 0 ≤ (0 : Int) := (by omega)
      have q326 : 0 < (l2.length : Int) := zdec
      obtain ⟨ad326, e326, hx326_0, hx326_1, hx326_2, hx326_3, hx326_4⟩ := at_T74 HR2.out 0 p326 q326
      have hw326_4 := hx326_4
      (try rw [show ((0 : Int)).toNat = 0 from rfl] at hw326_4)
      (try rw [show 0 * 5 = 0 from rfl] at hw326_4)
      (try rw [Addr.add_zero'] at hw326_4)
      have hw326_3 := hx326_3
      (try rw [show ((0 : Int)).toNat = 0 from rfl] at hw326_3)
      (try rw [show 0 * 5 = 0 from rfl] at hw326_3)
      (try rw [Addr.add_zero'] at hw326_3)
      have hw326_2 := hx326_2
      (try rw [show ((0 : Int)).toNat = 0 from rfl] at hw326_2)
      (try rw [show 0 * 5 = 0 from rfl] at hw326_2)
      (try rw [Addr.add_zero'] at hw326_2)
      have hw326_1 := hx326_1
      (try rw [show ((0 : Int)).toNat = 0 from rfl] at hw326_1)
      (try rw [show 0 * 5 = 0 from rfl] at hw326_1)
      (try rw [Addr.add_zero'] at hw326_1)
      have hw326_0 := hx326_0
      (try rw [show ((0 : Int)).toNat = 0 from rfl] at hw326_0)
      (try rw [show 0 * 5 = 0 from rfl] at hw326_0)
      (try rw [Addr.add_zero'] at hw326_0)
      cases e326
      have qi326 : (0 < l2.length) = True := eq_true (by omega)
      (try rw [show ((0 : Int)).toNat = 0 from rfl] at hx326_0)
      (try rw [show 0 * 5 = 0 from rfl] at hx326_0)
      (try rw [Addr.add_zero'] at hx326_0)
      (try rw [show ((0 : Int)).toNat = 0 from rfl] at hx326_1)
      (try rw [show 0 * 5 = 0 from rfl] at hx326_1)
      (try rw [Addr.add_zero'] at hx326_1)
      (try rw [show ((0 : Int)).toNat = 0 from rfl] at hx326_2)
      (try rw [show 0 * 5 = 0 from rfl] at hx326_2)
      (try rw [Addr.add_zero'] at hx326_2)
      (try rw [show ((0 : Int)).toNat = 0 from rfl] at hx326_3)
      (try rw [show 0 * 5 = 0 from rfl] at hx326_3)
      (try rw [Addr.add_zero'] at hx326_3)
      (try rw [show ((0 : Int)).toNat = 0 from rfl] at hx326_4)
      (try rw [show 0 * 5 = 0 from rfl] at hx326_4)
      (try rw [Addr.add_zero'] at hx326_4)
      replace hx326_0 := zh HB.out hx326_0
      replace hx326_1 := zh HB.out hx326_1
      replace hx326_2 := zh HB.out hx326_2
      replace hx326_3 := zh HB.out hx326_3
      replace hx326_4 := zh HB.out hx326_4
      replace p326 := eq_true p326
      replace q326 := eq_true q326
      have p327 : 0 ≤ (0 : Int) := (by omega)
      have q327 : 0 < (l2.length : Int) := zdec
      obtain ⟨ad327, e327, hx327_0, hx327_1, hx327_2, hx327_3, hx327_4⟩ := at_T74 HR2.out 0 p327 q327
      have hw327_4 := hx327_4
      (try rw [show ((0 : Int)).toNat = 0 from rfl] at hw327_4)
      (try rw [show 0 * 5 = 0 from rfl] at hw327_4)
      (try rw [Addr.add_zero'] at hw327_4)
      have hw327_3 := hx327_3
      (try rw [show ((0 : Int)).toNat = 0 from rfl] at hw327_3)
      (try rw [show 0 * 5 = 0 from rfl] at hw327_3)
      (try rw [Addr.add_zero'] at hw327_3)
      have hw327_2 := hx327_2
      (try rw [show ((0 : Int)).toNat = 0 from rfl] at hw327_2)
      (try rw [show 0 * 5 = 0 from rfl] at hw327_2)
      (try rw [Addr.add_zero'] at hw327_2)
      have hw327_1 := hx327_1
      (try rw [show ((0 : Int)).toNat = 0 from rfl] at hw327_1)
      (try rw [show 0 * 5 = 0 from rfl] at hw327_1)
      (try rw [Addr.add_zero'] at hw327_1)
      have hw327_0 := hx327_0
      (try rw [show ((0 : Int)).toNat = 0 from rfl] at hw327_0)
      (try rw [show 0 * 5 = 0 from rfl] at hw327_0)
      (try rw [Addr.add_zero'] at hw327_0)
      obtain rfl : ad326 = ad327 := (by injection e327)
      have qi327 : (0 < l2.length) = True := eq_true (by omega)
      (try rw [show ((0 : Int)).toNat = 0 from rfl] at hx327_0)
      (try rw [show 0 * 5 = 0 from rfl] at hx327_0)
      (try rw [Addr.add_zero'] at hx327_0)
      (try rw [show ((0 : Int)).toNat = 0 from rfl] at hx327_1)
      (try rw [show 0 * 5 = 0 from rfl] at hx327_1)
      (try rw [Addr.add_zero'] at hx327_1)
      (try rw [show ((0 : Int)).toNat = 0 from rfl] at hx327_2)
      (try rw [show 0 * 5 = 0 from rfl] at hx327_2)
      (try rw [Addr.add_zero'] at hx327_2)
      (try rw [show ((0 : Int)).toNat = 0 from rfl] at hx327_3)
      (try rw [show 0 * 5 = 0 from rfl] at hx327_3)
      (try rw [Addr.add_zero'] at hx327_3)
      (try rw [show ((0 : Int)).toNat = 0 from rfl] at hx327_4)
      (try rw [show 0 * 5 = 0 from rfl] at hx327_4)
      (try rw [Addr.add_zero'] at hx327_4)
      replace hx327_0 := zh HB.out hx327_0
      replace hx327_1 := zh HB.out hx327_1
      replace hx327_2 := zh HB.out hx327_2
      replace hx327_3 := zh HB.out hx327_3
      replace hx327_4 := zh HB.out hx327_4
      replace p327 := eq_true p327
      replace q327 := eq_true q327
      refine start_ (n := 11) (S := fun w' => w'.cell? ad326 = some (.int .i64 ((rd_T74 l2 0).f0)) ∧ w'.cell? ⟨ad326.block, ad326.off + 1, none⟩ = some (.int .i64 ((rd_T74 l2 0).f1)) ∧ w'.cell? ⟨ad326.block, ad326.off + 2, none⟩ = some (.int .i64 ((rd_T74 l2 0).f2)) ∧ w'.cell? ⟨ad326.block, ad326.off + 3, none⟩ = some (.int .i64 ((rd_T74 l2 0).f3)) ∧ w'.cell? ⟨ad326.block, ad326.off + 4, none⟩ = some (.int .i64 ((rd_T74 l2 0).f4)) ∧ w'.cell? ad326 = some (.int .i64 ((rd_T74 l2 0).f0)) ∧ w'.cell? ⟨ad326.block, ad326.off + 1, none⟩ = some (.int .i64 ((rd_T74 l2 0).f1)) ∧ w'.cell? ⟨ad326.block, ad326.off + 2, none⟩ = some (.int .i64 ((rd_T74 l2 0).f2)) ∧ w'.cell? ⟨ad326.block, ad326.off + 3, none⟩ = some (.int .i64 ((rd_T74 l2 0).f3)) ∧ w'.cell? ⟨ad326.block, ad326.off + 4, none⟩ = some (.int .i64 ((rd_T74 l2 0).f4))) (ds := []) #[false,false,false,false,false,false,false,false,false,false,false] (by kernel_rfl) rfl rfl ⟨((HB.out.cell (World.block_lt_of_cell? w _ hw326_0)).trans hw326_0), ((HB.out.cell (World.block_lt_of_cell? w _ hw326_1)).trans hw326_1), ((HB.out.cell (World.block_lt_of_cell? w _ hw326_2)).trans hw326_2), ((HB.out.cell (World.block_lt_of_cell? w _ hw326_3)).trans hw326_3), ((HB.out.cell (World.block_lt_of_cell? w _ hw326_4)).trans hw326_4), ((HB.out.cell (World.block_lt_of_cell? w _ hw327_0)).trans hw327_0), ((HB.out.cell (World.block_lt_of_cell? w _ hw327_1)).trans hw327_1), ((HB.out.cell (World.block_lt_of_cell? w _ hw327_2)).trans hw327_2), ((HB.out.cell (World.block_lt_of_cell? w _ hw327_3)).trans hw327_3), ((HB.out.cell (World.block_lt_of_cell? w _ hw327_4)).trans hw327_4)⟩ (fun hHeld => ?_); refine with_tabW cellarref7_Get.tab17 cellarref7_Get.bits17 (fun HT_ HW_ => ?_)
      generalize wr.drew = w41 at BK321 BK322 HB hx326_0 hx326_1 hx326_2 hx326_3 hx326_4 hx327_0 hx327_1 hx327_2 hx327_3 hx327_4 hHeld ⊢
      refine zp (i := 0) (N := some 54) #[true,false,false,false,false,false,false,false,false,false,false] (any_of HT_.out (by kernel_rfl)) ?_
      refine zp (i := 1) (N := some 55) #[true,true,false,false,false,false,false,false,false,false,false] (any_of HT_.out (by kernel_rfl)) ?_
      refine zp (i := 2) (N := some 56) #[true,true,true,false,false,false,false,false,false,false,false] (any_of HT_.out (by kernel_rfl)) ?_
      refine zp (i := 4) (N := some 58) #[true,true,true,false,true,false,false,false,false,false,false] (any_of HT_.out (by kernel_rfl)) ?_
      refine zp (i := 5) (N := some 59) #[true,true,true,false,true,true,false,false,false,false,false] (any_of HT_.out (by kernel_rfl)) ?_
      refine zp (i := 6) (N := some 60) #[true,true,true,false,true,true,true,false,false,false,false] (any_of HT_.out (by kernel_rfl)) ?_
      refine take_ (i := 3) (N := some 57) (v := ?_) (a' := ?_) #[true,true,true,true,true,true,true,false,false,false,false] rfl rfl (take_ofW HT_.out HW_.out (by kernel_rfl)) (fun _ _ _ h => h) (Or.inl ⟨by rfl, ?_⟩) hHeld ?_ ?_
      rotate_left
      ·rintro w' ⟨s0, s1, s2, s3, s4, s5, s6, s7, s8, s9⟩
       go_simp
       with_reducible rfl
      rotate_left
      ·simp only [Act.put, List.setIfInBounds_toArray, List.set_cons_zero, List.set_cons_succ, i64_w, i32_w]
       rfl
      refine take_ (i := 7) (N := some 61) (v := ?_) (a' := ?_) #[true,true,true,true,true,true,true,true,false,false,false] rfl rfl (take_ofW HT_.out HW_.out (by kernel_rfl)) (fun _ _ _ h => h) (Or.inl ⟨by rfl, ?_⟩) hHeld ?_ ?_
      rotate_left
      ·rintro w' ⟨s0, s1, s2, s3, s4, s5, s6, s7, s8, s9⟩
       go_simp
       with_reducible rfl
      rotate_left
      ·simp only [Act.put, List.setIfInBounds_toArray, List.set_cons_zero, List.set_cons_succ, i64_w, i32_w]
       rfl
      refine zp (i := 8) (N := some 62) #[true,true,true,true,true,true,true,true,true,false,false] (any_of HT_.out (by kernel_rfl)) ?_
      refine one_ (i := 9) (N := some 11) #[true,true,true,true,true,true,true,true,true,true,false] rfl rfl (one_of HT_.out (by kernel_rfl)) (by decide) (fun K hK => ?_)
      refine box_step ?hg (N := 11) ?hd (cs := #[.bool false, .int .i64 0, .int .i64 0, .int .i64 0]) (t := 62) ?hr ?_; (case hd => rfl); (case hg => rfl); (case hr => first | (go_simp; done) | (go_simp; rfl))
      intro gb328 hg w42 hbox hb
      have n0_ := Aside0.mk (zbb BK321.out hb)
      have n1_ := Aside0.mk (zbb BK322.out hb)
      have n2_ := Aside0.mk (below_step (zw2 HB.out GE321.out GE322.out) hb)
      have n3_ := Aside0.mk (hbox)
      have n4_ := Aside0.mk (zg hg (below_size (zw2 HB.out GE321.out GE322.out)))
      have n5_ := Aside0.mk (zg hg (below_size (zw2 HB.out GE321.out GE322.out)))
      have n6_ := Aside0.mk (zlt hg BK321.out)
      have n7_ := Aside0.mk (zgt hg BK321.out)
      have n8_ := Aside0.mk (zlt hg BK322.out)
      have n9_ := Aside0.mk (zgt hg BK322.out)
      clear BK321
      clear BK322
      clear HB
      have BK321 := n0_
      have BK322 := n1_
      have HB := n2_
      have BK328 := n3_
      have GW328 := n4_
      have GE328 := n5_
      have NB321_328 := n6_
      have NB328_321 := n7_
      have NB322_328 := n8_
      have NB328_322 := n9_
      clear n0_ n1_ n2_ n3_ n4_ n5_ n6_ n7_ n8_ n9_
      clear hb hbox hg
      refine hK.out _ _ ⟨((HB.out.cell (World.block_lt_of_cell? w _ hw326_0)).trans hw326_0), ((HB.out.cell (World.block_lt_of_cell? w _ hw326_1)).trans hw326_1), ((HB.out.cell (World.block_lt_of_cell? w _ hw326_2)).trans hw326_2), ((HB.out.cell (World.block_lt_of_cell? w _ hw326_3)).trans hw326_3), ((HB.out.cell (World.block_lt_of_cell? w _ hw326_4)).trans hw326_4), ((HB.out.cell (World.block_lt_of_cell? w _ hw327_0)).trans hw327_0), ((HB.out.cell (World.block_lt_of_cell? w _ hw327_1)).trans hw327_1), ((HB.out.cell (World.block_lt_of_cell? w _ hw327_2)).trans hw327_2), ((HB.out.cell (World.block_lt_of_cell? w _ hw327_3)).trans hw327_3), ((HB.out.cell (World.block_lt_of_cell? w _ hw327_4)).trans hw327_4)⟩ (fun hHeld => ?_)
      clear hK K
      refine norm_ (a' := ?_) ?_ ?_
      rotate_left
      ·show Act.put _ (some 11) _ = _
       simp only [Act.put, List.setIfInBounds_toArray, List.set_cons_zero, List.set_cons_succ, i64_w, i32_w]
       rfl
      refine one_ (i := 10) (N := none) #[true,true,true,true,true,true,true,true,true,true,true] rfl rfl (one_of HT_.out (by kernel_rfl)) (by decide) (fun K hK => ?_)
      have hs43 : w42.cell? ⟨gb328, 0, none⟩ = some (.bool false) := (blk_cell BK328.out 0).trans rfl
      have hfs43 := blk_frozen BK328.out 0
      have hns43_0 := NB321_328.out
      have hns43_1 := NB322_328.out
      have hms43_0 := NB328_321.out
      have hms43_1 := NB328_322.out
      have hs44 : w42.cell? ⟨gb328, 1, none⟩ = some (.int .i64 0) := (blk_cell BK328.out 1).trans rfl
      have hfs44 := blk_frozen BK328.out 1
      have hns44_0 := NB321_328.out
      have hns44_1 := NB322_328.out
      have hms44_0 := NB328_321.out
      have hms44_1 := NB328_322.out
      have hs45 : w42.cell? ⟨gb328, 2, none⟩ = some (.int .i64 0) := (blk_cell BK328.out 2).trans rfl
      have hfs45 := blk_frozen BK328.out 2
      have hns45_0 := NB321_328.out
      have hns45_1 := NB322_328.out
      have hms45_0 := NB328_321.out
      have hms45_1 := NB328_322.out
      have hs46 : w42.cell? ⟨gb328, 3, none⟩ = some (.int .i64 0) := (blk_cell BK328.out 3).trans rfl
      have hfs46 := blk_frozen BK328.out 3
      have hns46_0 := NB321_328.out
      have hns46_1 := NB322_328.out
      have hms46_0 := NB328_321.out
      have hms46_1 := NB328_322.out
      refine skip_ (w1 := ?_) (by rfl) rfl ?_ ?_
      rotate_left
      ·go_simp
       rfl
      refine hK.out _ _ ⟨((cell_far (p := ⟨gb328, _, none⟩) (zx (zfar hw326_0 GW328.out)) _).trans (((cell_far (p := ⟨gb328, _, none⟩) (zx (zfar hw326_0 GW328.out)) _).trans (((cell_far (p := ⟨gb328, _, none⟩) (zx (zfar hw326_0 GW328.out)) _).trans (((cell_far (p := ⟨gb328, _, none⟩) (zx (zfar hw326_0 GW328.out)) _).trans (hHeld.1)))))))), ((cell_far (p := ⟨gb328, _, none⟩) (zx (zfar hw326_1 GW328.out)) _).trans (((cell_far (p := ⟨gb328, _, none⟩) (zx (zfar hw326_1 GW328.out)) _).trans (((cell_far (p := ⟨gb328, _, none⟩) (zx (zfar hw326_1 GW328.out)) _).trans (((cell_far (p := ⟨gb328, _, none⟩) (zx (zfar hw326_1 GW328.out)) _).trans (hHeld.2.1)))))))), ((cell_far (p := ⟨gb328, _, none⟩) (zx (zfar hw326_2 GW328.out)) _).trans (((cell_far (p := ⟨gb328, _, none⟩) (zx (zfar hw326_2 GW328.out)) _).trans (((cell_far (p := ⟨gb328, _, none⟩) (zx (zfar hw326_2 GW328.out)) _).trans (((cell_far (p := ⟨gb328, _, none⟩) (zx (zfar hw326_2 GW328.out)) _).trans (hHeld.2.2.1)))))))), ((cell_far (p := ⟨gb328, _, none⟩) (zx (zfar hw326_3 GW328.out)) _).trans (((cell_far (p := ⟨gb328, _, none⟩) (zx (zfar hw326_3 GW328.out)) _).trans (((cell_far (p := ⟨gb328, _, none⟩) (zx (zfar hw326_3 GW328.out)) _).trans (((cell_far (p := ⟨gb328, _, none⟩) (zx (zfar hw326_3 GW328.out)) _).trans (hHeld.2.2.2.1)))))))), ((cell_far (p := ⟨gb328, _, none⟩) (zx (zfar hw326_4 GW328.out)) _).trans (((cell_far (p := ⟨gb328, _, none⟩) (zx (zfar hw326_4 GW328.out)) _).trans (((cell_far (p := ⟨gb328, _, none⟩) (zx (zfar hw326_4 GW328.out)) _).trans (((cell_far (p := ⟨gb328, _, none⟩) (zx (zfar hw326_4 GW328.out)) _).trans (hHeld.2.2.2.2.1)))))))), ((cell_far (p := ⟨gb328, _, none⟩) (zx (zfar hw327_0 GW328.out)) _).trans (((cell_far (p := ⟨gb328, _, none⟩) (zx (zfar hw327_0 GW328.out)) _).trans (((cell_far (p := ⟨gb328, _, none⟩) (zx (zfar hw327_0 GW328.out)) _).trans (((cell_far (p := ⟨gb328, _, none⟩) (zx (zfar hw327_0 GW328.out)) _).trans (hHeld.2.2.2.2.2.1)))))))), ((cell_far (p := ⟨gb328, _, none⟩) (zx (zfar hw327_1 GW328.out)) _).trans (((cell_far (p := ⟨gb328, _, none⟩) (zx (zfar hw327_1 GW328.out)) _).trans (((cell_far (p := ⟨gb328, _, none⟩) (zx (zfar hw327_1 GW328.out)) _).trans (((cell_far (p := ⟨gb328, _, none⟩) (zx (zfar hw327_1 GW328.out)) _).trans (hHeld.2.2.2.2.2.2.1)))))))), ((cell_far (p := ⟨gb328, _, none⟩) (zx (zfar hw327_2 GW328.out)) _).trans (((cell_far (p := ⟨gb328, _, none⟩) (zx (zfar hw327_2 GW328.out)) _).trans (((cell_far (p := ⟨gb328, _, none⟩) (zx (zfar hw327_2 GW328.out)) _).trans (((cell_far (p := ⟨gb328, _, none⟩) (zx (zfar hw327_2 GW328.out)) _).trans (hHeld.2.2.2.2.2.2.2.1)))))))), ((cell_far (p := ⟨gb328, _, none⟩) (zx (zfar hw327_3 GW328.out)) _).trans (((cell_far (p := ⟨gb328, _, none⟩) (zx (zfar hw327_3 GW328.out)) _).trans (((cell_far (p := ⟨gb328, _, none⟩) (zx (zfar hw327_3 GW328.out)) _).trans (((cell_far (p := ⟨gb328, _, none⟩) (zx (zfar hw327_3 GW328.out)) _).trans (hHeld.2.2.2.2.2.2.2.2.1)))))))), ((cell_far (p := ⟨gb328, _, none⟩) (zx (zfar hw327_4 GW328.out)) _).trans (((cell_far (p := ⟨gb328, _, none⟩) (zx (zfar hw327_4 GW328.out)) _).trans (((cell_far (p := ⟨gb328, _, none⟩) (zx (zfar hw327_4 GW328.out)) _).trans (((cell_far (p := ⟨gb328, _, none⟩) (zx (zfar hw327_4 GW328.out)) _).trans (hHeld.2.2.2.2.2.2.2.2.2))))))))⟩ (fun hHeld => ?_)
      clear hK K
      refine done_ (done_of HT_.out (by kernel_rfl)) ?_
      have p329 : 0 ≤ (0 : Int) := (by omega)
      have q329 : 0 < (l2.length : Int) := zdec
      obtain ⟨ad329, e329, hx329_0, hx329_1, hx329_2, hx329_3, hx329_4⟩ := at_T74 HR2.out 0 p329 q329
      obtain rfl : ad326 = ad329 := (by injection e329)
      have qi329 : (0 < l2.length) = True := eq_true (by omega)
      (try rw [show ((0 : Int)).toNat = 0 from rfl] at hx329_0)
      (try rw [show 0 * 5 = 0 from rfl] at hx329_0)
      (try rw [Addr.add_zero'] at hx329_0)
      (try rw [show ((0 : Int)).toNat = 0 from rfl] at hx329_1)
      (try rw [show 0 * 5 = 0 from rfl] at hx329_1)
      (try rw [Addr.add_zero'] at hx329_1)
      (try rw [show ((0 : Int)).toNat = 0 from rfl] at hx329_2)
      (try rw [show 0 * 5 = 0 from rfl] at hx329_2)
      (try rw [Addr.add_zero'] at hx329_2)
      (try rw [show ((0 : Int)).toNat = 0 from rfl] at hx329_3)
      (try rw [show 0 * 5 = 0 from rfl] at hx329_3)
      (try rw [Addr.add_zero'] at hx329_3)
      (try rw [show ((0 : Int)).toNat = 0 from rfl] at hx329_4)
      (try rw [show 0 * 5 = 0 from rfl] at hx329_4)
      (try rw [Addr.add_zero'] at hx329_4)
      have hn329_0 : ad326.block ≠ gb328 := zx (zfar hx329_0 GW328.out)
      have hn329_1 : ad326.block ≠ gb328 := zx (zfar hx329_0 GW328.out)
      have hn329_2 : ad326.block ≠ gb328 := zx (zfar hx329_0 GW328.out)
      have hn329_3 : ad326.block ≠ gb328 := zx (zfar hx329_0 GW328.out)
      replace hx329_0 := zh HB.out hx329_0
      replace hx329_1 := zh HB.out hx329_1
      replace hx329_2 := zh HB.out hx329_2
      replace hx329_3 := zh HB.out hx329_3
      replace hx329_4 := zh HB.out hx329_4
      replace hx329_0 := (cell_far (p := ⟨gb328, 0, none⟩) (zy hn329_0) (.bool true)).trans hx329_0
      replace hx329_1 := (cell_far (p := ⟨gb328, 0, none⟩) (zy hn329_0) (.bool true)).trans hx329_1
      replace hx329_2 := (cell_far (p := ⟨gb328, 0, none⟩) (zy hn329_0) (.bool true)).trans hx329_2
      replace hx329_3 := (cell_far (p := ⟨gb328, 0, none⟩) (zy hn329_0) (.bool true)).trans hx329_3
      replace hx329_4 := (cell_far (p := ⟨gb328, 0, none⟩) (zy hn329_0) (.bool true)).trans hx329_4
      replace hx329_0 := (cell_far (p := ⟨gb328, 1, none⟩) (zy hn329_1) (.int .i64 0)).trans hx329_0
      replace hx329_1 := (cell_far (p := ⟨gb328, 1, none⟩) (zy hn329_1) (.int .i64 0)).trans hx329_1
      replace hx329_2 := (cell_far (p := ⟨gb328, 1, none⟩) (zy hn329_1) (.int .i64 0)).trans hx329_2
      replace hx329_3 := (cell_far (p := ⟨gb328, 1, none⟩) (zy hn329_1) (.int .i64 0)).trans hx329_3
      replace hx329_4 := (cell_far (p := ⟨gb328, 1, none⟩) (zy hn329_1) (.int .i64 0)).trans hx329_4
      replace hx329_0 := (cell_far (p := ⟨gb328, 2, none⟩) (zy hn329_2) (.int .i64 ((rd_T74 l2 0).f2))).trans hx329_0
      replace hx329_1 := (cell_far (p := ⟨gb328, 2, none⟩) (zy hn329_2) (.int .i64 ((rd_T74 l2 0).f2))).trans hx329_1
      replace hx329_2 := (cell_far (p := ⟨gb328, 2, none⟩) (zy hn329_2) (.int .i64 ((rd_T74 l2 0).f2))).trans hx329_2
      replace hx329_3 := (cell_far (p := ⟨gb328, 2, none⟩) (zy hn329_2) (.int .i64 ((rd_T74 l2 0).f2))).trans hx329_3
      replace hx329_4 := (cell_far (p := ⟨gb328, 2, none⟩) (zy hn329_2) (.int .i64 ((rd_T74 l2 0).f2))).trans hx329_4
      replace hx329_0 := (cell_far (p := ⟨gb328, 3, none⟩) (zy hn329_3) (.int .i64 ((rd_T74 l2 0).f3))).trans hx329_0
      replace hx329_1 := (cell_far (p := ⟨gb328, 3, none⟩) (zy hn329_3) (.int .i64 ((rd_T74 l2 0).f3))).trans hx329_1
      replace hx329_2 := (cell_far (p := ⟨gb328, 3, none⟩) (zy hn329_3) (.int .i64 ((rd_T74 l2 0).f3))).trans hx329_2
      replace hx329_3 := (cell_far (p := ⟨gb328, 3, none⟩) (zy hn329_3) (.int .i64 ((rd_T74 l2 0).f3))).trans hx329_3
      replace hx329_4 := (cell_far (p := ⟨gb328, 3, none⟩) (zy hn329_3) (.int .i64 ((rd_T74 l2 0).f3))).trans hx329_4
      clear hn329_0
      clear hn329_1
      clear hn329_2
      clear hn329_3
      replace p329 := eq_true p329
      replace q329 := eq_true q329
      have hnb47 := NB321_322.out
      have hnc47 := NB322_321.out
      have hnb48 := NB321_328.out
      have hnc48 := NB328_321.out
      have hcz49_0 := zc BK321.out 0
      have hcz49_1 := zc BK321.out 1
      have hfz49_0 := blk_frozen BK321.out 0
      have hfz49_1 := blk_frozen BK321.out 1
      have hnb50 := NB328_322.out
      have hnc50 := NB322_328.out
      have hcz51_0 := zc BK328.out 0
      have hcz51_1 := zc BK328.out 1
      have hcz51_2 := zc BK328.out 2
      have hcz51_3 := zc BK328.out 3
      have hfz51_0 := blk_frozen BK328.out 0
      have hfz51_1 := blk_frozen BK328.out 1
      have hfz51_2 := blk_frozen BK328.out 2
      have hfz51_3 := blk_frozen BK328.out 3
      try go_wp2_with (first | (go_at_call 72; (with_reducible refine (cellarref7_Put.calls k1 a0_0 a0_1 a1 true 0 ((rd_T74 l2 0).f2) ((rd_T74 l2 0).f3) t330 _ A23.out).mono ?_); rintro e w52 ⟨v331, rfl, ho0, hb⟩; have HO332 := Aside0.mk (Kd.R_lower ho0 (below_size (zw3 HB.out GE321.out GE322.out GE328.out))); have n1_ := Aside0.mk (blk_below (g := gb321) (o := .cells #[.bool a0_0, .int .i64 a0_1] 29 (0, 0)) (zf1 BK321.out NB321_328.out) hb); have n2_ := Aside0.mk (blk_below (g := gb322) (o := .cells #[.bool x323000_1, .int .i64 x323001_1, .int .i64 x323002_1, .int .i64 x323003_1] 62 (0, 0)) (zf1 BK322.out NB322_328.out) hb); have n3_ := Aside0.mk (blk_below (g := gb328) (o := .cells #[.bool true, .int .i64 0, .int .i64 ((rd_T74 l2 0).f2), .int .i64 ((rd_T74 l2 0).f3)] 62 (0, 0)) (by (with_reducible repeat (first | refine blk_drewN ?_ _ | refine blk_drew ?_ | refine blk_alloc ?_ _)); refine blk_put (cs := #[.bool true, .int .i64 0, .int .i64 ((rd_T74 l2 0).f2), .int .i64 0]) ?_ 3 _ rfl; (with_reducible repeat (first | refine blk_drewN ?_ _ | refine blk_drew ?_ | refine blk_alloc ?_ _)); refine blk_put (cs := #[.bool true, .int .i64 0, .int .i64 0, .int .i64 0]) ?_ 2 _ rfl; (with_reducible repeat (first | refine blk_drewN ?_ _ | refine blk_drew ?_ | refine blk_alloc ?_ _)); refine blk_put (cs := #[.bool true, .int .i64 0, .int .i64 0, .int .i64 0]) ?_ 1 _ rfl; (with_reducible repeat (first | refine blk_drewN ?_ _ | refine blk_drew ?_ | refine blk_alloc ?_ _)); refine blk_put (cs := #[.bool false, .int .i64 0, .int .i64 0, .int .i64 0]) ?_ 0 _ rfl; (with_reducible repeat (first | refine blk_drewN ?_ _ | refine blk_drew ?_ | refine blk_alloc ?_ _)); exact BK328.out) hb); have n4_ := Aside0.mk (below_step (zw3 HB.out GE321.out GE322.out GE328.out) hb); clear BK321 BK322 BK328 HB; have BK321 := n1_; have BK322 := n2_; have BK328 := n3_; have HB := n4_; clear n1_ n2_ n3_ n4_; (try clear hb); (try clear hb2); (try clear hk); (try clear hi); (try clear ho0); obtain ⟨Ao53, co53, eo53⟩ := Kd.R_slice HO332.out; subst eo53) | (go_at_call 105; (with_reducible refine (cellarref0_EqBytes.calls k1 _ _ t330 _ _ l2 false _ ?side1 ?side2 ?side3 ?side4 A24.out).mono ?_); (case side1 => repeat (first | exact (Kd.R_reads' HO332.out).2.2 | (with_reducible refine Kd.C_alloc ?_ _) | (with_reducible refine Kd.C_drewN ?_ _) | (with_reducible refine Kd.C_drew ?_))); (case side2 => exact (Kd.R_reads' HO332.out).2.1); (case side3 => repeat (first | exact (Kd.C_below HR2.out HB.out) | (with_reducible refine Kd.C_alloc ?_ _) | (with_reducible refine Kd.C_drewN ?_ _) | (with_reducible refine Kd.C_drew ?_))); (case side4 => exact HC2.out); rintro e w' ⟨rfl, ⟨nd, rfl⟩⟩; (try (rw [drewN_self w52]; generalize hq_ : World.drewN w52 _ = w52; have n0_ : Aside0 (Kd.R k74 74 w52 w.heap.size (fun _ => True) (.slice Ao53 t330.length co53) t330) := ⟨by rw [← hq_]; exact (by (with_reducible repeat (first | apply Kd.R_alloc | apply Kd.R_drewN | apply Kd.R_drew)); exact HO332.out)⟩; have n1_ : Aside0 (w52.heap[gb321]? = some (.cells #[.bool a0_0, .int .i64 a0_1] 29 (0, 0))) := ⟨by rw [← hq_]; exact (zb BK321.out)⟩; have n2_ : Aside0 (w52.heap[gb322]? = some (.cells #[.bool x323000_1, .int .i64 x323001_1, .int .i64 x323002_1, .int .i64 x323003_1] 62 (0, 0))) := ⟨by rw [← hq_]; exact (zb BK322.out)⟩; have n3_ : Aside0 (w52.heap[gb328]? = some (.cells #[.bool true, .int .i64 0, .int .i64 ((rd_T74 l2 0).f2), .int .i64 ((rd_T74 l2 0).f3)] 62 (0, 0))) := ⟨by rw [← hq_]; exact (zb BK328.out)⟩; have n4_ : Aside0 (Below w.heap.size w w52) := ⟨by rw [← hq_]; exact (zw3 HB.out GE321.out GE322.out GE328.out)⟩; clear HO332 BK321 BK322 BK328 HB hq_; have HO332 := n0_; have BK321 := n1_; have BK322 := n2_; have BK328 := n3_; have HB := n4_; clear n0_ n1_ n2_ n3_ n4_)); have hcz54_0 := zc BK322.out 0; have hcz54_1 := zc BK322.out 1; have hcz54_2 := zc BK322.out 2; have hcz54_3 := zc BK322.out 3; have hfz54_0 := blk_frozen BK322.out 0; have hfz54_1 := blk_frozen BK322.out 1; have hfz54_2 := blk_frozen BK322.out 2; have hfz54_3 := blk_frozen BK322.out 3))
      refine bodyPost_ret (results_ct rfl _ _ gb322 62 #[.bool false, .int .i64 0, .int .i64 0, .int .i64 0] (0, 0) _ rfl (by (with_reducible repeat (first | refine blk_drewN ?_ _ | refine blk_drew ?_ | refine blk_alloc ?_ _)); refine blk_put (cs := #[.bool false, .int .i64 0, .int .i64 0, .int .i64 x323003_1]) ?_ 3 _ rfl; (with_reducible repeat (first | refine blk_drewN ?_ _ | refine blk_drew ?_ | refine blk_alloc ?_ _)); refine blk_put (cs := #[.bool false, .int .i64 0, .int .i64 x323002_1, .int .i64 x323003_1]) ?_ 2 _ rfl; (with_reducible repeat (first | refine blk_drewN ?_ _ | refine blk_drew ?_ | refine blk_alloc ?_ _)); refine blk_put (cs := #[.bool false, .int .i64 x323001_1, .int .i64 x323002_1, .int .i64 x323003_1]) ?_ 1 _ rfl; (with_reducible repeat (first | refine blk_drewN ?_ _ | refine blk_drew ?_ | refine blk_alloc ?_ _)); refine blk_put (cs := #[.bool x323000_1, .int .i64 x323001_1, .int .i64 x323002_1, .int .i64 x323003_1]) ?_ 0 _ rfl; (with_reducible repeat (first | refine blk_drewN ?_ _ | refine blk_drew ?_ | refine blk_alloc ?_ _)); exact BK322.out) Try.underlying62 rfl (by kernel_rfl)) rfl ?_
      exact ⟨ze, zw3 HB.out GE321.out GE322.out GE328.out⟩
     subst c25
     have H1 : (some (true, 0, (rd_T74 l2 0).f2, (rd_T74 l2 0).f3, 0)) = some (r1, r2, r3, r4, r5) := by rw [if_pos rfl] at H; exact H
     clear H
     have H := H1
     clear H1
     simp only [Option.some.injEq, Prod.mk.injEq] at H
     obtain ⟨rfl, rfl, rfl, rfl, rfl⟩ := H
     try go_wp2
     have n0_ := Aside0.mk (blk_drew BK321.out)
     have n1_ := Aside0.mk (blk_drew BK322.out)
     have n2_ := Aside0.mk (below_drew1 HB.out)
     clear BK321
     clear BK322
     clear HB
     have BK321 := n0_
     have BK322 := n1_
     have HB := n2_
     clear n0_ n1_ n2_
     have p326 : 0 ≤ (0 : Int) := (by omega)
     have q326 : 0 < (l2.length : Int) := zdec
     obtain ⟨ad326, e326, hx326_0, hx326_1, hx326_2, hx326_3, hx326_4⟩ := at_T74 HR2.out 0 p326 q326
     have hw326_4 := hx326_4
     (try rw [show ((0 : Int)).toNat = 0 from rfl] at hw326_4)
     (try rw [show 0 * 5 = 0 from rfl] at hw326_4)
     (try rw [Addr.add_zero'] at hw326_4)
     have hw326_3 := hx326_3
     (try rw [show ((0 : Int)).toNat = 0 from rfl] at hw326_3)
     (try rw [show 0 * 5 = 0 from rfl] at hw326_3)
     (try rw [Addr.add_zero'] at hw326_3)
     have hw326_2 := hx326_2
     (try rw [show ((0 : Int)).toNat = 0 from rfl] at hw326_2)
     (try rw [show 0 * 5 = 0 from rfl] at hw326_2)
     (try rw [Addr.add_zero'] at hw326_2)
     have hw326_1 := hx326_1
     (try rw [show ((0 : Int)).toNat = 0 from rfl] at hw326_1)
     (try rw [show 0 * 5 = 0 from rfl] at hw326_1)
     (try rw [Addr.add_zero'] at hw326_1)
     have hw326_0 := hx326_0
     (try rw [show ((0 : Int)).toNat = 0 from rfl] at hw326_0)
     (try rw [show 0 * 5 = 0 from rfl] at hw326_0)
     (try rw [Addr.add_zero'] at hw326_0)
     cases e326
     have qi326 : (0 < l2.length) = True := eq_true (by omega)
     (try rw [show ((0 : Int)).toNat = 0 from rfl] at hx326_0)
     (try rw [show 0 * 5 = 0 from rfl] at hx326_0)
     (try rw [Addr.add_zero'] at hx326_0)
     (try rw [show ((0 : Int)).toNat = 0 from rfl] at hx326_1)
     (try rw [show 0 * 5 = 0 from rfl] at hx326_1)
     (try rw [Addr.add_zero'] at hx326_1)
     (try rw [show ((0 : Int)).toNat = 0 from rfl] at hx326_2)
     (try rw [show 0 * 5 = 0 from rfl] at hx326_2)
     (try rw [Addr.add_zero'] at hx326_2)
     (try rw [show ((0 : Int)).toNat = 0 from rfl] at hx326_3)
     (try rw [show 0 * 5 = 0 from rfl] at hx326_3)
     (try rw [Addr.add_zero'] at hx326_3)
     (try rw [show ((0 : Int)).toNat = 0 from rfl] at hx326_4)
     (try rw [show 0 * 5 = 0 from rfl] at hx326_4)
     (try rw [Addr.add_zero'] at hx326_4)
     replace hx326_0 := zh HB.out hx326_0
     replace hx326_1 := zh HB.out hx326_1
     replace hx326_2 := zh HB.out hx326_2
     replace hx326_3 := zh HB.out hx326_3
     replace hx326_4 := zh HB.out hx326_4
     replace p326 := eq_true p326
     replace q326 := eq_true q326
     have p327 : 0 ≤ (0 : Int) := (by omega)
     have q327 : 0 < (l2.length : Int) := zdec
     obtain ⟨ad327, e327, hx327_0, hx327_1, hx327_2, hx327_3, hx327_4⟩ := at_T74 HR2.out 0 p327 q327
     have hw327_4 := hx327_4
     (try rw [show ((0 : Int)).toNat = 0 from rfl] at hw327_4)
     (try rw [show 0 * 5 = 0 from rfl] at hw327_4)
     (try rw [Addr.add_zero'] at hw327_4)
     have hw327_3 := hx327_3
     (try rw [show ((0 : Int)).toNat = 0 from rfl] at hw327_3)
     (try rw [show 0 * 5 = 0 from rfl] at hw327_3)
     (try rw [Addr.add_zero'] at hw327_3)
     have hw327_2 := hx327_2
     (try rw [show ((0 : Int)).toNat = 0 from rfl] at hw327_2)
     (try rw [show 0 * 5 = 0 from rfl] at hw327_2)
     (try rw [Addr.add_zero'] at hw327_2)
     have hw327_1 := hx327_1
     (try rw [show ((0 : Int)).toNat = 0 from rfl] at hw327_1)
     (try rw [show 0 * 5 = 0 from rfl] at hw327_1)
     (try rw [Addr.add_zero'] at hw327_1)
     have hw327_0 := hx327_0
     (try rw [show ((0 : Int)).toNat = 0 from rfl] at hw327_0)
     (try rw [show 0 * 5 = 0 from rfl] at hw327_0)
     (try rw [Addr.add_zero'] at hw327_0)
     obtain rfl : ad326 = ad327 := (by injection e327)
     have qi327 : (0 < l2.length) = True := eq_true (by omega)
     (try rw [show ((0 : Int)).toNat = 0 from rfl] at hx327_0)
     (try rw [show 0 * 5 = 0 from rfl] at hx327_0)
     (try rw [Addr.add_zero'] at hx327_0)
     (try rw [show ((0 : Int)).toNat = 0 from rfl] at hx327_1)
     (try rw [show 0 * 5 = 0 from rfl] at hx327_1)
     (try rw [Addr.add_zero'] at hx327_1)
     (try rw [show ((0 : Int)).toNat = 0 from rfl] at hx327_2)
     (try rw [show 0 * 5 = 0 from rfl] at hx327_2)
     (try rw [Addr.add_zero'] at hx327_2)
     (try rw [show ((0 : Int)).toNat = 0 from rfl] at hx327_3)
     (try rw [show 0 * 5 = 0 from rfl] at hx327_3)
     (try rw [Addr.add_zero'] at hx327_3)
     (try rw [show ((0 : Int)).toNat = 0 from rfl] at hx327_4)
     (try rw [show 0 * 5 = 0 from rfl] at hx327_4)
     (try rw [Addr.add_zero'] at hx327_4)
     replace hx327_0 := zh HB.out hx327_0
     replace hx327_1 := zh HB.out hx327_1
     replace hx327_2 := zh HB.out hx327_2
     replace hx327_3 := zh HB.out hx327_3
     replace hx327_4 := zh HB.out hx327_4
     replace p327 := eq_true p327
     replace q327 := eq_true q327
     refine start_ (n := 11) (S := fun w' => w'.cell? ad326 = some (.int .i64 ((rd_T74 l2 0).f0)) ∧ w'.cell? ⟨ad326.block, ad326.off + 1, none⟩ = some (.int .i64 ((rd_T74 l2 0).f1)) ∧ w'.cell? ⟨ad326.block, ad326.off + 2, none⟩ = some (.int .i64 ((rd_T74 l2 0).f2)) ∧ w'.cell? ⟨ad326.block, ad326.off + 3, none⟩ = some (.int .i64 ((rd_T74 l2 0).f3)) ∧ w'.cell? ⟨ad326.block, ad326.off + 4, none⟩ = some (.int .i64 ((rd_T74 l2 0).f4)) ∧ w'.cell? ad326 = some (.int .i64 ((rd_T74 l2 0).f0)) ∧ w'.cell? ⟨ad326.block, ad326.off + 1, none⟩ = some (.int .i64 ((rd_T74 l2 0).f1)) ∧ w'.cell? ⟨ad326.block, ad326.off + 2, none⟩ = some (.int .i64 ((rd_T74 l2 0).f2)) ∧ w'.cell? ⟨ad326.block, ad326.off + 3, none⟩ = some (.int .i64 ((rd_T74 l2 0).f3)) ∧ w'.cell? ⟨ad326.block, ad326.off + 4, none⟩ = some (.int .i64 ((rd_T74 l2 0).f4))) (ds := []) #[false,false,false,false,false,false,false,false,false,false,false] (by kernel_rfl) rfl rfl ⟨((HB.out.cell (World.block_lt_of_cell? w _ hw326_0)).trans hw326_0), ((HB.out.cell (World.block_lt_of_cell? w _ hw326_1)).trans hw326_1), ((HB.out.cell (World.block_lt_of_cell? w _ hw326_2)).trans hw326_2), ((HB.out.cell (World.block_lt_of_cell? w _ hw326_3)).trans hw326_3), ((HB.out.cell (World.block_lt_of_cell? w _ hw326_4)).trans hw326_4), ((HB.out.cell (World.block_lt_of_cell? w _ hw327_0)).trans hw327_0), ((HB.out.cell (World.block_lt_of_cell? w _ hw327_1)).trans hw327_1), ((HB.out.cell (World.block_lt_of_cell? w _ hw327_2)).trans hw327_2), ((HB.out.cell (World.block_lt_of_cell? w _ hw327_3)).trans hw327_3), ((HB.out.cell (World.block_lt_of_cell? w _ hw327_4)).trans hw327_4)⟩ (fun hHeld => ?_); refine with_tabW cellarref7_Get.tab17 cellarref7_Get.bits17 (fun HT_ HW_ => ?_)
     generalize wr.drew = w26 at BK321 BK322 HB hx326_0 hx326_1 hx326_2 hx326_3 hx326_4 hx327_0 hx327_1 hx327_2 hx327_3 hx327_4 hHeld ⊢
     refine zp (i := 0) (N := some 54) #[true,false,false,false,false,false,false,false,false,false,false] (any_of HT_.out (by kernel_rfl)) ?_
     refine zp (i := 1) (N := some 55) #[true,true,false,false,false,false,false,false,false,false,false] (any_of HT_.out (by kernel_rfl)) ?_
     refine zp (i := 2) (N := some 56) #[true,true,true,false,false,false,false,false,false,false,false] (any_of HT_.out (by kernel_rfl)) ?_
     refine zp (i := 4) (N := some 58) #[true,true,true,false,true,false,false,false,false,false,false] (any_of HT_.out (by kernel_rfl)) ?_
     refine zp (i := 5) (N := some 59) #[true,true,true,false,true,true,false,false,false,false,false] (any_of HT_.out (by kernel_rfl)) ?_
     refine zp (i := 6) (N := some 60) #[true,true,true,false,true,true,true,false,false,false,false] (any_of HT_.out (by kernel_rfl)) ?_
     refine take_ (i := 3) (N := some 57) (v := ?_) (a' := ?_) #[true,true,true,true,true,true,true,false,false,false,false] rfl rfl (take_ofW HT_.out HW_.out (by kernel_rfl)) (fun _ _ _ h => h) (Or.inl ⟨by rfl, ?_⟩) hHeld ?_ ?_
     rotate_left
     ·rintro w' ⟨s0, s1, s2, s3, s4, s5, s6, s7, s8, s9⟩
      go_simp
      with_reducible rfl
     rotate_left
     ·simp only [Act.put, List.setIfInBounds_toArray, List.set_cons_zero, List.set_cons_succ, i64_w, i32_w]
      rfl
     refine take_ (i := 7) (N := some 61) (v := ?_) (a' := ?_) #[true,true,true,true,true,true,true,true,false,false,false] rfl rfl (take_ofW HT_.out HW_.out (by kernel_rfl)) (fun _ _ _ h => h) (Or.inl ⟨by rfl, ?_⟩) hHeld ?_ ?_
     rotate_left
     ·rintro w' ⟨s0, s1, s2, s3, s4, s5, s6, s7, s8, s9⟩
      go_simp
      with_reducible rfl
     rotate_left
     ·simp only [Act.put, List.setIfInBounds_toArray, List.set_cons_zero, List.set_cons_succ, i64_w, i32_w]
      rfl
     refine zp (i := 8) (N := some 62) #[true,true,true,true,true,true,true,true,true,false,false] (any_of HT_.out (by kernel_rfl)) ?_
     refine one_ (i := 9) (N := some 11) #[true,true,true,true,true,true,true,true,true,true,false] rfl rfl (one_of HT_.out (by kernel_rfl)) (by decide) (fun K hK => ?_)
     refine box_step ?hg (N := 11) ?hd (cs := #[.bool false, .int .i64 0, .int .i64 0, .int .i64 0]) (t := 62) ?hr ?_; (case hd => rfl); (case hg => rfl); (case hr => first | (go_simp; done) | (go_simp; rfl))
     intro gb328 hg w27 hbox hb
     have n0_ := Aside0.mk (zbb BK321.out hb)
     have n1_ := Aside0.mk (zbb BK322.out hb)
     have n2_ := Aside0.mk (below_step (zw2 HB.out GE321.out GE322.out) hb)
     have n3_ := Aside0.mk (hbox)
     have n4_ := Aside0.mk (zg hg (below_size (zw2 HB.out GE321.out GE322.out)))
     have n5_ := Aside0.mk (zg hg (below_size (zw2 HB.out GE321.out GE322.out)))
     have n6_ := Aside0.mk (zlt hg BK321.out)
     have n7_ := Aside0.mk (zgt hg BK321.out)
     have n8_ := Aside0.mk (zlt hg BK322.out)
     have n9_ := Aside0.mk (zgt hg BK322.out)
     clear BK321
     clear BK322
     clear HB
     have BK321 := n0_
     have BK322 := n1_
     have HB := n2_
     have BK328 := n3_
     have GW328 := n4_
     have GE328 := n5_
     have NB321_328 := n6_
     have NB328_321 := n7_
     have NB322_328 := n8_
     have NB328_322 := n9_
     clear n0_ n1_ n2_ n3_ n4_ n5_ n6_ n7_ n8_ n9_
     clear hb hbox hg
     refine hK.out _ _ ⟨((HB.out.cell (World.block_lt_of_cell? w _ hw326_0)).trans hw326_0), ((HB.out.cell (World.block_lt_of_cell? w _ hw326_1)).trans hw326_1), ((HB.out.cell (World.block_lt_of_cell? w _ hw326_2)).trans hw326_2), ((HB.out.cell (World.block_lt_of_cell? w _ hw326_3)).trans hw326_3), ((HB.out.cell (World.block_lt_of_cell? w _ hw326_4)).trans hw326_4), ((HB.out.cell (World.block_lt_of_cell? w _ hw327_0)).trans hw327_0), ((HB.out.cell (World.block_lt_of_cell? w _ hw327_1)).trans hw327_1), ((HB.out.cell (World.block_lt_of_cell? w _ hw327_2)).trans hw327_2), ((HB.out.cell (World.block_lt_of_cell? w _ hw327_3)).trans hw327_3), ((HB.out.cell (World.block_lt_of_cell? w _ hw327_4)).trans hw327_4)⟩ (fun hHeld => ?_)
     clear hK K
     refine norm_ (a' := ?_) ?_ ?_
     rotate_left
     ·show Act.put _ (some 11) _ = _
      simp only [Act.put, List.setIfInBounds_toArray, List.set_cons_zero, List.set_cons_succ, i64_w, i32_w]
      rfl
     refine one_ (i := 10) (N := none) #[true,true,true,true,true,true,true,true,true,true,true] rfl rfl (one_of HT_.out (by kernel_rfl)) (by decide) (fun K hK => ?_)
     have hs28 : w27.cell? ⟨gb328, 0, none⟩ = some (.bool false) := (blk_cell BK328.out 0).trans rfl
     have hfs28 := blk_frozen BK328.out 0
     have hns28_0 := NB321_328.out
     have hns28_1 := NB322_328.out
     have hms28_0 := NB328_321.out
     have hms28_1 := NB328_322.out
     have hs29 : w27.cell? ⟨gb328, 1, none⟩ = some (.int .i64 0) := (blk_cell BK328.out 1).trans rfl
     have hfs29 := blk_frozen BK328.out 1
     have hns29_0 := NB321_328.out
     have hns29_1 := NB322_328.out
     have hms29_0 := NB328_321.out
     have hms29_1 := NB328_322.out
     have hs30 : w27.cell? ⟨gb328, 2, none⟩ = some (.int .i64 0) := (blk_cell BK328.out 2).trans rfl
     have hfs30 := blk_frozen BK328.out 2
     have hns30_0 := NB321_328.out
     have hns30_1 := NB322_328.out
     have hms30_0 := NB328_321.out
     have hms30_1 := NB328_322.out
     have hs31 : w27.cell? ⟨gb328, 3, none⟩ = some (.int .i64 0) := (blk_cell BK328.out 3).trans rfl
     have hfs31 := blk_frozen BK328.out 3
     have hns31_0 := NB321_328.out
     have hns31_1 := NB322_328.out
     have hms31_0 := NB328_321.out
     have hms31_1 := NB328_322.out
     refine skip_ (w1 := ?_) (by rfl) rfl ?_ ?_
     rotate_left
     ·go_simp
      rfl
     refine hK.out _ _ ⟨((cell_far (p := ⟨gb328, _, none⟩) (zx (zfar hw326_0 GW328.out)) _).trans (((cell_far (p := ⟨gb328, _, none⟩) (zx (zfar hw326_0 GW328.out)) _).trans (((cell_far (p := ⟨gb328, _, none⟩) (zx (zfar hw326_0 GW328.out)) _).trans (((cell_far (p := ⟨gb328, _, none⟩) (zx (zfar hw326_0 GW328.out)) _).trans (hHeld.1)))))))), ((cell_far (p := ⟨gb328, _, none⟩) (zx (zfar hw326_1 GW328.out)) _).trans (((cell_far (p := ⟨gb328, _, none⟩) (zx (zfar hw326_1 GW328.out)) _).trans (((cell_far (p := ⟨gb328, _, none⟩) (zx (zfar hw326_1 GW328.out)) _).trans (((cell_far (p := ⟨gb328, _, none⟩) (zx (zfar hw326_1 GW328.out)) _).trans (hHeld.2.1)))))))), ((cell_far (p := ⟨gb328, _, none⟩) (zx (zfar hw326_2 GW328.out)) _).trans (((cell_far (p := ⟨gb328, _, none⟩) (zx (zfar hw326_2 GW328.out)) _).trans (((cell_far (p := ⟨gb328, _, none⟩) (zx (zfar hw326_2 GW328.out)) _).trans (((cell_far (p := ⟨gb328, _, none⟩) (zx (zfar hw326_2 GW328.out)) _).trans (hHeld.2.2.1)))))))), ((cell_far (p := ⟨gb328, _, none⟩) (zx (zfar hw326_3 GW328.out)) _).trans (((cell_far (p := ⟨gb328, _, none⟩) (zx (zfar hw326_3 GW328.out)) _).trans (((cell_far (p := ⟨gb328, _, none⟩) (zx (zfar hw326_3 GW328.out)) _).trans (((cell_far (p := ⟨gb328, _, none⟩) (zx (zfar hw326_3 GW328.out)) _).trans (hHeld.2.2.2.1)))))))), ((cell_far (p := ⟨gb328, _, none⟩) (zx (zfar hw326_4 GW328.out)) _).trans (((cell_far (p := ⟨gb328, _, none⟩) (zx (zfar hw326_4 GW328.out)) _).trans (((cell_far (p := ⟨gb328, _, none⟩) (zx (zfar hw326_4 GW328.out)) _).trans (((cell_far (p := ⟨gb328, _, none⟩) (zx (zfar hw326_4 GW328.out)) _).trans (hHeld.2.2.2.2.1)))))))), ((cell_far (p := ⟨gb328, _, none⟩) (zx (zfar hw327_0 GW328.out)) _).trans (((cell_far (p := ⟨gb328, _, none⟩) (zx (zfar hw327_0 GW328.out)) _).trans (((cell_far (p := ⟨gb328, _, none⟩) (zx (zfar hw327_0 GW328.out)) _).trans (((cell_far (p := ⟨gb328, _, none⟩) (zx (zfar hw327_0 GW328.out)) _).trans (hHeld.2.2.2.2.2.1)))))))), ((cell_far (p := ⟨gb328, _, none⟩) (zx (zfar hw327_1 GW328.out)) _).trans (((cell_far (p := ⟨gb328, _, none⟩) (zx (zfar hw327_1 GW328.out)) _).trans (((cell_far (p := ⟨gb328, _, none⟩) (zx (zfar hw327_1 GW328.out)) _).trans (((cell_far (p := ⟨gb328, _, none⟩) (zx (zfar hw327_1 GW328.out)) _).trans (hHeld.2.2.2.2.2.2.1)))))))), ((cell_far (p := ⟨gb328, _, none⟩) (zx (zfar hw327_2 GW328.out)) _).trans (((cell_far (p := ⟨gb328, _, none⟩) (zx (zfar hw327_2 GW328.out)) _).trans (((cell_far (p := ⟨gb328, _, none⟩) (zx (zfar hw327_2 GW328.out)) _).trans (((cell_far (p := ⟨gb328, _, none⟩) (zx (zfar hw327_2 GW328.out)) _).trans (hHeld.2.2.2.2.2.2.2.1)))))))), ((cell_far (p := ⟨gb328, _, none⟩) (zx (zfar hw327_3 GW328.out)) _).trans (((cell_far (p := ⟨gb328, _, none⟩) (zx (zfar hw327_3 GW328.out)) _).trans (((cell_far (p := ⟨gb328, _, none⟩) (zx (zfar hw327_3 GW328.out)) _).trans (((cell_far (p := ⟨gb328, _, none⟩) (zx (zfar hw327_3 GW328.out)) _).trans (hHeld.2.2.2.2.2.2.2.2.1)))))))), ((cell_far (p := ⟨gb328, _, none⟩) (zx (zfar hw327_4 GW328.out)) _).trans (((cell_far (p := ⟨gb328, _, none⟩) (zx (zfar hw327_4 GW328.out)) _).trans (((cell_far (p := ⟨gb328, _, none⟩) (zx (zfar hw327_4 GW328.out)) _).trans (((cell_far (p := ⟨gb328, _, none⟩) (zx (zfar hw327_4 GW328.out)) _).trans (hHeld.2.2.2.2.2.2.2.2.2))))))))⟩ (fun hHeld => ?_)
     clear hK K
     refine done_ (done_of HT_.out (by kernel_rfl)) ?_
     have p329 : 0 ≤ (0 : Int) := (by omega)
     have q329 : 0 < (l2.length : Int) := zdec
     obtain ⟨ad329, e329, hx329_0, hx329_1, hx329_2, hx329_3, hx329_4⟩ := at_T74 HR2.out 0 p329 q329
     obtain rfl : ad326 = ad329 := (by injection e329)
     have qi329 : (0 < l2.length) = True := eq_true (by omega)
     (try rw [show ((0 : Int)).toNat = 0 from rfl] at hx329_0)
     (try rw [show 0 * 5 = 0 from rfl] at hx329_0)
     (try rw [Addr.add_zero'] at hx329_0)
     (try rw [show ((0 : Int)).toNat = 0 from rfl] at hx329_1)
     (try rw [show 0 * 5 = 0 from rfl] at hx329_1)
     (try rw [Addr.add_zero'] at hx329_1)
     (try rw [show ((0 : Int)).toNat = 0 from rfl] at hx329_2)
     (try rw [show 0 * 5 = 0 from rfl] at hx329_2)
     (try rw [Addr.add_zero'] at hx329_2)
     (try rw [show ((0 : Int)).toNat = 0 from rfl] at hx329_3)
     (try rw [show 0 * 5 = 0 from rfl] at hx329_3)
     (try rw [Addr.add_zero'] at hx329_3)
     (try rw [show ((0 : Int)).toNat = 0 from rfl] at hx329_4)
     (try rw [show 0 * 5 = 0 from rfl] at hx329_4)
     (try rw [Addr.add_zero'] at hx329_4)
     have hn329_0 : ad326.block ≠ gb328 := zx (zfar hx329_0 GW328.out)
     have hn329_1 : ad326.block ≠ gb328 := zx (zfar hx329_0 GW328.out)
     have hn329_2 : ad326.block ≠ gb328 := zx (zfar hx329_0 GW328.out)
     have hn329_3 : ad326.block ≠ gb328 := zx (zfar hx329_0 GW328.out)
     replace hx329_0 := zh HB.out hx329_0
     replace hx329_1 := zh HB.out hx329_1
     replace hx329_2 := zh HB.out hx329_2
     replace hx329_3 := zh HB.out hx329_3
     replace hx329_4 := zh HB.out hx329_4
     replace hx329_0 := (cell_far (p := ⟨gb328, 0, none⟩) (zy hn329_0) (.bool true)).trans hx329_0
     replace hx329_1 := (cell_far (p := ⟨gb328, 0, none⟩) (zy hn329_0) (.bool true)).trans hx329_1
     replace hx329_2 := (cell_far (p := ⟨gb328, 0, none⟩) (zy hn329_0) (.bool true)).trans hx329_2
     replace hx329_3 := (cell_far (p := ⟨gb328, 0, none⟩) (zy hn329_0) (.bool true)).trans hx329_3
     replace hx329_4 := (cell_far (p := ⟨gb328, 0, none⟩) (zy hn329_0) (.bool true)).trans hx329_4
     replace hx329_0 := (cell_far (p := ⟨gb328, 1, none⟩) (zy hn329_1) (.int .i64 0)).trans hx329_0
     replace hx329_1 := (cell_far (p := ⟨gb328, 1, none⟩) (zy hn329_1) (.int .i64 0)).trans hx329_1
     replace hx329_2 := (cell_far (p := ⟨gb328, 1, none⟩) (zy hn329_1) (.int .i64 0)).trans hx329_2
     replace hx329_3 := (cell_far (p := ⟨gb328, 1, none⟩) (zy hn329_1) (.int .i64 0)).trans hx329_3
     replace hx329_4 := (cell_far (p := ⟨gb328, 1, none⟩) (zy hn329_1) (.int .i64 0)).trans hx329_4
     replace hx329_0 := (cell_far (p := ⟨gb328, 2, none⟩) (zy hn329_2) (.int .i64 ((rd_T74 l2 0).f2))).trans hx329_0
     replace hx329_1 := (cell_far (p := ⟨gb328, 2, none⟩) (zy hn329_2) (.int .i64 ((rd_T74 l2 0).f2))).trans hx329_1
     replace hx329_2 := (cell_far (p := ⟨gb328, 2, none⟩) (zy hn329_2) (.int .i64 ((rd_T74 l2 0).f2))).trans hx329_2
     replace hx329_3 := (cell_far (p := ⟨gb328, 2, none⟩) (zy hn329_2) (.int .i64 ((rd_T74 l2 0).f2))).trans hx329_3
     replace hx329_4 := (cell_far (p := ⟨gb328, 2, none⟩) (zy hn329_2) (.int .i64 ((rd_T74 l2 0).f2))).trans hx329_4
     replace hx329_0 := (cell_far (p := ⟨gb328, 3, none⟩) (zy hn329_3) (.int .i64 ((rd_T74 l2 0).f3))).trans hx329_0
     replace hx329_1 := (cell_far (p := ⟨gb328, 3, none⟩) (zy hn329_3) (.int .i64 ((rd_T74 l2 0).f3))).trans hx329_1
     replace hx329_2 := (cell_far (p := ⟨gb328, 3, none⟩) (zy hn329_3) (.int .i64 ((rd_T74 l2 0).f3))).trans hx329_2
     replace hx329_3 := (cell_far (p := ⟨gb328, 3, none⟩) (zy hn329_3) (.int .i64 ((rd_T74 l2 0).f3))).trans hx329_3
     replace hx329_4 := (cell_far (p := ⟨gb328, 3, none⟩) (zy hn329_3) (.int .i64 ((rd_T74 l2 0).f3))).trans hx329_4
     clear hn329_0
     clear hn329_1
     clear hn329_2
     clear hn329_3
     replace p329 := eq_true p329
     replace q329 := eq_true q329
     have hnb32 := NB321_322.out
     have hnc32 := NB322_321.out
     have hnb33 := NB321_328.out
     have hnc33 := NB328_321.out
     have hcz34_0 := zc BK321.out 0
     have hcz34_1 := zc BK321.out 1
     have hfz34_0 := blk_frozen BK321.out 0
     have hfz34_1 := blk_frozen BK321.out 1
     have hnb35 := NB328_322.out
     have hnc35 := NB322_328.out
     have hcz36_0 := zc BK328.out 0
     have hcz36_1 := zc BK328.out 1
     have hcz36_2 := zc BK328.out 2
     have hcz36_3 := zc BK328.out 3
     have hfz36_0 := blk_frozen BK328.out 0
     have hfz36_1 := blk_frozen BK328.out 1
     have hfz36_2 := blk_frozen BK328.out 2
     have hfz36_3 := blk_frozen BK328.out 3
     try go_wp2_with (first | (go_at_call 72; (with_reducible refine (cellarref7_Put.calls k1 a0_0 a0_1 a1 true 0 ((rd_T74 l2 0).f2) ((rd_T74 l2 0).f3) t330 _ A23.out).mono ?_); rintro e w37 ⟨v331, rfl, ho0, hb⟩; have HO332 := Aside0.mk (Kd.R_lower ho0 (below_size (zw3 HB.out GE321.out GE322.out GE328.out))); have n1_ := Aside0.mk (blk_below (g := gb321) (o := .cells #[.bool a0_0, .int .i64 a0_1] 29 (0, 0)) (zf1 BK321.out NB321_328.out) hb); have n2_ := Aside0.mk (blk_below (g := gb322) (o := .cells #[.bool x323000_1, .int .i64 x323001_1, .int .i64 x323002_1, .int .i64 x323003_1] 62 (0, 0)) (zf1 BK322.out NB322_328.out) hb); have n3_ := Aside0.mk (blk_below (g := gb328) (o := .cells #[.bool true, .int .i64 0, .int .i64 ((rd_T74 l2 0).f2), .int .i64 ((rd_T74 l2 0).f3)] 62 (0, 0)) (by (with_reducible repeat (first | refine blk_drewN ?_ _ | refine blk_drew ?_ | refine blk_alloc ?_ _)); refine blk_put (cs := #[.bool true, .int .i64 0, .int .i64 ((rd_T74 l2 0).f2), .int .i64 0]) ?_ 3 _ rfl; (with_reducible repeat (first | refine blk_drewN ?_ _ | refine blk_drew ?_ | refine blk_alloc ?_ _)); refine blk_put (cs := #[.bool true, .int .i64 0, .int .i64 0, .int .i64 0]) ?_ 2 _ rfl; (with_reducible repeat (first | refine blk_drewN ?_ _ | refine blk_drew ?_ | refine blk_alloc ?_ _)); refine blk_put (cs := #[.bool true, .int .i64 0, .int .i64 0, .int .i64 0]) ?_ 1 _ rfl; (with_reducible repeat (first | refine blk_drewN ?_ _ | refine blk_drew ?_ | refine blk_alloc ?_ _)); refine blk_put (cs := #[.bool false, .int .i64 0, .int .i64 0, .int .i64 0]) ?_ 0 _ rfl; (with_reducible repeat (first | refine blk_drewN ?_ _ | refine blk_drew ?_ | refine blk_alloc ?_ _)); exact BK328.out) hb); have n4_ := Aside0.mk (below_step (zw3 HB.out GE321.out GE322.out GE328.out) hb); clear BK321 BK322 BK328 HB; have BK321 := n1_; have BK322 := n2_; have BK328 := n3_; have HB := n4_; clear n1_ n2_ n3_ n4_; (try clear hb); (try clear hb2); (try clear hk); (try clear hi); (try clear ho0); obtain ⟨Ao38, co38, eo38⟩ := Kd.R_slice HO332.out; subst eo38) | (go_at_call 105; (with_reducible refine (cellarref0_EqBytes.calls k1 _ _ t330 _ _ l2 true _ ?side1 ?side2 ?side3 ?side4 A24.out).mono ?_); (case side1 => repeat (first | exact (Kd.R_reads' HO332.out).2.2 | (with_reducible refine Kd.C_alloc ?_ _) | (with_reducible refine Kd.C_drewN ?_ _) | (with_reducible refine Kd.C_drew ?_))); (case side2 => exact (Kd.R_reads' HO332.out).2.1); (case side3 => repeat (first | exact (Kd.C_below HR2.out HB.out) | (with_reducible refine Kd.C_alloc ?_ _) | (with_reducible refine Kd.C_drewN ?_ _) | (with_reducible refine Kd.C_drew ?_))); (case side4 => exact HC2.out); rintro e w' ⟨rfl, ⟨nd, rfl⟩⟩; (try (rw [drewN_self w37]; generalize hq_ : World.drewN w37 _ = w37; have n0_ : Aside0 (Kd.R k74 74 w37 w.heap.size (fun _ => True) (.slice Ao38 t330.length co38) t330) := ⟨by rw [← hq_]; exact (by (with_reducible repeat (first | apply Kd.R_alloc | apply Kd.R_drewN | apply Kd.R_drew)); exact HO332.out)⟩; have n1_ : Aside0 (w37.heap[gb321]? = some (.cells #[.bool a0_0, .int .i64 a0_1] 29 (0, 0))) := ⟨by rw [← hq_]; exact (zb BK321.out)⟩; have n2_ : Aside0 (w37.heap[gb322]? = some (.cells #[.bool x323000_1, .int .i64 x323001_1, .int .i64 x323002_1, .int .i64 x323003_1] 62 (0, 0))) := ⟨by rw [← hq_]; exact (zb BK322.out)⟩; have n3_ : Aside0 (w37.heap[gb328]? = some (.cells #[.bool true, .int .i64 0, .int .i64 ((rd_T74 l2 0).f2), .int .i64 ((rd_T74 l2 0).f3)] 62 (0, 0))) := ⟨by rw [← hq_]; exact (zb BK328.out)⟩; have n4_ : Aside0 (Below w.heap.size w w37) := ⟨by rw [← hq_]; exact (zw3 HB.out GE321.out GE322.out GE328.out)⟩; clear HO332 BK321 BK322 BK328 HB hq_; have HO332 := n0_; have BK321 := n1_; have BK322 := n2_; have BK328 := n3_; have HB := n4_; clear n0_ n1_ n2_ n3_ n4_)); have hcz39_0 := zc BK328.out 0; have hcz39_1 := zc BK328.out 1; have hcz39_2 := zc BK328.out 2; have hcz39_3 := zc BK328.out 3; have hfz39_0 := blk_frozen BK328.out 0; have hfz39_1 := blk_frozen BK328.out 1; have hfz39_2 := blk_frozen BK328.out 2; have hfz39_3 := blk_frozen BK328.out 3; have hcz40_0 := zc BK322.out 0; have hcz40_1 := zc BK322.out 1; have hcz40_2 := zc BK322.out 2; have hcz40_3 := zc BK322.out 3; have hfz40_0 := blk_frozen BK322.out 0; have hfz40_1 := blk_frozen BK322.out 1; have hfz40_2 := blk_frozen BK322.out 2; have hfz40_3 := blk_frozen BK322.out 3))
     refine bodyPost_ret (results_ct rfl _ _ gb322 62 #[.bool true, .int .i64 0, .int .i64 ((rd_T74 l2 0).f2), .int .i64 ((rd_T74 l2 0).f3)] (0, 0) _ rfl (by (with_reducible repeat (first | refine blk_drewN ?_ _ | refine blk_drew ?_ | refine blk_alloc ?_ _)); refine blk_put (cs := #[.bool true, .int .i64 0, .int .i64 ((rd_T74 l2 0).f2), .int .i64 x323003_1]) ?_ 3 _ rfl; (with_reducible repeat (first | refine blk_drewN ?_ _ | refine blk_drew ?_ | refine blk_alloc ?_ _)); refine blk_put (cs := #[.bool true, .int .i64 0, .int .i64 x323002_1, .int .i64 x323003_1]) ?_ 2 _ rfl; (with_reducible repeat (first | refine blk_drewN ?_ _ | refine blk_drew ?_ | refine blk_alloc ?_ _)); refine blk_put (cs := #[.bool true, .int .i64 x323001_1, .int .i64 x323002_1, .int .i64 x323003_1]) ?_ 1 _ rfl; (with_reducible repeat (first | refine blk_drewN ?_ _ | refine blk_drew ?_ | refine blk_alloc ?_ _)); refine blk_put (cs := #[.bool x323000_1, .int .i64 x323001_1, .int .i64 x323002_1, .int .i64 x323003_1]) ?_ 0 _ rfl; (with_reducible repeat (first | refine blk_drewN ?_ _ | refine blk_drew ?_ | refine blk_alloc ?_ _)); exact BK322.out) Try.underlying62 rfl (by kernel_rfl)) rfl ?_
     exact ⟨ze, zw3 HB.out GE321.out GE322.out GE328.out⟩
    ·rw [if_neg c12] at H
     have c12b0 : (a1 == 7) = false := beq_eq_false_iff_ne.mpr c12
     have c12b1 : (a1 != 7) = true := bne_iff_ne.mpr c12
     by_cases c64 : x8_1 > 0
     ·rw [if_pos c64] at H
      have c64b0 : decide (0 < x8_1) = true := decide_eq_true c64
      clear c64
      simp only [Option.some.injEq, Prod.mk.injEq] at H
      obtain ⟨rfl, rfl, rfl, rfl, rfl⟩ := H
      have hnb65 := NB322_321.out
      have hnc65 := NB321_322.out
      have hcz66_0 := zc BK322.out 0
      have hcz66_1 := zc BK322.out 1
      have hcz66_2 := zc BK322.out 2
      have hcz66_3 := zc BK322.out 3
      have hfz66_0 := blk_frozen BK322.out 0
      have hfz66_1 := blk_frozen BK322.out 1
      have hfz66_2 := blk_frozen BK322.out 2
      have hfz66_3 := blk_frozen BK322.out 3
      go_wp2
      refine bodyPost_ret (results_ct rfl _ _ gb322 62 #[.bool false, .int .i64 0, .int .i64 0, .int .i64 0] (0, 0) _ rfl (by (with_reducible repeat (first | refine blk_drewN ?_ _ | refine blk_drew ?_ | refine blk_alloc ?_ _)); refine blk_put (cs := #[.bool false, .int .i64 0, .int .i64 0, .int .i64 x323003_1]) ?_ 3 _ rfl; (with_reducible repeat (first | refine blk_drewN ?_ _ | refine blk_drew ?_ | refine blk_alloc ?_ _)); refine blk_put (cs := #[.bool false, .int .i64 0, .int .i64 x323002_1, .int .i64 x323003_1]) ?_ 2 _ rfl; (with_reducible repeat (first | refine blk_drewN ?_ _ | refine blk_drew ?_ | refine blk_alloc ?_ _)); refine blk_put (cs := #[.bool false, .int .i64 x323001_1, .int .i64 x323002_1, .int .i64 x323003_1]) ?_ 1 _ rfl; (with_reducible repeat (first | refine blk_drewN ?_ _ | refine blk_drew ?_ | refine blk_alloc ?_ _)); refine blk_put (cs := #[.bool x323000_1, .int .i64 x323001_1, .int .i64 x323002_1, .int .i64 x323003_1]) ?_ 0 _ rfl; (with_reducible repeat (first | refine blk_drewN ?_ _ | refine blk_drew ?_ | refine blk_alloc ?_ _)); exact BK322.out) Try.underlying62 rfl (by kernel_rfl)) rfl ?_
      exact ⟨ze, zw2 HB.out GE321.out GE322.out⟩
     ·rw [if_neg c64] at H
      have c64b0 : decide (0 < x8_1) = false := decide_eq_false c64
      clear c64
      have H' := Aside0.mk H
      clear H
      go_wp2
      go_loopg [12, 13] k1 (fun kq v12 v13 w' => ∃ (x12_2 : Int) (x13_2 : Int), v12 = .int .i64 x12_2 ∧ v13 = .int .i64 x13_2 ∧ Aside0 (cellarref7_Get.l2 kq l2 x12_2 x13_2 a0_0 a0_1 = some (r1, r2, r3, r4, r5)) ∧ Aside0 (kq ≤ k1) ∧ Aside0 (w'.heap[gb321]? = some (.cells #[.bool a0_0, .int .i64 a0_1] 29 (0, 0))) ∧ Aside0 (w'.heap[gb322]? = some (.cells #[.bool x323000_1, .int .i64 x323001_1, .int .i64 x323002_1, .int .i64 x323003_1] 62 (0, 0))) ∧ Aside0 (Below w.heap.size w w'))
      case atStart => exact ⟨(0), (0), (zr), (zr), H', ⟨Nat.le_refl _⟩, ⟨zb BK321.out⟩, ⟨zb BK322.out⟩, ⟨zw2 HB.out GE321.out GE322.out⟩⟩
      case round =>
       clear H'
       try clear c1
       try clear c2
       try clear p2
       try clear p3
       try clear q3
       try clear hx3
       try clear qi3
       try clear c4
       try clear c5
       try clear c6
       try clear c12
       try clear c12b0
       try clear c12b1
       try clear c21
       try clear c22
       try clear c22b0
       try clear c22b1
       try clear p32
       try clear q32
       try clear hx32
       try clear qi32
       try clear c47
       try clear c48
       try clear c50
       try clear c61
       try clear c62
       try clear c64
       try clear c64b0
       try clear c65
       try clear hcz49_0
       try clear hcz49_1
       try clear hcz51_0
       try clear hcz51_1
       try clear hcz51_2
       try clear hcz51_3
       try clear hcz54_0
       try clear hcz54_1
       try clear hcz54_2
       try clear hcz54_3
       try clear hcz63_0
       try clear hcz63_1
       try clear hcz63_2
       try clear hcz63_3
       try clear hcz66_0
       try clear hcz66_1
       try clear hcz66_2
       try clear hcz66_3
       try clear hfz49_0
       try clear hfz49_1
       try clear hfz51_0
       try clear hfz51_1
       try clear hfz51_2
       try clear hfz51_3
       try clear hfz54_0
       try clear hfz54_1
       try clear hfz54_2
       try clear hfz54_3
       try clear hfz63_0
       try clear hfz63_1
       try clear hfz63_2
       try clear hfz63_3
       try clear hfz66_0
       try clear hfz66_1
       try clear hfz66_2
       try clear hfz66_3
       try clear hx326_0
       try clear hx326_1
       try clear hx326_2
       try clear hx326_3
       try clear hx326_4
       try clear hx327_0
       try clear hx327_1
       try clear hx327_2
       try clear hx327_3
       try clear hx327_4
       try clear hx329_0
       try clear hx329_1
       try clear hx329_2
       try clear hx329_3
       try clear hx329_4
       try clear p326
       try clear p327
       try clear p329
       try clear q326
       try clear q327
       try clear q329
       obtain ⟨x12_2, x13_2, rfl, rfl, HA, HK2, BK321, BK322, HB⟩ := hrel
       cases gk with
       | zero => exact absurd HA.out (by simp [cellarref7_Get.l2])
       | succ k2 =>
        have H := HA.out
        clear HA
        simp only [cellarref7_Get.l2] at H
        by_cases c67 : x13_2 < (l2.length : Int)
        ·rw [if_pos c67] at H
         have c67b0 : decide (x13_2 < (l2.length : Int)) = true := decide_eq_true c67
         clear c67
         by_cases c68 : a0_0 = true
         ·subst c68
          have H1 : (if 0 ≤ x13_2 then (cellarref7_Get.l2 k2 l2 (Go.bits .or .i64 (wrap64 (x12_2 * 256)) ((rd_T74 l2 x13_2).f1)) (wrap64 (x13_2 + 1)) true a0_1) else (none)) = some (r1, r2, r3, r4, r5) := by rw [if_pos rfl] at H; exact H
          clear H
          have H := H1
          clear H1
          by_cases c69 : 0 ≤ x13_2
          rotate_left
          ·rw [if_neg c69] at H
           exact absurd H (by simp)
          rw [if_pos c69] at H
          have c69b0 : decide (0 ≤ x13_2) = true := decide_eq_true c69
          clear c69
          have H' := Aside0.mk H
          clear H
          have hnb70 := NB321_322.out
          have hnc70 := NB322_321.out
          have hcz71_0 := zc BK321.out 0
          have hcz71_1 := zc BK321.out 1
          have hfz71_0 := blk_frozen BK321.out 0
          have hfz71_1 := blk_frozen BK321.out 1
          have p334 : 0 ≤ (x13_2 : Int) := zdec
          have q334 : x13_2 < (l2.length : Int) := zdec
          obtain ⟨ad334, e334, hx334_0, hx334_1, hx334_2, hx334_3, hx334_4⟩ := at_T74 HR2.out x13_2 p334 q334
          cases e334
          replace hx334_0 := zh HB.out hx334_0
          replace hx334_1 := zh HB.out hx334_1
          replace hx334_2 := zh HB.out hx334_2
          replace hx334_3 := zh HB.out hx334_3
          replace hx334_4 := zh HB.out hx334_4
          replace p334 := eq_true p334
          replace q334 := eq_true q334
          go_wp2
          go_roundg k2
          case measure => have := HK1.out; have := HK2.out; omega
          case rel => exact ⟨(Go.bits .or .i64 (wrap64 (x12_2 * 256)) ((rd_T74 l2 x13_2).f1)), (wrap64 (x13_2 + 1)), (zr), (zr), H', ⟨by have := HK1.out; have := HK2.out; omega⟩, ⟨zb BK321.out⟩, ⟨zb BK322.out⟩, ⟨zw2 HB.out GE321.out GE322.out⟩⟩
         replace c68 := Bool.eq_false_iff.mpr c68
         subst c68
         have H1 : (if 0 ≤ (wrap64 ((wrap64 ((l2.length : Int) - 1)) - x13_2)) then (if (wrap64 ((wrap64 ((l2.length : Int) - 1)) - x13_2)) < (l2.length : Int) then (cellarref7_Get.l2 k2 l2 (Go.bits .or .i64 (wrap64 (x12_2 * 256)) ((rd_T74 l2 (wrap64 ((wrap64 ((l2.length : Int) - 1)) - x13_2))).f1)) (wrap64 (x13_2 + 1)) false a0_1) else (none)) else (none)) = some (r1, r2, r3, r4, r5) := by rw [if_neg (show ¬ (false = true) by decide)] at H; exact H
         clear H
         have H := H1
         clear H1
         obtain ⟨ji72, hji72⟩ : ∃ j_ : Int, (wrap64 ((wrap64 ((l2.length : Int) - 1)) - x13_2)) = j_ := ⟨_, rfl⟩
         replace H : (if 0 ≤ (ji72) then (if (ji72) < (l2.length : Int) then (cellarref7_Get.l2 k2 l2 (Go.bits .or .i64 (wrap64 (x12_2 * 256)) ((rd_T74 l2 (ji72)).f1)) (wrap64 (x13_2 + 1)) false a0_1) else (none)) else (none)) = some (r1, r2, r3, r4, r5) := by first | (rw [hji72] at H; exact H) | (simp only [hji72] at H ⊢; exact H)
         have hji72w : (IntKind.i64.wrap ((wrap64 ((l2.length : Int) - 1)) - x13_2)) = ji72 := (i64_w _).trans hji72
         by_cases c73 : 0 ≤ (ji72)
         rotate_left
         ·rw [if_neg c73] at H
          exact absurd H (by simp)
         rw [if_pos c73] at H
         have c73b0 : decide (0 ≤ (ji72)) = true := decide_eq_true c73
         clear c73
         by_cases c74 : (ji72) < (l2.length : Int)
         rotate_left
         ·rw [if_neg c74] at H
          exact absurd H (by simp)
         rw [if_pos c74] at H
         have c74b0 : decide ((ji72) < (l2.length : Int)) = true := decide_eq_true c74
         clear c74
         have H' := Aside0.mk H
         clear H
         have hnb75 := NB321_322.out
         have hnc75 := NB322_321.out
         have hcz76_0 := zc BK321.out 0
         have hcz76_1 := zc BK321.out 1
         have hfz76_0 := blk_frozen BK321.out 0
         have hfz76_1 := blk_frozen BK321.out 1
         have p335 : 0 ≤ ((ji72) : Int) := zdec
         have q335 : (ji72) < (l2.length : Int) := zdec
         obtain ⟨ad335, e335, hx335_0, hx335_1, hx335_2, hx335_3, hx335_4⟩ := at_T74 HR2.out (ji72) p335 q335
         cases e335
         replace hx335_0 := zh HB.out hx335_0
         replace hx335_1 := zh HB.out hx335_1
         replace hx335_2 := zh HB.out hx335_2
         replace hx335_3 := zh HB.out hx335_3
         replace hx335_4 := zh HB.out hx335_4
         replace p335 := eq_true p335
         replace q335 := eq_true q335
         go_wp2
         go_roundg k2
         case measure => have := HK1.out; have := HK2.out; omega
         case rel => exact ⟨(Go.bits .or .i64 (wrap64 (x12_2 * 256)) ((rd_T74 l2 (ji72)).f1)), (wrap64 (x13_2 + 1)), (by first | rfl | (simp; done) | (simp only [← hji72] <;> (first | rfl | simp)) | (simp [*]; done)), (zr), H', ⟨by have := HK1.out; have := HK2.out; omega⟩, ⟨zb BK321.out⟩, ⟨zb BK322.out⟩, ⟨zw2 HB.out GE321.out GE322.out⟩⟩
        ·rw [if_neg c67] at H
         have c67b0 : decide (x13_2 < (l2.length : Int)) = false := decide_eq_false c67
         clear c67
         simp only [Option.some.injEq, Prod.mk.injEq] at H
         obtain ⟨rfl, rfl, rfl, rfl, rfl⟩ := H
         have hnb77 := NB322_321.out
         have hnc77 := NB321_322.out
         have hcz78_0 := zc BK322.out 0
         have hcz78_1 := zc BK322.out 1
         have hcz78_2 := zc BK322.out 2
         have hcz78_3 := zc BK322.out 3
         have hfz78_0 := blk_frozen BK322.out 0
         have hfz78_1 := blk_frozen BK322.out 1
         have hfz78_2 := blk_frozen BK322.out 2
         have hfz78_3 := blk_frozen BK322.out 3
         go_wp2
         refine bodyPost_ret (results_ct rfl _ _ gb322 62 #[.bool false, .int .i64 x12_2, .int .i64 0, .int .i64 0] (0, 0) _ rfl (by (with_reducible repeat (first | refine blk_drewN ?_ _ | refine blk_drew ?_ | refine blk_alloc ?_ _)); refine blk_put (cs := #[.bool false, .int .i64 x12_2, .int .i64 0, .int .i64 x323003_1]) ?_ 3 _ rfl; (with_reducible repeat (first | refine blk_drewN ?_ _ | refine blk_drew ?_ | refine blk_alloc ?_ _)); refine blk_put (cs := #[.bool false, .int .i64 x12_2, .int .i64 x323002_1, .int .i64 x323003_1]) ?_ 2 _ rfl; (with_reducible repeat (first | refine blk_drewN ?_ _ | refine blk_drew ?_ | refine blk_alloc ?_ _)); refine blk_put (cs := #[.bool false, .int .i64 x323001_1, .int .i64 x323002_1, .int .i64 x323003_1]) ?_ 1 _ rfl; (with_reducible repeat (first | refine blk_drewN ?_ _ | refine blk_drew ?_ | refine blk_alloc ?_ _)); refine blk_put (cs := #[.bool x323000_1, .int .i64 x323001_1, .int .i64 x323002_1, .int .i64 x323003_1]) ?_ 0 _ rfl; (with_reducible repeat (first | refine blk_drewN ?_ _ | refine blk_drew ?_ | refine blk_alloc ?_ _)); exact BK322.out) Try.underlying62 rfl (by kernel_rfl)) rfl ?_
         exact ⟨ze, zw2 HB.out GE321.out GE322.out⟩

end Go.Proofs.Ytjoplkillkhiaaa.D
