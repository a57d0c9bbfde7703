-- Written by this session's own edition of the print.
import Derived.Test.YtjoplkillkhiaaaLx0
import Derived.Test.YtjoplkillkhiaaaLx4
import Derived.Test.YtjoplkillkhiaaaLx5
import Derived.Test.YtjoplkillkhiaaaLx7
import Derived.Test.YtjoplkillkhiaaaUSq
import Derived.Test.YtjoplkillkhiaaaUSq2
namespace Go.Proofs.Ytjoplkillkhiaaa.L
open Go.RowKit Go.Proofs.Ytjoplkillkhiaaa.Fn Go.Proofs.YtjoplkillkhiaaaW.PrintWords Go.Proofs.YtjoplkillkhiaaaW.PrintLast Go.Proofs.YtjoplkillkhiaaaW.PrintMore
attribute [local go_sem] max2_int min2_int max_two min_two max_three min_three max_four min_four   -- for this text's walks alone
set_option linter.unusedVariables false
set_option linter.unusedSimpArgs false

/-! cellarref7_count -/
def cellarref7_count.l0 : Nat → List Int → Int → Int → Int → Int → Int → List ByteArray → List Int → Option (Int)
 | 0, _, _, _, _, _, _, _, _ => none
 | k + 1, x1, x5, x6, x277000, x277001, x277002, x277003, x277004 => if x6 < (x277004.length : Int) then (if 0 ≤ x6 then (if 0 ≤ (rd x277004 x6) then (if (rd x277004 x6) < (x1.length : Int) then (cellarref7_count.l0 k x1 (wrap64 (x5 + (rd x1 (rd x277004 x6)))) (wrap64 (x6 + 1)) x277000 x277001 x277002 x277003 x277004) else (none)) else (none)) else (none)) else (if x277000 = 9 then (some x5) else (if x277000 = 10 then (some x5) else (some 1)))
def cellarref7_count.f (k : Nat) (a0_0 : Int) (a0_1 : Int) (a0_2 : Int) (l0_3 : List ByteArray) (l0_4 : List Int) (l1 : List Int) : Option (Int) := if a0_0 = 8 then (if 0 ≤ a0_2 then (if a0_2 < (l1.length : Int) then (some (wrap64 (a0_1 * (rd l1 a0_2)))) else (none)) else (none)) else (cellarref7_count.l0 k l1 0 0 a0_0 a0_1 a0_2 l0_3 l0_4)
theorem cellarref7_count.mono_l : ∀ k, (∀ y0 y1 y2 y3 y4 y5 y6 y7, LeO (cellarref7_count.l0 k y0 y1 y2 y3 y4 y5 y6 y7) (cellarref7_count.l0 (k + 1) y0 y1 y2 y3 y4 y5 y6 y7))
 | 0 => fun _ _ _ _ _ _ _ _ r h => by simp [cellarref7_count.l0] at h
 | k + 1 => by
  have ih0 := cellarref7_count.mono_l k
  ·intro y0 y1 y2 y3 y4 y5 y6 y7
   unfold cellarref7_count.l0
   repeat' first
   | (with_reducible apply ih0)
   | (with_reducible apply LeO.refl)
   | (with_reducible apply LeO.none)
   | (with_reducible refine LeO.ite ?_ ?_)
   | (with_reducible refine LeO.bind ?_ (fun _ => ?_))
theorem cellarref7_count.mono : ∀ a0 a1 a2 a3 a4 a5 k, LeO (cellarref7_count.f k a0 a1 a2 a3 a4 a5) (cellarref7_count.f (k + 1) a0 a1 a2 a3 a4 a5) := by
 intro a0 a1 a2 a3 a4 a5 k
 have ih0 := cellarref7_count.mono_l k
 unfold cellarref7_count.f
 repeat' first
   | (with_reducible apply ih0)
   | (with_reducible apply LeO.refl)
   | (with_reducible apply LeO.none)
   | (with_reducible refine LeO.ite ?_ ?_)
   | (with_reducible refine LeO.bind ?_ (fun _ => ?_))
set_option maxHeartbeats 8000000 in
set_option maxRecDepth 100000 in
theorem cellarref7_count.calls (k : Nat) (a0_0 : Int) (a0_1 : Int) (a0_2 : Int) (A0_3 : Option Addr) (c0_3 : Nat) (l0_3 : List ByteArray) (A0_4 : Option Addr) (c0_4 : Nat) (l0_4 : List Int) (A1 : Option Addr) (c1 : Nat) (l1 : List Int) (r : Int) (w : World) (hr0_3 : Kd.C Kd.string w A0_3 l0_3.length l0_3) (hc0_3 : l0_3.length ≤ c0_3) (hr0_4 : Kd.C (Kd.int .i64) w A0_4 l0_4.length l0_4) (hc0_4 : l0_4.length ≤ c0_4) (hr1 : Kd.C (Kd.int .i64) w A1 l1.length l1) (hc1 : l1.length ≤ c1) (h : cellarref7_count.f k a0_0 a0_1 a0_2 l0_3 l0_4 l1 = some r) :
  Calls Try.prog 56 #[.agg #[.int .i64 a0_0, .int .i64 a0_1, .int .i64 a0_2, .slice A0_3 l0_3.length c0_3, .slice A0_4 l0_4.length c0_4], .slice A1 l1.length c1] w fun e w' => e = .returned (.int .i64 r) ∧ Below w.heap.size w w' := by
 have hu31 := Try.underlying31
 have HR0_3 := Aside0.mk hr0_3
 have HC0_3 := Aside0.mk hc0_3
 clear hr0_3 hc0_3
 have HR0_4 := Aside0.mk hr0_4
 have HC0_4 := Aside0.mk hc0_4
 clear hr0_4 hc0_4
 have HR1 := Aside0.mk hr1
 have HC1 := Aside0.mk hc1
 clear hr1 hc1
 have HB := Aside0.mk (Below.refl w.heap.size w)
 have H : (if a0_0 = 8 then (if 0 ≤ a0_2 then (if a0_2 < (l1.length : Int) then (some (wrap64 (a0_1 * (rd l1 a0_2)))) else (none)) else (none)) else (cellarref7_count.l0 k l1 0 0 a0_0 a0_1 a0_2 l0_3 l0_4)) = some r := h
 clear h
 by_cases c3 : a0_0 = 8
 ·rw [if_pos c3] at H
  have c3b0 : (a0_0 == 8) = true := beq_iff_eq.mpr c3
  have c3b1 : (a0_0 != 8) = false := bne_eq_false_iff_eq.mpr c3
  clear c3
  by_cases c4 : 0 ≤ a0_2
  rotate_left
  ·rw [if_neg c4] at H
   exact absurd H (by simp)
  rw [if_pos c4] at H
  have c4b0 : decide (0 ≤ a0_2) = true := decide_eq_true c4
  clear c4
  by_cases c5 : a0_2 < (l1.length : Int)
  rotate_left
  ·rw [if_neg c5] at H
   exact absurd H (by simp)
  rw [if_pos c5] at H
  have c5b0 : decide (a0_2 < (l1.length : Int)) = true := decide_eq_true c5
  clear c5
  obtain rfl := Option.some.inj H
  go_enter Try.func56, Try.ntmps56
  go_wp2_with (first | ((with_reducible refine gate_dst (N := 2) rfl ?_); refine zbox (N := 2) (cs := #[.int .i64 a0_0, .int .i64 a0_1, .int .i64 a0_2, .slice A0_3 l0_3.length c0_3, .slice A0_4 l0_4.length c0_4]) (t := 31) ?_; intro gb276 hg w6 hbox hb; have n0_ := Aside0.mk (below_step (zw0 HB.out) hb); have BK276 := Aside0.mk (hbox); have GW276 := Aside0.mk (zg hg (below_size (zw0 HB.out))); have GE276 := GW276; clear HB; have HB := n0_; clear n0_; clear hb hbox hg; have hcz7_0 := zc BK276.out 0; have hcz7_1 := zc BK276.out 1; have hcz7_2 := zc BK276.out 2; have hcz7_3 := zc BK276.out 3; have hcz7_4 := zc BK276.out 4; have hfz7_0 := blk_frozen BK276.out 0; have hfz7_1 := blk_frozen BK276.out 1; have hfz7_2 := blk_frozen BK276.out 2; have hfz7_3 := blk_frozen BK276.out 3; have hfz7_4 := blk_frozen BK276.out 4; have p277 : 0 ≤ (a0_2 : Int) := zdec; have q277 : a0_2 < (l1.length : Int) := zdec; obtain ⟨ad277, e277, hx277_0⟩ := Kd.at_int HR1.out a0_2 p277 q277; cases e277; replace hx277_0 := zh HB.out hx277_0; replace p277 := eq_true p277; replace q277 := eq_true q277))
  repeat (go_quiet (first | ((with_reducible refine gate_dst (N := 2) rfl ?_); refine zbox (N := 2) (cs := #[.int .i64 a0_0, .int .i64 a0_1, .int .i64 a0_2, .slice A0_3 l0_3.length c0_3, .slice A0_4 l0_4.length c0_4]) (t := 31) ?_; intro gb276 hg w6 hbox hb; have n0_ := Aside0.mk (below_step (zw0 HB.out) hb); have BK276 := Aside0.mk (hbox); have GW276 := Aside0.mk (zg hg (below_size (zw0 HB.out))); have GE276 := GW276; clear HB; have HB := n0_; clear n0_; clear hb hbox hg; have hcz7_0 := zc BK276.out 0; have hcz7_1 := zc BK276.out 1; have hcz7_2 := zc BK276.out 2; have hcz7_3 := zc BK276.out 3; have hcz7_4 := zc BK276.out 4; have hfz7_0 := blk_frozen BK276.out 0; have hfz7_1 := blk_frozen BK276.out 1; have hfz7_2 := blk_frozen BK276.out 2; have hfz7_3 := blk_frozen BK276.out 3; have hfz7_4 := blk_frozen BK276.out 4; have p277 : 0 ≤ (a0_2 : Int) := zdec; have q277 : a0_2 < (l1.length : Int) := zdec; obtain ⟨ad277, e277, hx277_0⟩ := Kd.at_int HR1.out a0_2 p277 q277; cases e277; replace hx277_0 := zh HB.out hx277_0; replace p277 := eq_true p277; replace q277 := eq_true q277)); try go_wp2_with (first | ((with_reducible refine gate_dst (N := 2) rfl ?_); refine zbox (N := 2) (cs := #[.int .i64 a0_0, .int .i64 a0_1, .int .i64 a0_2, .slice A0_3 l0_3.length c0_3, .slice A0_4 l0_4.length c0_4]) (t := 31) ?_; intro gb276 hg w6 hbox hb; have n0_ := Aside0.mk (below_step (zw0 HB.out) hb); have BK276 := Aside0.mk (hbox); have GW276 := Aside0.mk (zg hg (below_size (zw0 HB.out))); have GE276 := GW276; clear HB; have HB := n0_; clear n0_; clear hb hbox hg; have hcz7_0 := zc BK276.out 0; have hcz7_1 := zc BK276.out 1; have hcz7_2 := zc BK276.out 2; have hcz7_3 := zc BK276.out 3; have hcz7_4 := zc BK276.out 4; have hfz7_0 := blk_frozen BK276.out 0; have hfz7_1 := blk_frozen BK276.out 1; have hfz7_2 := blk_frozen BK276.out 2; have hfz7_3 := blk_frozen BK276.out 3; have hfz7_4 := blk_frozen BK276.out 4; have p277 : 0 ≤ (a0_2 : Int) := zdec; have q277 : a0_2 < (l1.length : Int) := zdec; obtain ⟨ad277, e277, hx277_0⟩ := Kd.at_int HR1.out a0_2 p277 q277; cases e277; replace hx277_0 := zh HB.out hx277_0; replace p277 := eq_true p277; replace q277 := eq_true q277)))
  go_ret
  exact ⟨ze, zw1 HB.out GE276.out⟩
 ·rw [if_neg c3] at H
  have c3b0 : (a0_0 == 8) = false := beq_eq_false_iff_ne.mpr c3
  have c3b1 : (a0_0 != 8) = true := bne_iff_ne.mpr c3
  have H' := Aside0.mk H
  clear H
  go_enter Try.func56, Try.ntmps56
  go_wp2_with (first | ((with_reducible refine gate_dst (N := 2) rfl ?_); refine zbox (N := 2) (cs := #[.int .i64 a0_0, .int .i64 a0_1, .int .i64 a0_2, .slice A0_3 l0_3.length c0_3, .slice A0_4 l0_4.length c0_4]) (t := 31) ?_; intro gb276 hg w8 hbox hb; have n0_ := Aside0.mk (below_step (zw0 HB.out) hb); have BK276 := Aside0.mk (hbox); have GW276 := Aside0.mk (zg hg (below_size (zw0 HB.out))); have GE276 := GW276; clear HB; have HB := n0_; clear n0_; clear hb hbox hg; have hcz9_0 := zc BK276.out 0; have hcz9_1 := zc BK276.out 1; have hcz9_2 := zc BK276.out 2; have hcz9_3 := zc BK276.out 3; have hcz9_4 := zc BK276.out 4; have hfz9_0 := blk_frozen BK276.out 0; have hfz9_1 := blk_frozen BK276.out 1; have hfz9_2 := blk_frozen BK276.out 2; have hfz9_3 := blk_frozen BK276.out 3; have hfz9_4 := blk_frozen BK276.out 4))
  repeat (go_quiet (first | ((with_reducible refine gate_dst (N := 2) rfl ?_); refine zbox (N := 2) (cs := #[.int .i64 a0_0, .int .i64 a0_1, .int .i64 a0_2, .slice A0_3 l0_3.length c0_3, .slice A0_4 l0_4.length c0_4]) (t := 31) ?_; intro gb276 hg w8 hbox hb; have n0_ := Aside0.mk (below_step (zw0 HB.out) hb); have BK276 := Aside0.mk (hbox); have GW276 := Aside0.mk (zg hg (below_size (zw0 HB.out))); have GE276 := GW276; clear HB; have HB := n0_; clear n0_; clear hb hbox hg; have hcz9_0 := zc BK276.out 0; have hcz9_1 := zc BK276.out 1; have hcz9_2 := zc BK276.out 2; have hcz9_3 := zc BK276.out 3; have hcz9_4 := zc BK276.out 4; have hfz9_0 := blk_frozen BK276.out 0; have hfz9_1 := blk_frozen BK276.out 1; have hfz9_2 := blk_frozen BK276.out 2; have hfz9_3 := blk_frozen BK276.out 3; have hfz9_4 := blk_frozen BK276.out 4)); try go_wp2_with (first | ((with_reducible refine gate_dst (N := 2) rfl ?_); refine zbox (N := 2) (cs := #[.int .i64 a0_0, .int .i64 a0_1, .int .i64 a0_2, .slice A0_3 l0_3.length c0_3, .slice A0_4 l0_4.length c0_4]) (t := 31) ?_; intro gb276 hg w8 hbox hb; have n0_ := Aside0.mk (below_step (zw0 HB.out) hb); have BK276 := Aside0.mk (hbox); have GW276 := Aside0.mk (zg hg (below_size (zw0 HB.out))); have GE276 := GW276; clear HB; have HB := n0_; clear n0_; clear hb hbox hg; have hcz9_0 := zc BK276.out 0; have hcz9_1 := zc BK276.out 1; have hcz9_2 := zc BK276.out 2; have hcz9_3 := zc BK276.out 3; have hcz9_4 := zc BK276.out 4; have hfz9_0 := blk_frozen BK276.out 0; have hfz9_1 := blk_frozen BK276.out 1; have hfz9_2 := blk_frozen BK276.out 2; have hfz9_3 := blk_frozen BK276.out 3; have hfz9_4 := blk_frozen BK276.out 4)))
  go_loopg [5, 6] k (fun kq v5 v6 w' => ∃ (x5_1 : Int) (x6_1 : Int), v5 = .int .i64 x5_1 ∧ v6 = .int .i64 x6_1 ∧ Aside0 (cellarref7_count.l0 kq l1 x5_1 x6_1 a0_0 a0_1 a0_2 l0_3 l0_4 = some r) ∧ Aside0 (kq ≤ k) ∧ Aside0 (w'.heap[gb276]? = some (.cells #[.int .i64 a0_0, .int .i64 a0_1, .int .i64 a0_2, (.slice A0_3 l0_3.length c0_3), (.slice A0_4 l0_4.length c0_4)] 31 (0, 0))) ∧ Aside0 (Below w.heap.size w w'))
  case atStart => exact ⟨(0), (0), (zr), (zr), H', ⟨Nat.le_refl _⟩, ⟨zb BK276.out⟩, ⟨zw1 HB.out GE276.out⟩⟩
  case round =>
   clear H'
   try clear c1; try clear p2; try clear q2; try clear c3; try clear c3b0; try clear c3b1; try clear c4; try clear c4b0; try clear c5; try clear c5b0; try clear p6; try clear p277; try clear q277
   obtain ⟨x5_1, x6_1, rfl, rfl, HA, HK1, BK276, HB⟩ := hrel
   cases gk with
   | zero => exact absurd HA.out (by simp [cellarref7_count.l0])
   | succ k1 =>
    have H := HA.out
    clear HA
    simp only [cellarref7_count.l0] at H
    by_cases c10 : x6_1 < (l0_4.length : Int)
    ·rw [if_pos c10] at H
     have c10b0 : decide (x6_1 < (l0_4.length : Int)) = true := decide_eq_true c10
     clear c10
     by_cases c11 : 0 ≤ x6_1
     rotate_left
     ·rw [if_neg c11] at H
      exact absurd H (by simp)
     rw [if_pos c11] at H
     have c11b0 : decide (0 ≤ x6_1) = true := decide_eq_true c11
     clear c11
     by_cases c12 : 0 ≤ (rd l0_4 x6_1)
     rotate_left
     ·rw [if_neg c12] at H
      exact absurd H (by simp)
     rw [if_pos c12] at H
     have c12b0 : decide (0 ≤ (rd l0_4 x6_1)) = true := decide_eq_true c12
     clear c12
     by_cases c13 : (rd l0_4 x6_1) < (l1.length : Int)
     rotate_left
     ·rw [if_neg c13] at H
      exact absurd H (by simp)
     rw [if_pos c13] at H
     have c13b0 : decide ((rd l0_4 x6_1) < (l1.length : Int)) = true := decide_eq_true c13
     clear c13
     have H' := Aside0.mk H
     clear H
     have hcz14_0 := zc BK276.out 0
     have hcz14_1 := zc BK276.out 1
     have hcz14_2 := zc BK276.out 2
     have hcz14_3 := zc BK276.out 3
     have hcz14_4 := zc BK276.out 4
     have hfz14_0 := blk_frozen BK276.out 0
     have hfz14_1 := blk_frozen BK276.out 1
     have hfz14_2 := blk_frozen BK276.out 2
     have hfz14_3 := blk_frozen BK276.out 3
     have hfz14_4 := blk_frozen BK276.out 4
     have p278 : 0 ≤ (x6_1 : Int) := zdec
     have q278 : x6_1 < (l0_4.length : Int) := zdec
     obtain ⟨ad278, e278, hx278_0⟩ := Kd.at_int HR0_4.out x6_1 p278 q278
     cases e278
     replace hx278_0 := zh HB.out hx278_0
     replace p278 := eq_true p278
     replace q278 := eq_true q278
     have p279 : 0 ≤ ((rd l0_4 x6_1) : Int) := zdec
     have q279 : (rd l0_4 x6_1) < (l1.length : Int) := zdec
     obtain ⟨ad279, e279, hx279_0⟩ := Kd.at_int HR1.out (rd l0_4 x6_1) p279 q279
     cases e279
     replace hx279_0 := zh HB.out hx279_0
     replace p279 := eq_true p279
     replace q279 := eq_true q279
     go_wp2
     repeat (go_quiet (fail); try go_wp2)
     go_roundg k1
     case measure => have := HK1.out; omega
     case rel => exact ⟨(wrap64 (x5_1 + (rd l1 (rd l0_4 x6_1)))), (wrap64 (x6_1 + 1)), (zr), (zr), H', ⟨by have := HK1.out; omega⟩, ⟨zb BK276.out⟩, ⟨zw1 HB.out GE276.out⟩⟩
    ·rw [if_neg c10] at H
     have c10b0 : decide (x6_1 < (l0_4.length : Int)) = false := decide_eq_false c10
     clear c10
     by_cases c15 : a0_0 = 9
     ·rw [if_pos c15] at H
      have c15b0 : (a0_0 == 9) = true := beq_iff_eq.mpr c15
      have c15b1 : (a0_0 != 9) = false := bne_eq_false_iff_eq.mpr c15
      clear c15
      obtain rfl := Option.some.inj H
      have hcz16_0 := zc BK276.out 0
      have hcz16_1 := zc BK276.out 1
      have hcz16_2 := zc BK276.out 2
      have hcz16_3 := zc BK276.out 3
      have hcz16_4 := zc BK276.out 4
      have hfz16_0 := blk_frozen BK276.out 0
      have hfz16_1 := blk_frozen BK276.out 1
      have hfz16_2 := blk_frozen BK276.out 2
      have hfz16_3 := blk_frozen BK276.out 3
      have hfz16_4 := blk_frozen BK276.out 4
      go_wp2
      repeat (go_quiet (fail); try go_wp2)
      go_ret
      exact ⟨ze, zw1 HB.out GE276.out⟩
     ·rw [if_neg c15] at H
      have c15b0 : (a0_0 == 9) = false := beq_eq_false_iff_ne.mpr c15
      have c15b1 : (a0_0 != 9) = true := bne_iff_ne.mpr c15
      by_cases c17 : a0_0 = 10
      ·rw [if_pos c17] at H
       have c17b0 : (a0_0 == 10) = true := beq_iff_eq.mpr c17
       have c17b1 : (a0_0 != 10) = false := bne_eq_false_iff_eq.mpr c17
       clear c17
       obtain rfl := Option.some.inj H
       have hcz18_0 := zc BK276.out 0
       have hcz18_1 := zc BK276.out 1
       have hcz18_2 := zc BK276.out 2
       have hcz18_3 := zc BK276.out 3
       have hcz18_4 := zc BK276.out 4
       have hfz18_0 := blk_frozen BK276.out 0
       have hfz18_1 := blk_frozen BK276.out 1
       have hfz18_2 := blk_frozen BK276.out 2
       have hfz18_3 := blk_frozen BK276.out 3
       have hfz18_4 := blk_frozen BK276.out 4
       go_wp2
       repeat (go_quiet (fail); try go_wp2)
       go_ret
       exact ⟨ze, zw1 HB.out GE276.out⟩
      ·rw [if_neg c17] at H
       have c17b0 : (a0_0 == 10) = false := beq_eq_false_iff_ne.mpr c17
       have c17b1 : (a0_0 != 10) = true := bne_iff_ne.mpr c17
       obtain rfl := Option.some.inj H
       have hcz19_0 := zc BK276.out 0
       have hcz19_1 := zc BK276.out 1
       have hcz19_2 := zc BK276.out 2
       have hcz19_3 := zc BK276.out 3
       have hcz19_4 := zc BK276.out 4
       have hfz19_0 := blk_frozen BK276.out 0
       have hfz19_1 := blk_frozen BK276.out 1
       have hfz19_2 := blk_frozen BK276.out 2
       have hfz19_3 := blk_frozen BK276.out 3
       have hfz19_4 := blk_frozen BK276.out 4
       go_wp2
       repeat (go_quiet (fail); try go_wp2)
       go_ret
       exact ⟨ze, zw1 HB.out GE276.out⟩

/-! cellarref7_Types -/
mutual
def cellarref7_Types.j0 : Nat → List (S31) → Bool → Bool → Int → Option (List Int × List Int × Bool)
 | 0, _, _, _, _ => none
 | k + 1, x1, x22, x281000, x281001 => if x22 = true then (some (([] : List Int), ([] : List Int), false)) else (cellarref7_Types.l0 k x1 ([] : List Int) ([] : List Int) ([] : List Int) 0 x281000 x281001)
def cellarref7_Types.l0 : Nat → List (S31) → List Int → List Int → List Int → Int → Bool → Int → Option (List Int × List Int × Bool)
 | 0, _, _, _, _, _, _, _ => none
 | k + 1, x1, x7, x8, x9, x10, x281000, x281001 => if x10 < (x1.length : Int) then ((cellarref7_measure.f k x281000 x281001 x1 x10 x7 x8).bind fun bt282 => (if bt282.2.2 = true then (cellarref7_Types.j2 k x1 x7 x8 x9 x10 bt282.1 bt282.2.1 (decide (bt282.1 > 32)) x281000 x281001) else (cellarref7_Types.j2 k x1 x7 x8 x9 x10 bt282.1 bt282.2.1 true x281000 x281001))) else (some (x7, x8, true))
def cellarref7_Types.j2 : Nat → List (S31) → List Int → List Int → List Int → Int → Int → Int → Bool → Bool → Int → Option (List Int × List Int × Bool)
 | 0, _, _, _, _, _, _, _, _, _, _ => none
 | k + 1, x1, x7, x8, x9, x10, x11, x12, x44, x281000, x281001 => if x44 = true then (some (([] : List Int), ([] : List Int), false)) else (if 0 ≤ x10 then (if x10 < (x1.length : Int) then ((cellarref7_count.f k ((rd_T31 x1 x10).f0) ((rd_T31 x1 x10).f1) ((rd_T31 x1 x10).f2) ((rd_T31 x1 x10).f3) ((rd_T31 x1 x10).f4) x9).bind fun t286 => (if t286 > 64 then (some (([] : List Int), ([] : List Int), false)) else (if x7.length < 17592186044416 then (if x8.length < 17592186044416 then (if x9.length < 17592186044416 then (cellarref7_Types.l0 k x1 (x7 ++ [x11]) (x8 ++ [x12]) (x9 ++ [t286]) (wrap64 (x10 + 1)) x281000 x281001) else (none)) else (none)) else (none)))) else (none)) else (none))
end
def cellarref7_Types.f (k : Nat) (a0_0 : Bool) (a0_1 : Int) (l1 : List (S31)) : Option (List Int × List Int × Bool) := (cellarref1_Abi.f a0_0 a0_1).bind fun t281 => (if t281 = true then (cellarref7_Types.j0 k l1 (decide ((l1.length : Int) > 30)) a0_0 a0_1) else (cellarref7_Types.j0 k l1 true a0_0 a0_1))
theorem cellarref7_Types.mono_l : ∀ k, (∀ y0 y1 y2 y3, LeO (cellarref7_Types.j0 k y0 y1 y2 y3) (cellarref7_Types.j0 (k + 1) y0 y1 y2 y3)) ∧ (∀ y0 y1 y2 y3 y4 y5 y6, LeO (cellarref7_Types.l0 k y0 y1 y2 y3 y4 y5 y6) (cellarref7_Types.l0 (k + 1) y0 y1 y2 y3 y4 y5 y6)) ∧ (∀ y0 y1 y2 y3 y4 y5 y6 y7 y8 y9, LeO (cellarref7_Types.j2 k y0 y1 y2 y3 y4 y5 y6 y7 y8 y9) (cellarref7_Types.j2 (k + 1) y0 y1 y2 y3 y4 y5 y6 y7 y8 y9))
 | 0 => ⟨fun _ _ _ _ r h => by simp [cellarref7_Types.j0] at h, fun _ _ _ _ _ _ _ r h => by simp [cellarref7_Types.l0] at h, fun _ _ _ _ _ _ _ _ _ _ r h => by simp [cellarref7_Types.j2] at h⟩
 | k + 1 => by
  obtain ⟨ih0, ih1, ih2⟩ := cellarref7_Types.mono_l k
  refine ⟨?_, ?_, ?_⟩
  ·intro y0 y1 y2 y3
   unfold cellarref7_Types.j0
   repeat' first
   | (with_reducible apply ih0)
   | (with_reducible apply ih1)
   | (with_reducible apply ih2)
   | (with_reducible apply cellarref7_count.mono)
   | (with_reducible apply cellarref7_measure.mono)
   | (with_reducible apply LeO.refl)
   | (with_reducible apply LeO.none)
   | (with_reducible refine LeO.ite ?_ ?_)
   | (with_reducible refine LeO.bind ?_ (fun _ => ?_))
  ·intro y0 y1 y2 y3 y4 y5 y6
   unfold cellarref7_Types.l0
   repeat' first
   | (with_reducible apply ih0)
   | (with_reducible apply ih1)
   | (with_reducible apply ih2)
   | (with_reducible apply cellarref7_count.mono)
   | (with_reducible apply cellarref7_measure.mono)
   | (with_reducible apply LeO.refl)
   | (with_reducible apply LeO.none)
   | (with_reducible refine LeO.ite ?_ ?_)
   | (with_reducible refine LeO.bind ?_ (fun _ => ?_))
  ·intro y0 y1 y2 y3 y4 y5 y6 y7 y8 y9
   unfold cellarref7_Types.j2
   repeat' first
   | (with_reducible apply ih0)
   | (with_reducible apply ih1)
   | (with_reducible apply ih2)
   | (with_reducible apply cellarref7_count.mono)
   | (with_reducible apply cellarref7_measure.mono)
   | (with_reducible apply LeO.refl)
   | (with_reducible apply LeO.none)
   | (with_reducible refine LeO.ite ?_ ?_)
   | (with_reducible refine LeO.bind ?_ (fun _ => ?_))
theorem cellarref7_Types.mono : ∀ a0 a1 a2 k, LeO (cellarref7_Types.f k a0 a1 a2) (cellarref7_Types.f (k + 1) a0 a1 a2) := by
 intro a0 a1 a2 k
 obtain ⟨ih0, ih1, ih2⟩ := cellarref7_Types.mono_l k
 unfold cellarref7_Types.f
 repeat' first
   | (with_reducible apply ih0)
   | (with_reducible apply ih1)
   | (with_reducible apply ih2)
   | (with_reducible apply cellarref7_count.mono)
   | (with_reducible apply cellarref7_measure.mono)
   | (with_reducible apply LeO.refl)
   | (with_reducible apply LeO.none)
   | (with_reducible refine LeO.ite ?_ ?_)
   | (with_reducible refine LeO.bind ?_ (fun _ => ?_))
set_option maxHeartbeats 8000000 in
set_option maxRecDepth 100000 in
theorem cellarref7_Types.calls (k : Nat) (a0_0 : Bool) (a0_1 : Int) (A1 : Option Addr) (c1 : Nat) (l1 : List (S31)) (r1 : List Int) (r2 : List Int) (r3 : Bool) (w : World) (hr1 : Kd.C k31 w A1 l1.length l1) (hc1 : l1.length ≤ c1) (h : cellarref7_Types.f k a0_0 a0_1 l1 = some (r1, r2, r3)) :
  Calls Try.prog 17 #[.agg #[.bool a0_0, .int .i64 a0_1], .slice A1 l1.length c1] w fun e w' => ∃ v0_ v1_ : Value, e = .returned (.tuple #[v0_, v1_, .bool r3]) ∧ Kd.R (Kd.int .i64) 3 w' w.heap.size (fun k_ => some k_ ≠ (v1_ : Value).ownBlock) v0_ r1 ∧ Kd.R (Kd.int .i64) 3 w' w.heap.size (fun k_ => some k_ ≠ (v0_ : Value).ownBlock) v1_ r2 ∧ Below w.heap.size w w' := by
 have hu29 := Try.underlying29
 have hu31 := Try.underlying31
 have HR1 := Aside0.mk hr1
 have HC1 := Aside0.mk hc1
 clear hr1 hc1
 have HB := Aside0.mk (Below.refl w.heap.size w)
 have H : ((cellarref1_Abi.f a0_0 a0_1).bind fun t281 => (if t281 = true then (cellarref7_Types.j0 k l1 (decide ((l1.length : Int) > 30)) a0_0 a0_1) else (cellarref7_Types.j0 k l1 true a0_0 a0_1))) = some (r1, r2, r3) := h
 clear h
 have HC3 := Aside0.mk H
 clear H
 go_enter Try.func17, Try.ntmps17
 go_upto_region 1 with (first | ((with_reducible refine gate_dst (N := 2) rfl ?_); (try (refine gate_guard (by rfl) ?_; dsimp only)); refine zbox (N := 2) (cs := #[.bool a0_0, .int .i64 a0_1]) (t := 29) ?_; intro gb280 hg w4 hbox hb; have n0_ := Aside0.mk (below_step (zw0 HB.out) hb); have BK280 := Aside0.mk (hbox); have GW280 := Aside0.mk (zg hg (below_size (zw0 HB.out))); have GE280 := GW280; clear HB; have HB := n0_; clear n0_; clear hb hbox hg))
 (try simp only [Act.put, List.setIfInBounds_toArray, List.set_cons_zero, List.set_cons_succ])
 go_cut [22] (fun v22 wc => ∃ (kq : Nat) (x22_2 : Bool), v22 = .bool x22_2 ∧ Aside0 (cellarref7_Types.j0 kq l1 x22_2 a0_0 a0_1 = some (r1, r2, r3)) ∧ Aside0 (kq ≤ k) ∧ Aside0 (wc.heap[gb280]? = some (.cells #[.bool a0_0, .int .i64 a0_1] 29 (0, 0))) ∧ Aside0 (Below w.heap.size w wc))
 case first =>
  have H := HC3.out
  clear HC3
  replace H := Option.bind_eq_some_iff.mp H
  obtain ⟨t281, A50, H⟩ := H
  replace H : (if t281 = true then (cellarref7_Types.j0 k l1 (decide ((l1.length : Int) > 30)) a0_0 a0_1) else (cellarref7_Types.j0 k l1 true a0_0 a0_1)) = some (r1, r2, r3) := H
  have A5 := Aside0.mk A50
  clear A50
  by_cases c6 : t281 = true
  ·subst c6
   have H1 : (cellarref7_Types.j0 k l1 (decide ((l1.length : Int) > 30)) a0_0 a0_1) = some (r1, r2, r3) := by rw [if_pos rfl] at H; exact H
   clear H
   have H := H1
   clear H1
   have H' := Aside0.mk H
   clear H
   have hcz7_0 := zc BK280.out 0
   have hcz7_1 := zc BK280.out 1
   have hfz7_0 := blk_frozen BK280.out 0
   have hfz7_1 := blk_frozen BK280.out 1
   go_wp2_with (first | ((with_reducible refine gate_callee (f := 31) rfl ?_); refine zgo (some 16) Try.func31 #[.agg #[.bool a0_0, .int .i64 a0_1]] ?_; (with_reducible refine (cellarref1_Abi.calls a0_0 a0_1 true _ A5.out).mono ?_); rintro e w8 ⟨rfl, hb⟩; refine ⟨_, rfl, ?_⟩; have n0_ := Aside0.mk (zbb BK280.out hb); have n1_ := Aside0.mk (below_step (zw1 HB.out GE280.out) hb); clear BK280 HB; have BK280 := n0_; have HB := n1_; clear n0_ n1_; (try clear hb); (try clear hb2); (try clear hk); (try clear hi)))
   go_meet
   case rel => exact ⟨_, (decide ((l1.length : Int) > 30)), (zr), H', ⟨by first | omega | exact Nat.le_refl _⟩, ⟨zb BK280.out⟩, ⟨zw1 HB.out GE280.out⟩⟩
  replace c6 := Bool.eq_false_iff.mpr c6
  subst c6
  have H1 : (cellarref7_Types.j0 k l1 true a0_0 a0_1) = some (r1, r2, r3) := by rw [if_neg (show ¬ (false = true) by decide)] at H; exact H
  clear H
  have H := H1
  clear H1
  have H' := Aside0.mk H
  clear H
  have hcz9_0 := zc BK280.out 0
  have hcz9_1 := zc BK280.out 1
  have hfz9_0 := blk_frozen BK280.out 0
  have hfz9_1 := blk_frozen BK280.out 1
  go_wp2_with (first | ((with_reducible refine gate_callee (f := 31) rfl ?_); refine zgo (some 16) Try.func31 #[.agg #[.bool a0_0, .int .i64 a0_1]] ?_; (with_reducible refine (cellarref1_Abi.calls a0_0 a0_1 false _ A5.out).mono ?_); rintro e w10 ⟨rfl, hb⟩; refine ⟨_, rfl, ?_⟩; have n0_ := Aside0.mk (zbb BK280.out hb); have n1_ := Aside0.mk (below_step (zw1 HB.out GE280.out) hb); clear BK280 HB; have BK280 := n0_; have HB := n1_; clear n0_ n1_; (try clear hb); (try clear hb2); (try clear hk); (try clear hi)))
  go_meet
  case rel => exact ⟨_, (true), (zr), H', ⟨by first | omega | exact Nat.le_refl _⟩, ⟨zb BK280.out⟩, ⟨zw1 HB.out GE280.out⟩⟩
 case rest =>
  clear HC3
  try clear c1; try clear p2; try clear c3; try clear c6
  obtain ⟨kq, x22_2, rfl, HA, HJ2, BK280, HB⟩ := hcut
  cases kq with
  | zero => exact absurd HA.out (by simp [cellarref7_Types.j0])
  | succ kj2 =>
   have H := HA.out
   clear HA
   simp only [cellarref7_Types.j0] at H
   by_cases c11 : x22_2 = true
   ·subst c11
    have H1 : (some (([] : List Int), ([] : List Int), false)) = some (r1, r2, r3) := by rw [if_pos rfl] at H; exact H
    clear H
    have H := H1
    clear H1
    simp only [Option.some.injEq, Prod.mk.injEq] at H
    obtain ⟨rfl, rfl, rfl⟩ := H
    go_wp2
    go_ret3
    exact ⟨_, _, ze, by first | exact Kd.R_nil _ _ _ _ _ | exact Kd.N_nil _ _ _ _ _ | exact Kd.V_nil _ _ _ _ _ | exact Kd.Q_nil _ _ _ _ _ | exact Kd.S_nil _ _ _ _ _, by first | exact Kd.R_nil _ _ _ _ _ | exact Kd.N_nil _ _ _ _ _ | exact Kd.V_nil _ _ _ _ _ | exact Kd.Q_nil _ _ _ _ _ | exact Kd.S_nil _ _ _ _ _, zw1 HB.out GE280.out⟩
   ·replace c11 := Bool.eq_false_iff.mpr c11
    subst c11
    have H1 : (cellarref7_Types.l0 kj2 l1 ([] : List Int) ([] : List Int) ([] : List Int) 0 a0_0 a0_1) = some (r1, r2, r3) := by rw [if_neg (show ¬ (false = true) by decide)] at H; exact H
    clear H
    have H := H1
    clear H1
    have H' := Aside0.mk H
    clear H
    go_wp2
    go_loopg [7, 8, 9, 10] kj2 (fun kq v7 v8 v9 v10 w' => ∃ (x7_2 : List Int) (x8_2 : List Int) (x9_2 : List Int) (x10_2 : Int), v10 = .int .i64 x10_2 ∧ Aside0 (cellarref7_Types.l0 kq l1 x7_2 x8_2 x9_2 x10_2 a0_0 a0_1 = some (r1, r2, r3)) ∧ Aside0 (kq ≤ kj2) ∧ Aside0 (Kd.R (Kd.int .i64) 3 w' w.heap.size (fun k_ => some k_ ≠ (v8 : Value).ownBlock ∧ some k_ ≠ (v9 : Value).ownBlock) v7 x7_2) ∧ Aside0 (Kd.R (Kd.int .i64) 3 w' w.heap.size (fun k_ => some k_ ≠ (v7 : Value).ownBlock ∧ some k_ ≠ (v9 : Value).ownBlock) v8 x8_2) ∧ Aside0 (Kd.R (Kd.int .i64) 3 w' w.heap.size (fun k_ => some k_ ≠ (v7 : Value).ownBlock ∧ some k_ ≠ (v8 : Value).ownBlock) v9 x9_2) ∧ Aside0 (w'.heap[gb280]? = some (.cells #[.bool a0_0, .int .i64 a0_1] 29 (0, 0))) ∧ Aside0 (Below w.heap.size w w'))
    case atStart => exact ⟨(([] : List Int)), (([] : List Int)), (([] : List Int)), (0), (zr), H', ⟨Nat.le_refl _⟩, ⟨by first | exact Kd.R_nil _ _ _ _ _ | exact Kd.N_nil _ _ _ _ _ | exact Kd.V_nil _ _ _ _ _ | exact Kd.Q_nil _ _ _ _ _ | exact Kd.S_nil _ _ _ _ _⟩, ⟨by first | exact Kd.R_nil _ _ _ _ _ | exact Kd.N_nil _ _ _ _ _ | exact Kd.V_nil _ _ _ _ _ | exact Kd.Q_nil _ _ _ _ _ | exact Kd.S_nil _ _ _ _ _⟩, ⟨by first | exact Kd.R_nil _ _ _ _ _ | exact Kd.N_nil _ _ _ _ _ | exact Kd.V_nil _ _ _ _ _ | exact Kd.Q_nil _ _ _ _ _ | exact Kd.S_nil _ _ _ _ _⟩, ⟨zb BK280.out⟩, ⟨zw1 HB.out GE280.out⟩⟩
    case round =>
     clear H'
     try clear c1; try clear p2; try clear c3; try clear c6; try clear c11; try clear p2
     obtain ⟨x7_2, x8_2, x9_2, x10_2, rfl, HA, HK2, HO_7, HO_8, HO_9, BK280, HB⟩ := hrel
     cases gk with
     | zero => exact absurd HA.out (by simp [cellarref7_Types.l0])
     | succ k2 =>
      have H := HA.out
      clear HA
      simp only [cellarref7_Types.l0] at H
      by_cases c12 : x10_2 < (l1.length : Int)
      ·rw [if_pos c12] at H
       have c12b0 : decide (x10_2 < (l1.length : Int)) = true := decide_eq_true c12
       clear c12
       replace H := Option.bind_eq_some_iff.mp H
       obtain ⟨⟨t282, t283, t284⟩, A130, H⟩ := H
       replace H : (if t284 = true then (cellarref7_Types.j2 k2 l1 x7_2 x8_2 x9_2 x10_2 t282 t283 (decide (t282 > 32)) a0_0 a0_1) else (cellarref7_Types.j2 k2 l1 x7_2 x8_2 x9_2 x10_2 t282 t283 true a0_0 a0_1)) = some (r1, r2, r3) := H
       have A13 := Aside0.mk A130
       clear A130
       have HC14 := Aside0.mk H
       clear H
       have hcz15_0 := zc BK280.out 0
       have hcz15_1 := zc BK280.out 1
       have hfz15_0 := blk_frozen BK280.out 0
       have hfz15_1 := blk_frozen BK280.out 1
       obtain ⟨Ao16, co16, eo16⟩ := Kd.R_slice HO_7.out
       subst eo16
       obtain ⟨Ao17, co17, eo17⟩ := Kd.R_slice HO_8.out
       subst eo17
       go_upto_region 8 with (first | ((with_reducible refine gate_callee (f := 55) rfl ?_); refine zgo (some 35) Try.func55 #[.agg #[.bool a0_0, .int .i64 a0_1], .slice A1 l1.length c1, .int .i64 x10_2, .slice Ao16 x7_2.length co16, .slice Ao17 x8_2.length co17] ?_; (with_reducible refine (cellarref7_measure.calls k2 a0_0 a0_1 _ _ l1 x10_2 _ _ x7_2 _ _ x8_2 t282 t283 t284 _ ?side1 ?side2 ?side3 ?side4 ?side5 ?side6 A13.out).mono ?_); (case side1 => repeat (first | exact (Kd.C_below HR1.out HB.out) | (with_reducible refine Kd.C_alloc ?_ _) | (with_reducible refine Kd.C_drewN ?_ _) | (with_reducible refine Kd.C_drew ?_))); (case side2 => exact HC1.out); (case side3 => repeat (first | exact (Kd.R_reads' HO_7.out).2.2 | (with_reducible refine Kd.C_alloc ?_ _) | (with_reducible refine Kd.C_drewN ?_ _) | (with_reducible refine Kd.C_drew ?_))); (case side4 => exact (Kd.R_reads' HO_7.out).2.1); (case side5 => repeat (first | exact (Kd.R_reads' HO_8.out).2.2 | (with_reducible refine Kd.C_alloc ?_ _) | (with_reducible refine Kd.C_drewN ?_ _) | (with_reducible refine Kd.C_drew ?_))); (case side6 => exact (Kd.R_reads' HO_8.out).2.1); rintro e w18 ⟨rfl, hb⟩; refine ⟨_, rfl, ?_⟩; have n0_ := Aside0.mk (Kd.R_below (by (with_reducible repeat (first | apply Kd.R_alloc | apply Kd.R_drewN | apply Kd.R_drew)); exact HO_7.out) hb); have n1_ := Aside0.mk (Kd.R_below (by (with_reducible repeat (first | apply Kd.R_alloc | apply Kd.R_drewN | apply Kd.R_drew)); exact HO_8.out) hb); have n2_ := Aside0.mk (Kd.R_below (by (with_reducible repeat (first | apply Kd.R_alloc | apply Kd.R_drewN | apply Kd.R_drew)); exact HO_9.out) hb); have n3_ := Aside0.mk (zbb BK280.out hb); have n4_ := Aside0.mk (below_step (zw1 HB.out GE280.out) hb); clear HO_7 HO_8 HO_9 BK280 HB; have HO_7 := n0_; have HO_8 := n1_; have HO_9 := n2_; have BK280 := n3_; have HB := n4_; clear n0_ n1_ n2_ n3_ n4_; (try clear hb); (try clear hb2); (try clear hk); (try clear hi)))
       (try simp only [Act.put, List.setIfInBounds_toArray, List.set_cons_zero, List.set_cons_succ])
       go_cut [44] (fun v44 wc => ∃ (kq : Nat) (x44_13 : Bool), v44 = .bool x44_13 ∧ Aside0 (cellarref7_Types.j2 kq l1 x7_2 x8_2 x9_2 x10_2 t282 t283 x44_13 a0_0 a0_1 = some (r1, r2, r3)) ∧ Aside0 (kq ≤ k2) ∧ Aside0 (Kd.R (Kd.int .i64) 3 wc w.heap.size (fun k_ => some k_ ≠ ((.slice Ao17 x8_2.length co17) : Value).ownBlock ∧ some k_ ≠ (u9 : Value).ownBlock) (.slice Ao16 x7_2.length co16) x7_2) ∧ Aside0 (Kd.R (Kd.int .i64) 3 wc w.heap.size (fun k_ => some k_ ≠ ((.slice Ao16 x7_2.length co16) : Value).ownBlock ∧ some k_ ≠ (u9 : Value).ownBlock) (.slice Ao17 x8_2.length co17) x8_2) ∧ Aside0 (Kd.R (Kd.int .i64) 3 wc w.heap.size (fun k_ => some k_ ≠ ((.slice Ao16 x7_2.length co16) : Value).ownBlock ∧ some k_ ≠ ((.slice Ao17 x8_2.length co17) : Value).ownBlock) u9 x9_2) ∧ Aside0 (wc.heap[gb280]? = some (.cells #[.bool a0_0, .int .i64 a0_1] 29 (0, 0))) ∧ Aside0 (Below w.heap.size w wc))
       case first =>
        have H := HC14.out
        clear HC14
        by_cases c19 : t284 = true
        ·subst c19
         have H1 : (cellarref7_Types.j2 k2 l1 x7_2 x8_2 x9_2 x10_2 t282 t283 (decide (t282 > 32)) a0_0 a0_1) = some (r1, r2, r3) := by rw [if_pos rfl] at H; exact H
         clear H
         have H := H1
         clear H1
         have H' := Aside0.mk H
         clear H
         go_wp2
         go_meet
         case rel => exact ⟨_, (decide (t282 > 32)), (zr), H', ⟨by have := HJ2.out; have := HK2.out; first | omega | exact Nat.le_refl _⟩, ⟨by (with_reducible repeat (first | apply Kd.R_alloc | apply Kd.R_drewN | apply Kd.R_drew)); exact HO_7.out⟩, ⟨by (with_reducible repeat (first | apply Kd.R_alloc | apply Kd.R_drewN | apply Kd.R_drew)); exact HO_8.out⟩, ⟨by (with_reducible repeat (first | apply Kd.R_alloc | apply Kd.R_drewN | apply Kd.R_drew)); exact HO_9.out⟩, ⟨zb BK280.out⟩, ⟨zw1 HB.out GE280.out⟩⟩
        replace c19 := Bool.eq_false_iff.mpr c19
        subst c19
        have H1 : (cellarref7_Types.j2 k2 l1 x7_2 x8_2 x9_2 x10_2 t282 t283 true a0_0 a0_1) = some (r1, r2, r3) := by rw [if_neg (show ¬ (false = true) by decide)] at H; exact H
        clear H
        have H := H1
        clear H1
        have H' := Aside0.mk H
        clear H
        go_wp2
        go_meet
        case rel => exact ⟨_, (true), (zr), H', ⟨by have := HJ2.out; have := HK2.out; first | omega | exact Nat.le_refl _⟩, ⟨by (with_reducible repeat (first | apply Kd.R_alloc | apply Kd.R_drewN | apply Kd.R_drew)); exact HO_7.out⟩, ⟨by (with_reducible repeat (first | apply Kd.R_alloc | apply Kd.R_drewN | apply Kd.R_drew)); exact HO_8.out⟩, ⟨by (with_reducible repeat (first | apply Kd.R_alloc | apply Kd.R_drewN | apply Kd.R_drew)); exact HO_9.out⟩, ⟨zb BK280.out⟩, ⟨zw1 HB.out GE280.out⟩⟩
       case rest =>
        clear HC14
        try clear c1; try clear p2; try clear c3; try clear c5; try clear c6; try clear c11; try clear c12; try clear c12b0; try clear c17; try clear c19; try clear p2
        obtain ⟨kq, x44_13, rfl, HA, HJ13, HO_7, HO_8, HO_9, BK280, HB⟩ := hcut
        cases kq with
        | zero => exact absurd HA.out (by simp [cellarref7_Types.j2])
        | succ kj13 =>
         have H := HA.out
         clear HA
         simp only [cellarref7_Types.j2] at H
         by_cases c20 : x44_13 = true
         ·subst c20
          have H1 : (some (([] : List Int), ([] : List Int), false)) = some (r1, r2, r3) := by rw [if_pos rfl] at H; exact H
          clear H
          have H := H1
          clear H1
          simp only [Option.some.injEq, Prod.mk.injEq] at H
          obtain ⟨rfl, rfl, rfl⟩ := H
          go_wp2
          go_ret3
          exact ⟨_, _, ze, by first | exact Kd.R_nil _ _ _ _ _ | exact Kd.N_nil _ _ _ _ _ | exact Kd.V_nil _ _ _ _ _ | exact Kd.Q_nil _ _ _ _ _ | exact Kd.S_nil _ _ _ _ _, by first | exact Kd.R_nil _ _ _ _ _ | exact Kd.N_nil _ _ _ _ _ | exact Kd.V_nil _ _ _ _ _ | exact Kd.Q_nil _ _ _ _ _ | exact Kd.S_nil _ _ _ _ _, zw1 HB.out GE280.out⟩
         replace c20 := Bool.eq_false_iff.mpr c20
         subst c20
         have H1 : (if 0 ≤ x10_2 then (if x10_2 < (l1.length : Int) then ((cellarref7_count.f kj13 ((rd_T31 l1 x10_2).f0) ((rd_T31 l1 x10_2).f1) ((rd_T31 l1 x10_2).f2) ((rd_T31 l1 x10_2).f3) ((rd_T31 l1 x10_2).f4) x9_2).bind fun t286 => (if t286 > 64 then (some (([] : List Int), ([] : List Int), false)) else (if x7_2.length < 17592186044416 then (if x8_2.length < 17592186044416 then (if x9_2.length < 17592186044416 then (cellarref7_Types.l0 kj13 l1 (x7_2 ++ [t282]) (x8_2 ++ [t283]) (x9_2 ++ [t286]) (wrap64 (x10_2 + 1)) a0_0 a0_1) else (none)) else (none)) else (none)))) else (none)) else (none)) = some (r1, r2, r3) := by rw [if_neg (show ¬ (false = true) by decide)] at H; exact H
         clear H
         have H := H1
         clear H1
         by_cases c21 : 0 ≤ x10_2
         rotate_left
         ·rw [if_neg c21] at H
          exact absurd H (by simp)
         rw [if_pos c21] at H
         have c21b0 : decide (0 ≤ x10_2) = true := decide_eq_true c21
         clear c21
         by_cases c22 : x10_2 < (l1.length : Int)
         rotate_left
         ·rw [if_neg c22] at H
          exact absurd H (by simp)
         rw [if_pos c22] at H
         have c22b0 : decide (x10_2 < (l1.length : Int)) = true := decide_eq_true c22
         clear c22
         replace H := Option.bind_eq_some_iff.mp H
         obtain ⟨t286, A230, H⟩ := H
         replace H : (if t286 > 64 then (some (([] : List Int), ([] : List Int), false)) else (if x7_2.length < 17592186044416 then (if x8_2.length < 17592186044416 then (if x9_2.length < 17592186044416 then (cellarref7_Types.l0 kj13 l1 (x7_2 ++ [t282]) (x8_2 ++ [t283]) (x9_2 ++ [t286]) (wrap64 (x10_2 + 1)) a0_0 a0_1) else (none)) else (none)) else (none))) = some (r1, r2, r3) := H
         have A23 := Aside0.mk A230
         clear A230
         by_cases c24 : t286 > 64
         ·rw [if_pos c24] at H
          have c24b0 : decide (64 < t286) = true := decide_eq_true c24
          clear c24
          simp only [Option.some.injEq, Prod.mk.injEq] at H
          obtain ⟨rfl, rfl, rfl⟩ := H
          have p285 : 0 ≤ (x10_2 : Int) := zdec
          have q285 : x10_2 < (l1.length : Int) := zdec
          obtain ⟨ad285, A285_3, c285_3, A285_4, c285_4, e285, hx285_0, hx285_1, hx285_2, hx285_3, hx285_4, hl285_3, hi285_3, hl285_4, hi285_4⟩ := at_T31 HR1.out x10_2 p285 q285
          cases e285
          replace hx285_0 := zh HB.out hx285_0
          replace hx285_1 := zh HB.out hx285_1
          replace hx285_2 := zh HB.out hx285_2
          replace hx285_3 := zh HB.out hx285_3
          replace hx285_4 := zh HB.out hx285_4
          have HR285_3 := Aside0.mk hi285_3
          have HC285_3 := Aside0.mk hl285_3
          clear hi285_3 hl285_3
          have HR285_4 := Aside0.mk hi285_4
          have HC285_4 := Aside0.mk hl285_4
          clear hi285_4 hl285_4
          replace p285 := eq_true p285
          replace q285 := eq_true q285
          obtain ⟨Ao25, co25, eo25⟩ := Kd.R_slice HO_9.out
          subst eo25
          go_wp2_with (first | ((with_reducible refine gate_callee (f := 56) rfl ?_); refine zgo (some 50) Try.func56 #[.agg #[.int .i64 ((rd_T31 l1 x10_2).f0), .int .i64 ((rd_T31 l1 x10_2).f1), .int .i64 ((rd_T31 l1 x10_2).f2), .slice A285_3 ((rd_T31 l1 x10_2).f3).length c285_3, .slice A285_4 ((rd_T31 l1 x10_2).f4).length c285_4], .slice Ao25 x9_2.length co25] ?_; (with_reducible refine (cellarref7_count.calls kj13 ((rd_T31 l1 x10_2).f0) ((rd_T31 l1 x10_2).f1) ((rd_T31 l1 x10_2).f2) _ _ ((rd_T31 l1 x10_2).f3) _ _ ((rd_T31 l1 x10_2).f4) _ _ x9_2 t286 _ ?side1 ?side2 ?side3 ?side4 ?side5 ?side6 A23.out).mono ?_); (case side1 => repeat (first | exact (Kd.C_below HR285_3.out HB.out) | (with_reducible refine Kd.C_alloc ?_ _) | (with_reducible refine Kd.C_drewN ?_ _) | (with_reducible refine Kd.C_drew ?_))); (case side2 => exact HC285_3.out); (case side3 => repeat (first | exact (Kd.C_below HR285_4.out HB.out) | (with_reducible refine Kd.C_alloc ?_ _) | (with_reducible refine Kd.C_drewN ?_ _) | (with_reducible refine Kd.C_drew ?_))); (case side4 => exact HC285_4.out); (case side5 => repeat (first | exact (Kd.R_reads' HO_9.out).2.2 | (with_reducible refine Kd.C_alloc ?_ _) | (with_reducible refine Kd.C_drewN ?_ _) | (with_reducible refine Kd.C_drew ?_))); (case side6 => exact (Kd.R_reads' HO_9.out).2.1); rintro e w26 ⟨rfl, hb⟩; refine ⟨_, rfl, ?_⟩; have n0_ := Aside0.mk (Kd.R_below (by (with_reducible repeat (first | apply Kd.R_alloc | apply Kd.R_drewN | apply Kd.R_drew)); exact HO_7.out) hb); have n1_ := Aside0.mk (Kd.R_below (by (with_reducible repeat (first | apply Kd.R_alloc | apply Kd.R_drewN | apply Kd.R_drew)); exact HO_8.out) hb); have n2_ := Aside0.mk (Kd.R_below (by (with_reducible repeat (first | apply Kd.R_alloc | apply Kd.R_drewN | apply Kd.R_drew)); exact HO_9.out) hb); have n3_ := Aside0.mk (zbb BK280.out hb); have n4_ := Aside0.mk (below_step (zw1 HB.out GE280.out) hb); clear HO_7 HO_8 HO_9 BK280 HB; have HO_7 := n0_; have HO_8 := n1_; have HO_9 := n2_; have BK280 := n3_; have HB := n4_; clear n0_ n1_ n2_ n3_ n4_; (try clear hb); (try clear hb2); (try clear hk); (try clear hi)))
          go_ret3
          exact ⟨_, _, ze, by first | exact Kd.R_nil _ _ _ _ _ | exact Kd.N_nil _ _ _ _ _ | exact Kd.V_nil _ _ _ _ _ | exact Kd.Q_nil _ _ _ _ _ | exact Kd.S_nil _ _ _ _ _, by first | exact Kd.R_nil _ _ _ _ _ | exact Kd.N_nil _ _ _ _ _ | exact Kd.V_nil _ _ _ _ _ | exact Kd.Q_nil _ _ _ _ _ | exact Kd.S_nil _ _ _ _ _, zw1 HB.out GE280.out⟩
         rw [if_neg c24] at H
         have c24b0 : decide (64 < t286) = false := decide_eq_false c24
         clear c24
         by_cases c27 : x7_2.length < 17592186044416
         rotate_left
         ·rw [if_neg c27] at H
          exact absurd H (by simp)
         rw [if_pos c27] at H
         have LMc27 := Aside0.mk c27
         clear c27
         obtain ⟨y287, hy287⟩ : ∃ y_ : List Int, y_ = (x7_2 ++ [t282]) := ⟨_, rfl⟩
         replace H : (if x8_2.length < 17592186044416 then (if x9_2.length < 17592186044416 then (cellarref7_Types.l0 kj13 l1 y287 (x8_2 ++ [t283]) (x9_2 ++ [t286]) (wrap64 (x10_2 + 1)) a0_0 a0_1) else (none)) else (none)) = some (r1, r2, r3) := by first | (rw [hy287]; with_reducible exact H) | (have H2_ := (Option.bind_some _ _).symm.trans H; rw [hy287]; with_reducible exact H2_) | (have H2_ := (Option.bind_some _ _).symm.trans H; with_reducible exact H2_) | with_reducible exact H | (rw [hy287]; exact H) | exact H
         have Ny287 := Aside0.mk hy287
         clear hy287
         by_cases c28 : x8_2.length < 17592186044416
         rotate_left
         ·rw [if_neg c28] at H
          exact absurd H (by simp)
         rw [if_pos c28] at H
         have LMc28 := Aside0.mk c28
         clear c28
         obtain ⟨y290, hy290⟩ : ∃ y_ : List Int, y_ = (x8_2 ++ [t283]) := ⟨_, rfl⟩
         replace H : (if x9_2.length < 17592186044416 then (cellarref7_Types.l0 kj13 l1 y287 y290 (x9_2 ++ [t286]) (wrap64 (x10_2 + 1)) a0_0 a0_1) else (none)) = some (r1, r2, r3) := by first | (rw [hy290]; with_reducible exact H) | (have H2_ := (Option.bind_some _ _).symm.trans H; rw [hy290]; with_reducible exact H2_) | (have H2_ := (Option.bind_some _ _).symm.trans H; with_reducible exact H2_) | with_reducible exact H | (rw [hy290]; exact H) | exact H
         have Ny290 := Aside0.mk hy290
         clear hy290
         by_cases c29 : x9_2.length < 17592186044416
         rotate_left
         ·rw [if_neg c29] at H
          exact absurd H (by simp)
         rw [if_pos c29] at H
         have LMc29 := Aside0.mk c29
         clear c29
         obtain ⟨y293, hy293⟩ : ∃ y_ : List Int, y_ = (x9_2 ++ [t286]) := ⟨_, rfl⟩
         replace H : (cellarref7_Types.l0 kj13 l1 y287 y290 y293 (wrap64 (x10_2 + 1)) a0_0 a0_1) = some (r1, r2, r3) := by first | (rw [hy293]; with_reducible exact H) | (have H2_ := (Option.bind_some _ _).symm.trans H; rw [hy293]; with_reducible exact H2_) | (have H2_ := (Option.bind_some _ _).symm.trans H; with_reducible exact H2_) | with_reducible exact H | (rw [hy293]; exact H) | exact H
         have Ny293 := Aside0.mk hy293
         clear hy293
         have H' := Aside0.mk H
         clear H
         have p285 : 0 ≤ (x10_2 : Int) := zdec
         have q285 : x10_2 < (l1.length : Int) := zdec
         obtain ⟨ad285, A285_3, c285_3, A285_4, c285_4, e285, hx285_0, hx285_1, hx285_2, hx285_3, hx285_4, hl285_3, hi285_3, hl285_4, hi285_4⟩ := at_T31 HR1.out x10_2 p285 q285
         cases e285
         replace hx285_0 := zh HB.out hx285_0
         replace hx285_1 := zh HB.out hx285_1
         replace hx285_2 := zh HB.out hx285_2
         replace hx285_3 := zh HB.out hx285_3
         replace hx285_4 := zh HB.out hx285_4
         have HR285_3 := Aside0.mk hi285_3
         have HC285_3 := Aside0.mk hl285_3
         clear hi285_3 hl285_3
         have HR285_4 := Aside0.mk hi285_4
         have HC285_4 := Aside0.mk hl285_4
         clear hi285_4 hl285_4
         replace p285 := eq_true p285
         replace q285 := eq_true q285
         obtain ⟨Ao30, co30, eo30⟩ := Kd.R_slice HO_9.out
         subst eo30
         go_wp2_with (first | ((with_reducible refine gate_callee (f := 56) rfl ?_); refine zgo (some 50) Try.func56 #[.agg #[.int .i64 ((rd_T31 l1 x10_2).f0), .int .i64 ((rd_T31 l1 x10_2).f1), .int .i64 ((rd_T31 l1 x10_2).f2), .slice A285_3 ((rd_T31 l1 x10_2).f3).length c285_3, .slice A285_4 ((rd_T31 l1 x10_2).f4).length c285_4], .slice Ao30 x9_2.length co30] ?_; (with_reducible refine (cellarref7_count.calls kj13 ((rd_T31 l1 x10_2).f0) ((rd_T31 l1 x10_2).f1) ((rd_T31 l1 x10_2).f2) _ _ ((rd_T31 l1 x10_2).f3) _ _ ((rd_T31 l1 x10_2).f4) _ _ x9_2 t286 _ ?side1 ?side2 ?side3 ?side4 ?side5 ?side6 A23.out).mono ?_); (case side1 => repeat (first | exact (Kd.C_below HR285_3.out HB.out) | (with_reducible refine Kd.C_alloc ?_ _) | (with_reducible refine Kd.C_drewN ?_ _) | (with_reducible refine Kd.C_drew ?_))); (case side2 => exact HC285_3.out); (case side3 => repeat (first | exact (Kd.C_below HR285_4.out HB.out) | (with_reducible refine Kd.C_alloc ?_ _) | (with_reducible refine Kd.C_drewN ?_ _) | (with_reducible refine Kd.C_drew ?_))); (case side4 => exact HC285_4.out); (case side5 => repeat (first | exact (Kd.R_reads' HO_9.out).2.2 | (with_reducible refine Kd.C_alloc ?_ _) | (with_reducible refine Kd.C_drewN ?_ _) | (with_reducible refine Kd.C_drew ?_))); (case side6 => exact (Kd.R_reads' HO_9.out).2.1); rintro e w31 ⟨rfl, hb⟩; refine ⟨_, rfl, ?_⟩; have n0_ := Aside0.mk (Kd.R_below (by (with_reducible repeat (first | apply Kd.R_alloc | apply Kd.R_drewN | apply Kd.R_drew)); exact HO_7.out) hb); have n1_ := Aside0.mk (Kd.R_below (by (with_reducible repeat (first | apply Kd.R_alloc | apply Kd.R_drewN | apply Kd.R_drew)); exact HO_8.out) hb); have n2_ := Aside0.mk (Kd.R_below (by (with_reducible repeat (first | apply Kd.R_alloc | apply Kd.R_drewN | apply Kd.R_drew)); exact HO_9.out) hb); have n3_ := Aside0.mk (zbb BK280.out hb); have n4_ := Aside0.mk (below_step (zw1 HB.out GE280.out) hb); clear HO_7 HO_8 HO_9 BK280 HB; have HO_7 := n0_; have HO_8 := n1_; have HO_9 := n2_; have BK280 := n3_; have HB := n4_; clear n0_ n1_ n2_ n3_ n4_; (try clear hb); (try clear hb2); (try clear hk); (try clear hi)) | ((with_reducible refine gate_builtin (b := .append) (xs := #[.tmp 53, .tmp 55]) rfl ?_); (try (refine gate_guard (by rfl) ?_; dsimp only)); at_builtin; refine Kd.R_append (Kd.int .i64) (w0 := w) w.heap.size rfl (.tmp 53) (.tmp 55) 25 3 (.int .i64 0) 8 rfl Try.underlying25 info3 rfl (by decide) (by omega) (.slice Ao16 x7_2.length co16) x7_2 t282 [.int .i64 t282] (fun k_ => some k_ ≠ (.slice Ao17 x8_2.length co17 : Value).ownBlock ∧ some k_ ≠ (.slice Ao30 x9_2.length co30 : Value).ownBlock) (fun _ => False) rfl rfl ?aP (fun _ hk => hk.elim) ?aF ?aO ?aB ?aS ?aL ?_; (case aP => exact rfl); (case aB => exact (zw1 HB.out GE280.out)); (case aF => exact (fun k_ hk => ⟨Kd.fresh' (Kd.R_lt (by (with_reducible repeat (first | apply Kd.R_alloc | apply Kd.R_drewN | apply Kd.R_drew)); exact HO_8.out)) k_ hk, Kd.fresh' (Kd.R_lt (by (with_reducible repeat (first | apply Kd.R_alloc | apply Kd.R_drewN | apply Kd.R_drew)); exact HO_9.out)) k_ hk⟩)); (case aO => exact (by (with_reducible repeat (first | apply Kd.R_alloc | apply Kd.R_drewN | apply Kd.R_drew)); exact HO_7.out)); (case aS => exact (below_size (zw1 HB.out GE280.out))); (case aL => have := LMc27.out; omega); intro v288 w32 ho hb hg hat; rw [← Ny287.out] at ho; have n0_ := Aside0.mk (Kd.R_after (ok := (fun k_ => some k_ ≠ (.slice Ao30 x9_2.length co30 : Value).ownBlock)) (by (with_reducible repeat (first | apply Kd.R_alloc | apply Kd.R_drewN | apply Kd.R_drew)); exact Kd.R_mono HO_8.out (fun _ hk => ⟨hk.2, hk.1⟩)) hg hat); have n1_ := Aside0.mk (Kd.R_after (ok := (fun k_ => some k_ ≠ (.slice Ao17 x8_2.length co17 : Value).ownBlock)) (by (with_reducible repeat (first | apply Kd.R_alloc | apply Kd.R_drewN | apply Kd.R_drew)); exact Kd.R_mono HO_9.out (fun _ hk => ⟨hk.2, hk.1⟩)) hg hat); have n2_ := Aside0.mk (blk_grown (g := gb280) (o := .cells #[.bool a0_0, .int .i64 a0_1] 29 (0, 0)) (zb BK280.out) hg (Kd.R_ne HO_7.out BK280.out (by decide))); have n3_ := Aside0.mk (hb); have HO289 := Aside0.mk (ho); clear HO_8 HO_9 BK280 HB HO_7; have HO_8 := n0_; have HO_9 := n1_; have BK280 := n2_; have HB := n3_; clear n0_ n1_ n2_ n3_; clear ho hb hg hat) | ((with_reducible refine gate_builtin (b := .append) (xs := #[.tmp 57, .tmp 59]) rfl ?_); (try (refine gate_guard (by rfl) ?_; dsimp only)); at_builtin; refine Kd.R_append (Kd.int .i64) (w0 := w) w.heap.size rfl (.tmp 57) (.tmp 59) 25 3 (.int .i64 0) 8 rfl Try.underlying25 info3 rfl (by decide) (by omega) (.slice Ao17 x8_2.length co17) x8_2 t283 [.int .i64 t283] (fun k_ => some k_ ≠ (.slice Ao30 x9_2.length co30 : Value).ownBlock ∧ some k_ ≠ (v288 : Value).ownBlock) (fun _ => False) rfl rfl ?aP (fun _ hk => hk.elim) ?aF ?aO ?aB ?aS ?aL ?_; (case aP => exact rfl); (case aB => exact (zw1 HB.out GE280.out)); (case aF => exact (fun k_ hk => ⟨Kd.fresh' (Kd.R_lt (by (with_reducible repeat (first | apply Kd.R_alloc | apply Kd.R_drewN | apply Kd.R_drew)); exact HO_9.out)) k_ hk, Kd.fresh' (Kd.R_lt (by (with_reducible repeat (first | apply Kd.R_alloc | apply Kd.R_drewN | apply Kd.R_drew)); exact HO289.out)) k_ hk⟩)); (case aO => exact (by (with_reducible repeat (first | apply Kd.R_alloc | apply Kd.R_drewN | apply Kd.R_drew)); exact HO_8.out)); (case aS => exact (below_size (zw1 HB.out GE280.out))); (case aL => have := LMc28.out; omega); intro v291 w33 ho hb hg hat; rw [← Ny290.out] at ho; have n0_ := Aside0.mk (Kd.R_after (ok := (fun k_ => some k_ ≠ (v288 : Value).ownBlock)) (by (with_reducible repeat (first | apply Kd.R_alloc | apply Kd.R_drewN | apply Kd.R_drew)); exact Kd.R_mono HO_9.out (fun _ hk => ⟨hk.2, hk.1⟩)) hg hat); have n1_ := Aside0.mk (blk_grown (g := gb280) (o := .cells #[.bool a0_0, .int .i64 a0_1] 29 (0, 0)) (zb BK280.out) hg (Kd.R_ne HO_8.out BK280.out (by decide))); have n2_ := Aside0.mk (Kd.R_after (ok := (fun k_ => some k_ ≠ (.slice Ao30 x9_2.length co30 : Value).ownBlock)) (by (with_reducible repeat (first | apply Kd.R_alloc | apply Kd.R_drewN | apply Kd.R_drew)); exact Kd.R_mono HO289.out (fun _ hk => ⟨hk.2, hk.1⟩)) hg hat); have n3_ := Aside0.mk (hb); have HO292 := Aside0.mk (ho); clear HO_9 BK280 HO289 HB HO_8; have HO_9 := n0_; have BK280 := n1_; have HO289 := n2_; have HB := n3_; clear n0_ n1_ n2_ n3_; clear ho hb hg hat) | ((with_reducible refine gate_builtin (b := .append) (xs := #[.tmp 61, .tmp 63]) rfl ?_); (try (refine gate_guard (by rfl) ?_; dsimp only)); at_builtin; refine Kd.R_append (Kd.int .i64) (w0 := w) w.heap.size rfl (.tmp 61) (.tmp 63) 25 3 (.int .i64 0) 8 rfl Try.underlying25 info3 rfl (by decide) (by omega) (.slice Ao30 x9_2.length co30) x9_2 t286 [.int .i64 t286] (fun k_ => some k_ ≠ (v288 : Value).ownBlock ∧ some k_ ≠ (v291 : Value).ownBlock) (fun _ => False) rfl rfl ?aP (fun _ hk => hk.elim) ?aF ?aO ?aB ?aS ?aL ?_; (case aP => exact rfl); (case aB => exact (zw1 HB.out GE280.out)); (case aF => exact (fun k_ hk => ⟨Kd.fresh' (Kd.R_lt (by (with_reducible repeat (first | apply Kd.R_alloc | apply Kd.R_drewN | apply Kd.R_drew)); exact HO289.out)) k_ hk, Kd.fresh' (Kd.R_lt (by (with_reducible repeat (first | apply Kd.R_alloc | apply Kd.R_drewN | apply Kd.R_drew)); exact HO292.out)) k_ hk⟩)); (case aO => exact (by (with_reducible repeat (first | apply Kd.R_alloc | apply Kd.R_drewN | apply Kd.R_drew)); exact HO_9.out)); (case aS => exact (below_size (zw1 HB.out GE280.out))); (case aL => have := LMc29.out; omega); intro v294 w34 ho hb hg hat; rw [← Ny293.out] at ho; have n0_ := Aside0.mk (blk_grown (g := gb280) (o := .cells #[.bool a0_0, .int .i64 a0_1] 29 (0, 0)) (zb BK280.out) hg (Kd.R_ne HO_9.out BK280.out (by decide))); have n1_ := Aside0.mk (Kd.R_after (ok := (fun k_ => some k_ ≠ (v291 : Value).ownBlock)) (by (with_reducible repeat (first | apply Kd.R_alloc | apply Kd.R_drewN | apply Kd.R_drew)); exact Kd.R_mono HO289.out (fun _ hk => ⟨hk.2, hk.1⟩)) hg hat); have n2_ := Aside0.mk (Kd.R_after (ok := (fun k_ => some k_ ≠ (v288 : Value).ownBlock)) (by (with_reducible repeat (first | apply Kd.R_alloc | apply Kd.R_drewN | apply Kd.R_drew)); exact Kd.R_mono HO292.out (fun _ hk => ⟨hk.2, hk.1⟩)) hg hat); have n3_ := Aside0.mk (hb); have HO295 := Aside0.mk (ho); clear BK280 HO289 HO292 HB HO_9; have BK280 := n0_; have HO289 := n1_; have HO292 := n2_; have HB := n3_; clear n0_ n1_ n2_ n3_; clear ho hb hg hat))
         go_roundg kj13
         case measure => have := HJ2.out; have := HK2.out; have := HJ13.out; omega
         case rel => exact ⟨(y287), (y290), (y293), (wrap64 (x10_2 + 1)), (zr), H', ⟨by have := HJ2.out; have := HK2.out; have := HJ13.out; omega⟩, ⟨by (with_reducible repeat (first | apply Kd.R_alloc | apply Kd.R_drewN | apply Kd.R_drew)); exact HO289.out⟩, ⟨by (with_reducible repeat (first | apply Kd.R_alloc | apply Kd.R_drewN | apply Kd.R_drew)); exact HO292.out⟩, ⟨by (with_reducible repeat (first | apply Kd.R_alloc | apply Kd.R_drewN | apply Kd.R_drew)); exact HO295.out⟩, ⟨zb BK280.out⟩, ⟨zw1 HB.out GE280.out⟩⟩
      ·rw [if_neg c12] at H
       have c12b0 : decide (x10_2 < (l1.length : Int)) = false := decide_eq_false c12
       clear c12
       simp only [Option.some.injEq, Prod.mk.injEq] at H
       obtain ⟨rfl, rfl, rfl⟩ := H
       go_wp2
       go_ret3
       exact ⟨_, _, ze, by (with_reducible repeat (first | apply Kd.R_alloc | apply Kd.R_drewN | apply Kd.R_drew)); exact Kd.R_mono HO_7.out (fun _ hk => hk.1), by (with_reducible repeat (first | apply Kd.R_alloc | apply Kd.R_drewN | apply Kd.R_drew)); exact Kd.R_mono HO_8.out (fun _ hk => hk.1), zw1 HB.out GE280.out⟩

/-! lay_Align -/
def lay_Align.f (k : Nat) (a0_0 : Bool) (a0_1 : Int) (l1 : List (S31)) (a2 : Int) : Option (Int × Int) := (lay_asked.f k a0_0 a0_1 l1 a2).bind fun bt297 => (if bt297.2 = 0 then (if 0 ≤ a2 then (if a2 < (bt297.1.length : Int) then (some ((rd_T103 bt297.1 a2).f1, 0)) else (none)) else (none)) else (some (0, bt297.2)))
theorem lay_Align.mono : ∀ a0 a1 a2 a3 k, LeO (lay_Align.f k a0 a1 a2 a3) (lay_Align.f (k + 1) a0 a1 a2 a3) := by
 intro a0 a1 a2 a3 k
 unfold lay_Align.f
 repeat' first
   | (with_reducible apply lay_asked.mono)
   | (with_reducible apply LeO.refl)
   | (with_reducible apply LeO.none)
   | (with_reducible refine LeO.ite ?_ ?_)
   | (with_reducible refine LeO.bind ?_ (fun _ => ?_))
set_option maxHeartbeats 8000000 in
set_option maxRecDepth 100000 in
theorem lay_Align.calls (k : Nat) (a0_0 : Bool) (a0_1 : Int) (A1 : Option Addr) (c1 : Nat) (l1 : List (S31)) (a2 : Int) (r1 : Int) (r2 : Int) (w : World) (hr1 : Kd.C k31 w A1 l1.length l1) (hc1 : l1.length ≤ c1) (h : lay_Align.f k a0_0 a0_1 l1 a2 = some (r1, r2)) :
  Calls Try.prog 20 #[.agg #[.bool a0_0, .int .i64 a0_1], .slice A1 l1.length c1, .int .i64 a2] w fun e w' => e = .returned (.tuple #[.int .i64 r1, .int .i64 r2]) ∧ Below w.heap.size w w' := by
 have hu29 := Try.underlying29
 have HR1 := Aside0.mk hr1
 have HC1 := Aside0.mk hc1
 clear hr1 hc1
 have HB := Aside0.mk (Below.refl w.heap.size w)
 have H : ((lay_asked.f k a0_0 a0_1 l1 a2).bind fun bt297 => (if bt297.2 = 0 then (if 0 ≤ a2 then (if a2 < (bt297.1.length : Int) then (some ((rd_T103 bt297.1 a2).f1, 0)) else (none)) else (none)) else (some (0, bt297.2)))) = some (r1, r2) := h
 clear h
 replace H := Option.bind_eq_some_iff.mp H
 obtain ⟨⟨t297, t300⟩, A40, H⟩ := H
 replace H : (if t300 = 0 then (if 0 ≤ a2 then (if a2 < (t297.length : Int) then (some ((rd_T103 t297 a2).f1, 0)) else (none)) else (none)) else (some (0, t300))) = some (r1, r2) := H
 have A4 := Aside0.mk A40
 clear A40
 by_cases c5 : t300 = 0
 ·rw [if_pos c5] at H
  have c5b0 : (t300 == 0) = true := beq_iff_eq.mpr c5
  have c5b1 : (t300 != 0) = false := bne_eq_false_iff_eq.mpr c5
  clear c5
  by_cases c6 : 0 ≤ a2
  rotate_left
  ·rw [if_neg c6] at H
   exact absurd H (by simp)
  rw [if_pos c6] at H
  have c6b0 : decide (0 ≤ a2) = true := decide_eq_true c6
  clear c6
  by_cases c7 : a2 < (t297.length : Int)
  rotate_left
  ·rw [if_neg c7] at H
   exact absurd H (by simp)
  rw [if_pos c7] at H
  have c7b0 : decide (a2 < (t297.length : Int)) = true := decide_eq_true c7
  clear c7
  simp only [Option.some.injEq, Prod.mk.injEq] at H
  obtain ⟨rfl, rfl⟩ := H
  go_enter Try.func20, Try.ntmps20
  go_wp2_with (first | ((with_reducible refine gate_dst (N := 3) rfl ?_); refine zbox (N := 3) (cs := #[.bool a0_0, .int .i64 a0_1]) (t := 29) ?_; intro gb296 hg w8 hbox hb; have n0_ := Aside0.mk (below_step (zw0 HB.out) hb); have BK296 := Aside0.mk (hbox); have GW296 := Aside0.mk (zg hg (below_size (zw0 HB.out))); have GE296 := GW296; clear HB; have HB := n0_; clear n0_; clear hb hbox hg; have hcz9_0 := zc BK296.out 0; have hcz9_1 := zc BK296.out 1; have hfz9_0 := blk_frozen BK296.out 0; have hfz9_1 := blk_frozen BK296.out 1) | ((with_reducible refine gate_callee (f := 57) rfl ?_); refine zgo (some 14) Try.func57 #[.agg #[.bool a0_0, .int .i64 a0_1], .slice A1 l1.length c1, .int .i64 a2] ?_; (with_reducible refine (lay_asked.calls k a0_0 a0_1 _ _ l1 a2 t297 t300 _ ?side1 ?side2 A4.out).mono ?_); (case side1 => repeat (first | exact (Kd.C_below HR1.out HB.out) | (with_reducible refine Kd.C_alloc ?_ _) | (with_reducible refine Kd.C_drewN ?_ _) | (with_reducible refine Kd.C_drew ?_))); (case side2 => exact HC1.out); rintro e w10 ⟨v298, rfl, ho0, hb⟩; refine ⟨_, rfl, ?_⟩; have HO299 := Aside0.mk (Kd.R_lower ho0 (below_size (zw1 HB.out GE296.out))); have n1_ := Aside0.mk (zbb BK296.out hb); have n2_ := Aside0.mk (below_step (zw1 HB.out GE296.out) hb); clear BK296 HB; have BK296 := n1_; have HB := n2_; clear n1_ n2_; (try clear hb); (try clear hb2); (try clear hk); (try clear hi); (try clear ho0); obtain ⟨Ao11, co11, eo11⟩ := Kd.R_slice HO299.out; subst eo11; have p301 : 0 ≤ (a2 : Int) := zdec; have q301 : a2 < (t297.length : Int) := zdec; obtain ⟨ad301, e301, hx301_0, hx301_1, hx301_2⟩ := at_T103 (Kd.R_reads' HO299.out).2.2 a2 p301 q301; cases e301; replace p301 := eq_true p301; replace q301 := eq_true q301))
  go_ret2
  exact ⟨ze, zw1 HB.out GE296.out⟩
 ·rw [if_neg c5] at H
  have c5b0 : (t300 == 0) = false := beq_eq_false_iff_ne.mpr c5
  have c5b1 : (t300 != 0) = true := bne_iff_ne.mpr c5
  simp only [Option.some.injEq, Prod.mk.injEq] at H
  obtain ⟨rfl, rfl⟩ := H
  go_enter Try.func20, Try.ntmps20
  go_wp2_with (first | ((with_reducible refine gate_dst (N := 3) rfl ?_); refine zbox (N := 3) (cs := #[.bool a0_0, .int .i64 a0_1]) (t := 29) ?_; intro gb296 hg w12 hbox hb; have n0_ := Aside0.mk (below_step (zw0 HB.out) hb); have BK296 := Aside0.mk (hbox); have GW296 := Aside0.mk (zg hg (below_size (zw0 HB.out))); have GE296 := GW296; clear HB; have HB := n0_; clear n0_; clear hb hbox hg; have hcz13_0 := zc BK296.out 0; have hcz13_1 := zc BK296.out 1; have hfz13_0 := blk_frozen BK296.out 0; have hfz13_1 := blk_frozen BK296.out 1) | ((with_reducible refine gate_callee (f := 57) rfl ?_); refine zgo (some 14) Try.func57 #[.agg #[.bool a0_0, .int .i64 a0_1], .slice A1 l1.length c1, .int .i64 a2] ?_; (with_reducible refine (lay_asked.calls k a0_0 a0_1 _ _ l1 a2 t297 t300 _ ?side1 ?side2 A4.out).mono ?_); (case side1 => repeat (first | exact (Kd.C_below HR1.out HB.out) | (with_reducible refine Kd.C_alloc ?_ _) | (with_reducible refine Kd.C_drewN ?_ _) | (with_reducible refine Kd.C_drew ?_))); (case side2 => exact HC1.out); rintro e w14 ⟨v298, rfl, ho0, hb⟩; refine ⟨_, rfl, ?_⟩; have HO299 := Aside0.mk (Kd.R_lower ho0 (below_size (zw1 HB.out GE296.out))); have n1_ := Aside0.mk (zbb BK296.out hb); have n2_ := Aside0.mk (below_step (zw1 HB.out GE296.out) hb); clear BK296 HB; have BK296 := n1_; have HB := n2_; clear n1_ n2_; (try clear hb); (try clear hb2); (try clear hk); (try clear hi); (try clear ho0)))
  go_ret2
  exact ⟨ze, zw1 HB.out GE296.out⟩

end Go.Proofs.Ytjoplkillkhiaaa.L
