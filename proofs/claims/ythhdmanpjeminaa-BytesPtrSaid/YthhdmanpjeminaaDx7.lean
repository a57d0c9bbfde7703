-- Written by this session's own edition of the print.
import Derived.Test.YthhdmanpjeminaaDx0
import Derived.Test.YthhdmanpjeminaaDx5
import Derived.Test.YthhdmanpjeminaaDx6
namespace Go.Proofs.Ythhdmanpjeminaa.D
open Go.RowKit Go.Proofs.Ythhdmanpjeminaa.Fn Go.Proofs.YthhdmanpjeminaaW.PrintWords Go.Proofs.YthhdmanpjeminaaW.PrintLast Go.Proofs.YthhdmanpjeminaaW.PrintMore
attribute [local go_sem] max2_int min2_int max_two min_two max_three min_three max_four min_four   -- for this text's walks alone
set_option linter.unusedVariables false
set_option linter.unusedSimpArgs false

/-! ### cellarref7_Get: function 22 -/
mutual
def cellarref7_Get.l0 : Nat → Int → List (S51) → Int → Int → Bool → Int → Option (Bool × Int × Int × Int × Int)
 | 0, _, _, _, _, _, _ => none
 | k + 1, x1, x2, x8, x9, x169000, x169001 => if x9 < (x2.length : Int) then (if 0 ≤ x9 then (if ((rd_T51 x2 x9).f0) = 0 then (some (false, 0, 0, 0, 7)) else (if ((rd_T51 x2 x9).f0) = 2 then (cellarref7_Get.l0 k x1 x2 (wrap64 (x8 + 1)) (wrap64 (x9 + 1)) x169000 x169001) else (cellarref7_Get.l0 k x1 x2 x8 (wrap64 (x9 + 1)) x169000 x169001))) else (none)) else (if x1 = 7 then (if x8 = 0 then (cellarref7_Get.l1 k x2 0) else (if 0 < (x2.length : Int) then (if ((rd_T51 x2 0).f0) = 2 then ((cellarref7_Put.f k x169000 x169001 x1 true 0 ((rd_T51 x2 0).f2) ((rd_T51 x2 0).f3)).bind fun t177 => ((cellarref0_EqBytes.f k t177 x2).bind fun t180 => (if t180 = true then (some (true, 0, (rd_T51 x2 0).f2, (rd_T51 x2 0).f3, 0)) else (some (false, 0, 0, 0, 8))))) else (some (false, 0, 0, 0, 8))) else (none))) else (if x8 > 0 then (some (false, 0, 0, 0, 8)) else (cellarref7_Get.l2 k x2 0 0 x169000 x169001)))
def cellarref7_Get.l1 : Nat → List (S51) → Int → Option (Bool × Int × Int × Int × Int)
 | 0, _, _ => none
 | k + 1, x2, x10 => if x10 < (x2.length : Int) then (if 0 ≤ x10 then (if ((rd_T51 x2 x10).f1) = 0 then (cellarref7_Get.l1 k x2 (wrap64 (x10 + 1))) else (some (false, 0, 0, 0, 8))) else (none)) else (some (true, 0, 0, 0, 0))
def cellarref7_Get.l2 : Nat → List (S51) → Int → Int → Bool → Int → Option (Bool × Int × Int × Int × Int)
 | 0, _, _, _, _, _ => none
 | k + 1, x2, x12, x13, x169000, x169001 => if x13 < (x2.length : Int) then (if x169000 = true then (if 0 ≤ x13 then (cellarref7_Get.l2 k x2 (Go.bits .or .i64 (wrap64 (x12 * 256)) ((rd_T51 x2 x13).f1)) (wrap64 (x13 + 1)) x169000 x169001) else (none)) else (if 0 ≤ (wrap64 ((wrap64 ((x2.length : Int) - 1)) - x13)) then (if (wrap64 ((wrap64 ((x2.length : Int) - 1)) - x13)) < (x2.length : Int) then (cellarref7_Get.l2 k x2 (Go.bits .or .i64 (wrap64 (x12 * 256)) ((rd_T51 x2 (wrap64 ((wrap64 ((x2.length : Int) - 1)) - x13))).f1)) (wrap64 (x13 + 1)) x169000 x169001) else (none)) else (none))) else (some (false, x12, 0, 0, 0))
end
def cellarref7_Get.f (k : Nat) (a0_0 : Bool) (a0_1 : Int) (a1 : Int) (l2 : List (S51)) : Option (Bool × Int × Int × Int × Int) := cellarref7_Get.l0 k a1 l2 0 0 a0_0 a0_1
theorem cellarref7_Get.mono_l : ∀ k, (∀ y0 y1 y2 y3 y4 y5, LeO (cellarref7_Get.l0 k y0 y1 y2 y3 y4 y5) (cellarref7_Get.l0 (k + 1) y0 y1 y2 y3 y4 y5)) ∧ (∀ y0 y1, LeO (cellarref7_Get.l1 k y0 y1) (cellarref7_Get.l1 (k + 1) y0 y1)) ∧ (∀ y0 y1 y2 y3 y4, LeO (cellarref7_Get.l2 k y0 y1 y2 y3 y4) (cellarref7_Get.l2 (k + 1) y0 y1 y2 y3 y4))
 | 0 => ⟨fun _ _ _ _ _ _ r h => by simp [cellarref7_Get.l0] at h, fun _ _ r h => by simp [cellarref7_Get.l1] at h, fun _ _ _ _ _ r h => by simp [cellarref7_Get.l2] at h⟩
 | k + 1 => by
  obtain ⟨ih0, ih1, ih2⟩ := cellarref7_Get.mono_l k
  refine ⟨?_, ?_, ?_⟩
  ·intro y0 y1 y2 y3 y4 y5
   unfold cellarref7_Get.l0
   repeat' first
   | (with_reducible exact ih0 _ _ _ _ _ _)
   | (with_reducible exact ih1 _ _)
   | (with_reducible exact ih2 _ _ _ _ _)
   | (with_reducible exact cellarref0_EqBytes.mono _ _ _)
   | (with_reducible exact cellarref7_Put.mono _ _ _ _ _ _ _ _)
   | (with_reducible exact LeO.refl _)
   | (with_reducible exact LeO.none _)
   | (with_reducible refine LeO.ite ?_ ?_)
   | (with_reducible refine LeO.bind ?_ (fun _ => ?_))
   | exact ih0 _ _ _ _ _ _
   | exact ih1 _ _
   | exact ih2 _ _ _ _ _
   | exact cellarref0_EqBytes.mono _ _ _
   | exact cellarref7_Put.mono _ _ _ _ _ _ _ _
   | exact LeO.none _
   | refine LeO.ite ?_ ?_
   | refine LeO.bind ?_ (fun _ => ?_)
  ·intro y0 y1
   unfold cellarref7_Get.l1
   repeat' first
   | (with_reducible exact ih0 _ _ _ _ _ _)
   | (with_reducible exact ih1 _ _)
   | (with_reducible exact ih2 _ _ _ _ _)
   | (with_reducible exact cellarref0_EqBytes.mono _ _ _)
   | (with_reducible exact cellarref7_Put.mono _ _ _ _ _ _ _ _)
   | (with_reducible exact LeO.refl _)
   | (with_reducible exact LeO.none _)
   | (with_reducible refine LeO.ite ?_ ?_)
   | (with_reducible refine LeO.bind ?_ (fun _ => ?_))
   | exact ih0 _ _ _ _ _ _
   | exact ih1 _ _
   | exact ih2 _ _ _ _ _
   | exact cellarref0_EqBytes.mono _ _ _
   | exact cellarref7_Put.mono _ _ _ _ _ _ _ _
   | exact LeO.none _
   | refine LeO.ite ?_ ?_
   | refine LeO.bind ?_ (fun _ => ?_)
  ·intro y0 y1 y2 y3 y4
   unfold cellarref7_Get.l2
   repeat' first
   | (with_reducible exact ih0 _ _ _ _ _ _)
   | (with_reducible exact ih1 _ _)
   | (with_reducible exact ih2 _ _ _ _ _)
   | (with_reducible exact cellarref0_EqBytes.mono _ _ _)
   | (with_reducible exact cellarref7_Put.mono _ _ _ _ _ _ _ _)
   | (with_reducible exact LeO.refl _)
   | (with_reducible exact LeO.none _)
   | (with_reducible refine LeO.ite ?_ ?_)
   | (with_reducible refine LeO.bind ?_ (fun _ => ?_))
   | exact ih0 _ _ _ _ _ _
   | exact ih1 _ _
   | exact ih2 _ _ _ _ _
   | exact cellarref0_EqBytes.mono _ _ _
   | exact cellarref7_Put.mono _ _ _ _ _ _ _ _
   | exact LeO.none _
   | refine LeO.ite ?_ ?_
   | refine LeO.bind ?_ (fun _ => ?_)
theorem cellarref7_Get.mono : ∀ a0 a1 a2 a3 k, LeO (cellarref7_Get.f k a0 a1 a2 a3) (cellarref7_Get.f (k + 1) a0 a1 a2 a3) := by
 intro a0 a1 a2 a3 k
 obtain ⟨ih0, ih1, ih2⟩ := cellarref7_Get.mono_l k
 unfold cellarref7_Get.f
 repeat' first
   | (with_reducible exact ih0 _ _ _ _ _ _)
   | (with_reducible exact ih1 _ _)
   | (with_reducible exact ih2 _ _ _ _ _)
   | (with_reducible exact cellarref0_EqBytes.mono _ _ _)
   | (with_reducible exact cellarref7_Put.mono _ _ _ _ _ _ _ _)
   | (with_reducible exact LeO.refl _)
   | (with_reducible exact LeO.none _)
   | (with_reducible refine LeO.ite ?_ ?_)
   | (with_reducible refine LeO.bind ?_ (fun _ => ?_))
   | exact ih0 _ _ _ _ _ _
   | exact ih1 _ _
   | exact ih2 _ _ _ _ _
   | exact cellarref0_EqBytes.mono _ _ _
   | exact cellarref7_Put.mono _ _ _ _ _ _ _ _
   | exact LeO.none _
   | refine LeO.ite ?_ ?_
   | refine LeO.bind ?_ (fun _ => ?_)
def cellarref7_Get.T17 : Bool × List (List Nat × List Nat) := (true, [([], []), ([0], [0]), ([1], [1]), ([2], [2]), ([], []), ([4], [4]), ([5], [5]), ([6], [6]), ([3, 7], [3, 7]), ([], []), ([9, 8, 0, 1, 2, 3, 4, 5, 6, 7, 8, 9], [8, 9])])
def cellarref7_Get.B17 : List Nat := [0, 1, 3, 7, 0, 16, 48, 112, 255, 0, 1023]
theorem cellarref7_Get.tab17 : rtab .any (opsOf Try.f22 17) = cellarref7_Get.T17 := by kernel_rfl
theorem cellarref7_Get.bits17 : waitsOk cellarref7_Get.T17.2 cellarref7_Get.B17 = true := by kernel_rfl
set_option maxHeartbeats 8000000 in
set_option maxRecDepth 100000 in
theorem cellarref7_Get.calls (k : Nat) (a0_0 : Bool) (a0_1 : Int) (a1 : Int) (A2 : Option Addr) (c2 : Nat) (l2 : List (S51)) (r1 : Bool) (r2 : Int) (r3 : Int) (r4 : Int) (r5 : Int) (w : World) (hr2 : Kd.C k51 w A2 l2.length l2) (hc2 : l2.length ≤ c2) (h : cellarref7_Get.f k a0_0 a0_1 a1 l2 = some (r1, r2, r3, r4, r5)) :
  Calls Try.prog 22 #[.agg #[.bool a0_0, .int .i64 a0_1], .int .i64 a1, .slice A2 l2.length c2] w fun e w' => e = .returned (.tuple #[.agg #[.bool r1, .int .i64 r2, .int .i64 r3, .int .i64 r4], .int .i64 r5]) ∧ Below w.heap.size w w' := by
 have hu38 := Try.underlying38
 have hu33 := Try.underlying33
 have HR2 := Aside0.mk hr2
 have HC2 := Aside0.mk hc2
 clear hr2 hc2
 have HB := Aside0.mk (Below.refl w.heap.size w)
 have H : (cellarref7_Get.l0 k a1 l2 0 0 a0_0 a0_1) = some (r1, r2, r3, r4, r5) := h
 clear h
 have H' := Aside0.mk H
 clear H
 go_enter Try.func22, Try.ntmps22
 go_wp2_with (first | ((with_reducible refine gate_dst (N := 3) rfl ?_); refine box_event ?hg (N := 3) ?hd (cs := #[.bool a0_0, .int .i64 a0_1]) (t := 38) ?hr ?_; (case hd => rfl); (case hg => rfl); (case hr => first | (go_simp; done) | (go_simp; rfl)); intro gb168 hg w4 hbox hb; have n0_ := Aside0.mk (below_step (zw0 HB.out) hb); have n1_ := Aside0.mk (hbox); have n2_ := Aside0.mk ((by rw [hg]; exact (below_size (zw0 HB.out)) : w.heap.size ≤ gb168)); have n3_ := Aside0.mk ((by rw [hg]; exact (below_size (zw0 HB.out)) : w.heap.size ≤ gb168)); clear HB; have HB := n0_; have BK168 := n1_; have GW168 := n2_; have GE168 := n3_; clear n0_ n1_ n2_ n3_; clear hb hbox hg) | ((with_reducible refine gate_dst (N := 6) rfl ?_); refine box_event ?hg (N := 6) ?hd (cs := #[.bool false, .int .i64 0, .int .i64 0, .int .i64 0]) (t := 33) ?hr ?_; (case hd => rfl); (case hg => rfl); (case hr => first | (go_simp; done) | (go_simp; rfl)); intro gb169 hg w5 hbox hb; have n0_ := Aside0.mk (blk_below (g := gb168) (o := .cells #[.bool a0_0, .int .i64 a0_1] 38 (0, 0)) (zb BK168.out) hb); have n1_ := Aside0.mk (below_step (zw1 HB.out GE168.out) hb); have n2_ := Aside0.mk (hbox); have n3_ := Aside0.mk ((by rw [hg]; exact (below_size (zw1 HB.out GE168.out)) : w.heap.size ≤ gb169)); have n4_ := Aside0.mk ((by rw [hg]; exact (below_size (zw1 HB.out GE168.out)) : w.heap.size ≤ gb169)); have n5_ := Aside0.mk ((by rw [hg]; exact Nat.ne_of_lt (blk_lt (g := gb168) (o := .cells #[.bool a0_0, .int .i64 a0_1] 38 (0, 0)) (zb BK168.out)) : gb168 ≠ gb169)); have n6_ := Aside0.mk ((by rw [hg]; exact Nat.ne_of_gt (blk_lt (g := gb168) (o := .cells #[.bool a0_0, .int .i64 a0_1] 38 (0, 0)) (zb BK168.out)) : gb169 ≠ gb168)); clear BK168; clear HB; have BK168 := n0_; have HB := n1_; have BK169 := n2_; have GW169 := n3_; have GE169 := n4_; have NB168_169 := n5_; have NB169_168 := n6_; clear n0_ n1_ n2_ n3_ n4_ n5_ n6_; clear hb hbox hg))
 go_loopg [8, 9] k (fun kq v8 v9 w' => ∃ (x8_1 : Int) (x9_1 : Int) (x170000_1 : Bool) (x170001_1 : Int) (x170002_1 : Int) (x170003_1 : Int), v8 = .int .i64 x8_1 ∧ v9 = .int .i64 x9_1 ∧ Aside0 (cellarref7_Get.l0 kq a1 l2 x8_1 x9_1 a0_0 a0_1 = some (r1, r2, r3, r4, r5)) ∧ Aside0 (kq ≤ k) ∧ Aside0 (w'.heap[gb168]? = some (.cells #[.bool a0_0, .int .i64 a0_1] 38 (0, 0))) ∧ Aside0 (w'.heap[gb169]? = some (.cells #[.bool x170000_1, .int .i64 x170001_1, .int .i64 x170002_1, .int .i64 x170003_1] 33 (0, 0))) ∧ Aside0 (Below w.heap.size w w'))
 case atStart => exact ⟨(0), (0), (false), (0), (0), (0), (by first | rfl | (simp; done) | (simp [*]; done)), (by first | rfl | (simp; done) | (simp [*]; done)), H', ⟨Nat.le_refl _⟩, ⟨zb BK168.out⟩, ⟨zb BK169.out⟩, ⟨zw2 HB.out GE168.out GE169.out⟩⟩
 case round =>
  clear H'
  try clear c2
  try clear p2
  obtain ⟨x8_1, x9_1, x170000_1, x170001_1, x170002_1, x170003_1, rfl, rfl, HA, HK1, BK168, BK169, HB⟩ := hrel
  cases gk with
  | zero => exact absurd HA.out (by simp [cellarref7_Get.l0])
  | succ k1 =>
   have H := HA.out
   clear HA
   simp only [cellarref7_Get.l0] at H
   by_cases c6 : x9_1 < (l2.length : Int)
   ·rw [if_pos c6] at H
    have c6b0 : decide (x9_1 < (l2.length : Int)) = true := decide_eq_true c6
    clear c6
    by_cases c7 : 0 ≤ x9_1
    ·rw [if_pos c7] at H
     have c7b0 : decide (0 ≤ x9_1) = true := decide_eq_true c7
     clear c7
     by_cases c8 : ((rd_T51 l2 x9_1).f0) = 0
     ·rw [if_pos c8] at H
      have c8b0 : (((rd_T51 l2 x9_1).f0) == 0) = true := beq_iff_eq.mpr c8
      have c8b1 : (((rd_T51 l2 x9_1).f0) != 0) = false := bne_eq_false_iff_eq.mpr c8
      clear c8
      simp only [Option.some.injEq, Prod.mk.injEq] at H
      obtain ⟨rfl, rfl, rfl, rfl, rfl⟩ := H
      have p170 : 0 ≤ (x9_1 : Int) := zdec
      have q170 : x9_1 < (l2.length : Int) := zdec
      obtain ⟨ad170, e170, hx170_0, hx170_1, hx170_2, hx170_3, hx170_4⟩ := at_T51 HR2.out x9_1 p170 q170
      cases e170
      replace hx170_0 := (HB.out.cell (World.block_lt_of_cell? w _ hx170_0)).trans hx170_0
      replace hx170_1 := (HB.out.cell (World.block_lt_of_cell? w _ hx170_1)).trans hx170_1
      replace hx170_2 := (HB.out.cell (World.block_lt_of_cell? w _ hx170_2)).trans hx170_2
      replace hx170_3 := (HB.out.cell (World.block_lt_of_cell? w _ hx170_3)).trans hx170_3
      replace hx170_4 := (HB.out.cell (World.block_lt_of_cell? w _ hx170_4)).trans hx170_4
      replace p170 := eq_true p170
      replace q170 := eq_true q170
      have hnb9 := NB169_168.out
      have hnc9 := NB168_169.out
      have hcz10_0 : wr.cell? ⟨gb169, 0, none⟩ = some (.bool x170000_1) := (blk_cell BK169.out 0).trans rfl
      have hcz10_1 : wr.cell? ⟨gb169, 1, none⟩ = some (.int .i64 x170001_1) := (blk_cell BK169.out 1).trans rfl
      have hcz10_2 : wr.cell? ⟨gb169, 2, none⟩ = some (.int .i64 x170002_1) := (blk_cell BK169.out 2).trans rfl
      have hcz10_3 : wr.cell? ⟨gb169, 3, none⟩ = some (.int .i64 x170003_1) := (blk_cell BK169.out 3).trans rfl
      have hfz10_0 := blk_frozen BK169.out 0
      have hfz10_1 := blk_frozen BK169.out 1
      have hfz10_2 := blk_frozen BK169.out 2
      have hfz10_3 := blk_frozen BK169.out 3
      go_wp2
      refine bodyPost_ret (results_ct rfl _ _ gb169 33 #[.bool false, .int .i64 0, .int .i64 0, .int .i64 0] (0, 0) _ rfl (by (with_reducible repeat (first | refine blk_drewN ?_ _ | refine blk_drew ?_ | refine blk_alloc ?_ _)); refine blk_put (cs := #[.bool false, .int .i64 0, .int .i64 0, .int .i64 x170003_1]) ?_ 3 _ rfl; (with_reducible repeat (first | refine blk_drewN ?_ _ | refine blk_drew ?_ | refine blk_alloc ?_ _)); refine blk_put (cs := #[.bool false, .int .i64 0, .int .i64 x170002_1, .int .i64 x170003_1]) ?_ 2 _ rfl; (with_reducible repeat (first | refine blk_drewN ?_ _ | refine blk_drew ?_ | refine blk_alloc ?_ _)); refine blk_put (cs := #[.bool false, .int .i64 x170001_1, .int .i64 x170002_1, .int .i64 x170003_1]) ?_ 1 _ rfl; (with_reducible repeat (first | refine blk_drewN ?_ _ | refine blk_drew ?_ | refine blk_alloc ?_ _)); refine blk_put (cs := #[.bool x170000_1, .int .i64 x170001_1, .int .i64 x170002_1, .int .i64 x170003_1]) ?_ 0 _ rfl; (with_reducible repeat (first | refine blk_drewN ?_ _ | refine blk_drew ?_ | refine blk_alloc ?_ _)); exact BK169.out) Try.underlying33 rfl (by kernel_rfl)) rfl ?_
      exact ⟨by first | rfl | (simp [errW_none, errW_some] <;> rfl) | (simp [*, errW_none, errW_some] <;> rfl), zw2 HB.out GE168.out GE169.out⟩
     ·rw [if_neg c8] at H
      have c8b0 : (((rd_T51 l2 x9_1).f0) == 0) = false := beq_eq_false_iff_ne.mpr c8
      have c8b1 : (((rd_T51 l2 x9_1).f0) != 0) = true := bne_iff_ne.mpr c8
      by_cases c11 : ((rd_T51 l2 x9_1).f0) = 2
      ·rw [if_pos c11] at H
       have c11b0 : (((rd_T51 l2 x9_1).f0) == 2) = true := beq_iff_eq.mpr c11
       have c11b1 : (((rd_T51 l2 x9_1).f0) != 2) = false := bne_eq_false_iff_eq.mpr c11
       clear c11
       have H' := Aside0.mk H
       clear H
       have p170 : 0 ≤ (x9_1 : Int) := zdec
       have q170 : x9_1 < (l2.length : Int) := zdec
       obtain ⟨ad170, e170, hx170_0, hx170_1, hx170_2, hx170_3, hx170_4⟩ := at_T51 HR2.out x9_1 p170 q170
       cases e170
       replace hx170_0 := (HB.out.cell (World.block_lt_of_cell? w _ hx170_0)).trans hx170_0
       replace hx170_1 := (HB.out.cell (World.block_lt_of_cell? w _ hx170_1)).trans hx170_1
       replace hx170_2 := (HB.out.cell (World.block_lt_of_cell? w _ hx170_2)).trans hx170_2
       replace hx170_3 := (HB.out.cell (World.block_lt_of_cell? w _ hx170_3)).trans hx170_3
       replace hx170_4 := (HB.out.cell (World.block_lt_of_cell? w _ hx170_4)).trans hx170_4
       replace p170 := eq_true p170
       replace q170 := eq_true q170
       have p171 : 0 ≤ (x9_1 : Int) := zdec
       have q171 : x9_1 < (l2.length : Int) := zdec
       obtain ⟨ad171, e171, hx171_0, hx171_1, hx171_2, hx171_3, hx171_4⟩ := at_T51 HR2.out x9_1 p171 q171
       obtain rfl : ad170 = ad171 := (by injection e171)
       replace hx171_0 := (HB.out.cell (World.block_lt_of_cell? w _ hx171_0)).trans hx171_0
       replace hx171_1 := (HB.out.cell (World.block_lt_of_cell? w _ hx171_1)).trans hx171_1
       replace hx171_2 := (HB.out.cell (World.block_lt_of_cell? w _ hx171_2)).trans hx171_2
       replace hx171_3 := (HB.out.cell (World.block_lt_of_cell? w _ hx171_3)).trans hx171_3
       replace hx171_4 := (HB.out.cell (World.block_lt_of_cell? w _ hx171_4)).trans hx171_4
       replace p171 := eq_true p171
       replace q171 := eq_true q171
       go_wp2
       go_roundg k1
       case measure => have := HK1.out; omega
       case rel => exact ⟨(wrap64 (x8_1 + 1)), (wrap64 (x9_1 + 1)), (x170000_1), (x170001_1), (x170002_1), (x170003_1), (by first | rfl | (simp; done) | (simp [*]; done)), (by first | rfl | (simp; done) | (simp [*]; done)), H', ⟨by have := HK1.out; omega⟩, ⟨zb BK168.out⟩, ⟨zb BK169.out⟩, ⟨zw2 HB.out GE168.out GE169.out⟩⟩
      ·rw [if_neg c11] at H
       have c11b0 : (((rd_T51 l2 x9_1).f0) == 2) = false := beq_eq_false_iff_ne.mpr c11
       have c11b1 : (((rd_T51 l2 x9_1).f0) != 2) = true := bne_iff_ne.mpr c11
       have H' := Aside0.mk H
       clear H
       have p170 : 0 ≤ (x9_1 : Int) := zdec
       have q170 : x9_1 < (l2.length : Int) := zdec
       obtain ⟨ad170, e170, hx170_0, hx170_1, hx170_2, hx170_3, hx170_4⟩ := at_T51 HR2.out x9_1 p170 q170
       cases e170
       replace hx170_0 := (HB.out.cell (World.block_lt_of_cell? w _ hx170_0)).trans hx170_0
       replace hx170_1 := (HB.out.cell (World.block_lt_of_cell? w _ hx170_1)).trans hx170_1
       replace hx170_2 := (HB.out.cell (World.block_lt_of_cell? w _ hx170_2)).trans hx170_2
       replace hx170_3 := (HB.out.cell (World.block_lt_of_cell? w _ hx170_3)).trans hx170_3
       replace hx170_4 := (HB.out.cell (World.block_lt_of_cell? w _ hx170_4)).trans hx170_4
       replace p170 := eq_true p170
       replace q170 := eq_true q170
       have p171 : 0 ≤ (x9_1 : Int) := zdec
       have q171 : x9_1 < (l2.length : Int) := zdec
       obtain ⟨ad171, e171, hx171_0, hx171_1, hx171_2, hx171_3, hx171_4⟩ := at_T51 HR2.out x9_1 p171 q171
       obtain rfl : ad170 = ad171 := (by injection e171)
       replace hx171_0 := (HB.out.cell (World.block_lt_of_cell? w _ hx171_0)).trans hx171_0
       replace hx171_1 := (HB.out.cell (World.block_lt_of_cell? w _ hx171_1)).trans hx171_1
       replace hx171_2 := (HB.out.cell (World.block_lt_of_cell? w _ hx171_2)).trans hx171_2
       replace hx171_3 := (HB.out.cell (World.block_lt_of_cell? w _ hx171_3)).trans hx171_3
       replace hx171_4 := (HB.out.cell (World.block_lt_of_cell? w _ hx171_4)).trans hx171_4
       replace p171 := eq_true p171
       replace q171 := eq_true q171
       go_wp2
       go_roundg k1
       case measure => have := HK1.out; omega
       case rel => exact ⟨(x8_1), (wrap64 (x9_1 + 1)), (x170000_1), (x170001_1), (x170002_1), (x170003_1), (by first | rfl | (simp; done) | (simp [*]; done)), (by first | rfl | (simp; done) | (simp [*]; done)), H', ⟨by have := HK1.out; omega⟩, ⟨zb BK168.out⟩, ⟨zb BK169.out⟩, ⟨zw2 HB.out GE168.out GE169.out⟩⟩
    ·rw [if_neg c7] at H
     exact absurd H (by simp)
   ·rw [if_neg c6] at H
    have c6b0 : decide (x9_1 < (l2.length : Int)) = false := decide_eq_false c6
    clear c6
    by_cases c12 : a1 = 7
    ·rw [if_pos c12] at H
     have c12b0 : (a1 == 7) = true := beq_iff_eq.mpr c12
     have c12b1 : (a1 != 7) = false := bne_eq_false_iff_eq.mpr c12
     clear c12
     by_cases c13 : x8_1 = 0
     ·rw [if_pos c13] at H
      have c13b0 : (x8_1 == 0) = true := beq_iff_eq.mpr c13
      have c13b1 : (x8_1 != 0) = false := bne_eq_false_iff_eq.mpr c13
      clear c13
      have H' := Aside0.mk H
      clear H
      go_wp2
      go_loopg [10] k1 (fun kq v10 w' => ∃ (x10_2 : Int) (x170000_2 : Bool) (x170001_2 : Int) (x170002_2 : Int) (x170003_2 : Int), v10 = .int .i64 x10_2 ∧ Aside0 (cellarref7_Get.l1 kq l2 x10_2 = some (r1, r2, r3, r4, r5)) ∧ Aside0 (kq ≤ k1) ∧ Aside0 (w'.heap[gb168]? = some (.cells #[.bool a0_0, .int .i64 a0_1] 38 (0, 0))) ∧ Aside0 (w'.heap[gb169]? = some (.cells #[.bool x170000_2, .int .i64 x170001_2, .int .i64 x170002_2, .int .i64 x170003_2] 33 (0, 0))) ∧ Aside0 (Below w.heap.size w w'))
      case atStart => exact ⟨(0), (x170000_1), (x170001_1), (x170002_1), (x170003_1), (by first | rfl | (simp; done) | (simp [*]; done)), H', ⟨Nat.le_refl _⟩, ⟨zb BK168.out⟩, ⟨zb BK169.out⟩, ⟨zw2 HB.out GE168.out GE169.out⟩⟩
      case round =>
       clear H'
       try clear c1
       try clear p1
       try clear q1
       try clear hx1
       try clear c2
       try clear p2
       try clear c6
       try clear c6b0
       try clear p6
       try clear c7
       try clear c7b0
       try clear c8
       try clear c8b0
       try clear c8b1
       try clear c9
       try clear c11
       try clear c11b0
       try clear c11b1
       try clear c12
       try clear c12b0
       try clear c12b1
       try clear c13
       try clear c13b0
       try clear c13b1
       try clear hcz10_0
       try clear hcz10_1
       try clear hcz10_2
       try clear hcz10_3
       try clear hfz10_0
       try clear hfz10_1
       try clear hfz10_2
       try clear hfz10_3
       try clear hx170_0
       try clear hx170_1
       try clear hx170_2
       try clear hx170_3
       try clear hx170_4
       try clear hx171_0
       try clear hx171_1
       try clear hx171_2
       try clear hx171_3
       try clear hx171_4
       try clear p170
       try clear p171
       try clear p2
       try clear q170
       try clear q171
       obtain ⟨x10_2, x170000_2, x170001_2, x170002_2, x170003_2, rfl, HA, HK2, BK168, BK169, HB⟩ := hrel
       cases gk with
       | zero => exact absurd HA.out (by simp [cellarref7_Get.l1])
       | succ k2 =>
        have H := HA.out
        clear HA
        simp only [cellarref7_Get.l1] at H
        by_cases c14 : x10_2 < (l2.length : Int)
        ·rw [if_pos c14] at H
         have c14b0 : decide (x10_2 < (l2.length : Int)) = true := decide_eq_true c14
         clear c14
         by_cases c15 : 0 ≤ x10_2
         ·rw [if_pos c15] at H
          have c15b0 : decide (0 ≤ x10_2) = true := decide_eq_true c15
          clear c15
          by_cases c16 : ((rd_T51 l2 x10_2).f1) = 0
          ·rw [if_pos c16] at H
           have c16b0 : (((rd_T51 l2 x10_2).f1) == 0) = true := beq_iff_eq.mpr c16
           have c16b1 : (((rd_T51 l2 x10_2).f1) != 0) = false := bne_eq_false_iff_eq.mpr c16
           clear c16
           have H' := Aside0.mk H
           clear H
           have p172 : 0 ≤ (x10_2 : Int) := zdec
           have q172 : x10_2 < (l2.length : Int) := zdec
           obtain ⟨ad172, e172, hx172_0, hx172_1, hx172_2, hx172_3, hx172_4⟩ := at_T51 HR2.out x10_2 p172 q172
           cases e172
           replace hx172_0 := (HB.out.cell (World.block_lt_of_cell? w _ hx172_0)).trans hx172_0
           replace hx172_1 := (HB.out.cell (World.block_lt_of_cell? w _ hx172_1)).trans hx172_1
           replace hx172_2 := (HB.out.cell (World.block_lt_of_cell? w _ hx172_2)).trans hx172_2
           replace hx172_3 := (HB.out.cell (World.block_lt_of_cell? w _ hx172_3)).trans hx172_3
           replace hx172_4 := (HB.out.cell (World.block_lt_of_cell? w _ hx172_4)).trans hx172_4
           replace p172 := eq_true p172
           replace q172 := eq_true q172
           go_wp2
           go_roundg k2
           case measure => have := HK1.out; have := HK2.out; omega
           case rel => exact ⟨(wrap64 (x10_2 + 1)), (x170000_2), (x170001_2), (x170002_2), (x170003_2), (by first | rfl | (simp; done) | (simp [*]; done)), H', ⟨by have := HK1.out; have := HK2.out; omega⟩, ⟨zb BK168.out⟩, ⟨zb BK169.out⟩, ⟨zw2 HB.out GE168.out GE169.out⟩⟩
          ·rw [if_neg c16] at H
           have c16b0 : (((rd_T51 l2 x10_2).f1) == 0) = false := beq_eq_false_iff_ne.mpr c16
           have c16b1 : (((rd_T51 l2 x10_2).f1) != 0) = true := bne_iff_ne.mpr c16
           simp only [Option.some.injEq, Prod.mk.injEq] at H
           obtain ⟨rfl, rfl, rfl, rfl, rfl⟩ := H
           have p172 : 0 ≤ (x10_2 : Int) := zdec
           have q172 : x10_2 < (l2.length : Int) := zdec
           obtain ⟨ad172, e172, hx172_0, hx172_1, hx172_2, hx172_3, hx172_4⟩ := at_T51 HR2.out x10_2 p172 q172
           cases e172
           replace hx172_0 := (HB.out.cell (World.block_lt_of_cell? w _ hx172_0)).trans hx172_0
           replace hx172_1 := (HB.out.cell (World.block_lt_of_cell? w _ hx172_1)).trans hx172_1
           replace hx172_2 := (HB.out.cell (World.block_lt_of_cell? w _ hx172_2)).trans hx172_2
           replace hx172_3 := (HB.out.cell (World.block_lt_of_cell? w _ hx172_3)).trans hx172_3
           replace hx172_4 := (HB.out.cell (World.block_lt_of_cell? w _ hx172_4)).trans hx172_4
           replace p172 := eq_true p172
           replace q172 := eq_true q172
           have hnb17 := NB169_168.out
           have hnc17 := NB168_169.out
           have hcz18_0 : wr.cell? ⟨gb169, 0, none⟩ = some (.bool x170000_2) := (blk_cell BK169.out 0).trans rfl
           have hcz18_1 : wr.cell? ⟨gb169, 1, none⟩ = some (.int .i64 x170001_2) := (blk_cell BK169.out 1).trans rfl
           have hcz18_2 : wr.cell? ⟨gb169, 2, none⟩ = some (.int .i64 x170002_2) := (blk_cell BK169.out 2).trans rfl
           have hcz18_3 : wr.cell? ⟨gb169, 3, none⟩ = some (.int .i64 x170003_2) := (blk_cell BK169.out 3).trans rfl
           have hfz18_0 := blk_frozen BK169.out 0
           have hfz18_1 := blk_frozen BK169.out 1
           have hfz18_2 := blk_frozen BK169.out 2
           have hfz18_3 := blk_frozen BK169.out 3
           go_wp2
           refine bodyPost_ret (results_ct rfl _ _ gb169 33 #[.bool false, .int .i64 0, .int .i64 0, .int .i64 0] (0, 0) _ rfl (by (with_reducible repeat (first | refine blk_drewN ?_ _ | refine blk_drew ?_ | refine blk_alloc ?_ _)); refine blk_put (cs := #[.bool false, .int .i64 0, .int .i64 0, .int .i64 x170003_2]) ?_ 3 _ rfl; (with_reducible repeat (first | refine blk_drewN ?_ _ | refine blk_drew ?_ | refine blk_alloc ?_ _)); refine blk_put (cs := #[.bool false, .int .i64 0, .int .i64 x170002_2, .int .i64 x170003_2]) ?_ 2 _ rfl; (with_reducible repeat (first | refine blk_drewN ?_ _ | refine blk_drew ?_ | refine blk_alloc ?_ _)); refine blk_put (cs := #[.bool false, .int .i64 x170001_2, .int .i64 x170002_2, .int .i64 x170003_2]) ?_ 1 _ rfl; (with_reducible repeat (first | refine blk_drewN ?_ _ | refine blk_drew ?_ | refine blk_alloc ?_ _)); refine blk_put (cs := #[.bool x170000_2, .int .i64 x170001_2, .int .i64 x170002_2, .int .i64 x170003_2]) ?_ 0 _ rfl; (with_reducible repeat (first | refine blk_drewN ?_ _ | refine blk_drew ?_ | refine blk_alloc ?_ _)); exact BK169.out) Try.underlying33 rfl (by kernel_rfl)) rfl ?_
           exact ⟨by first | rfl | (simp [errW_none, errW_some] <;> rfl) | (simp [*, errW_none, errW_some] <;> rfl), zw2 HB.out GE168.out GE169.out⟩
         ·rw [if_neg c15] at H
          exact absurd H (by simp)
        ·rw [if_neg c14] at H
         have c14b0 : decide (x10_2 < (l2.length : Int)) = false := decide_eq_false c14
         clear c14
         simp only [Option.some.injEq, Prod.mk.injEq] at H
         obtain ⟨rfl, rfl, rfl, rfl, rfl⟩ := H
         have hnb19 := NB169_168.out
         have hnc19 := NB168_169.out
         have hcz20_0 : wr.cell? ⟨gb169, 0, none⟩ = some (.bool x170000_2) := (blk_cell BK169.out 0).trans rfl
         have hcz20_1 : wr.cell? ⟨gb169, 1, none⟩ = some (.int .i64 x170001_2) := (blk_cell BK169.out 1).trans rfl
         have hcz20_2 : wr.cell? ⟨gb169, 2, none⟩ = some (.int .i64 x170002_2) := (blk_cell BK169.out 2).trans rfl
         have hcz20_3 : wr.cell? ⟨gb169, 3, none⟩ = some (.int .i64 x170003_2) := (blk_cell BK169.out 3).trans rfl
         have hfz20_0 := blk_frozen BK169.out 0
         have hfz20_1 := blk_frozen BK169.out 1
         have hfz20_2 := blk_frozen BK169.out 2
         have hfz20_3 := blk_frozen BK169.out 3
         go_wp2
         refine bodyPost_ret (results_ct rfl _ _ gb169 33 #[.bool true, .int .i64 0, .int .i64 0, .int .i64 0] (0, 0) _ rfl (by (with_reducible repeat (first | refine blk_drewN ?_ _ | refine blk_drew ?_ | refine blk_alloc ?_ _)); refine blk_put (cs := #[.bool true, .int .i64 0, .int .i64 0, .int .i64 x170003_2]) ?_ 3 _ rfl; (with_reducible repeat (first | refine blk_drewN ?_ _ | refine blk_drew ?_ | refine blk_alloc ?_ _)); refine blk_put (cs := #[.bool true, .int .i64 0, .int .i64 x170002_2, .int .i64 x170003_2]) ?_ 2 _ rfl; (with_reducible repeat (first | refine blk_drewN ?_ _ | refine blk_drew ?_ | refine blk_alloc ?_ _)); refine blk_put (cs := #[.bool true, .int .i64 x170001_2, .int .i64 x170002_2, .int .i64 x170003_2]) ?_ 1 _ rfl; (with_reducible repeat (first | refine blk_drewN ?_ _ | refine blk_drew ?_ | refine blk_alloc ?_ _)); refine blk_put (cs := #[.bool x170000_2, .int .i64 x170001_2, .int .i64 x170002_2, .int .i64 x170003_2]) ?_ 0 _ rfl; (with_reducible repeat (first | refine blk_drewN ?_ _ | refine blk_drew ?_ | refine blk_alloc ?_ _)); exact BK169.out) Try.underlying33 rfl (by kernel_rfl)) rfl ?_
         exact ⟨by first | rfl | (simp [errW_none, errW_some] <;> rfl) | (simp [*, errW_none, errW_some] <;> rfl), zw2 HB.out GE168.out GE169.out⟩
     ·rw [if_neg c13] at H
      have c13b0 : (x8_1 == 0) = false := beq_eq_false_iff_ne.mpr c13
      have c13b1 : (x8_1 != 0) = true := bne_iff_ne.mpr c13
      by_cases c21 : 0 < (l2.length : Int)
      ·rw [if_pos c21] at H
       have c21b0 : decide (0 < (l2.length : Int)) = true := decide_eq_true c21
       have c21b1 : decide (0 < l2.length) = true := decide_eq_true (by omega)
       clear c21
       by_cases c22 : ((rd_T51 l2 0).f0) = 2
       ·rw [if_pos c22] at H
        have c22b0 : (((rd_T51 l2 0).f0) == 2) = true := beq_iff_eq.mpr c22
        have c22b1 : (((rd_T51 l2 0).f0) != 2) = false := bne_eq_false_iff_eq.mpr c22
        clear c22
        replace H := Option.bind_eq_some_iff.mp H
        obtain ⟨t177, A230, H⟩ := H
        replace H : ((cellarref0_EqBytes.f k1 t177 l2).bind fun t180 => (if t180 = true then (some (true, 0, (rd_T51 l2 0).f2, (rd_T51 l2 0).f3, 0)) else (some (false, 0, 0, 0, 8)))) = some (r1, r2, r3, r4, r5) := H
        have A23 := Aside0.mk A230
        clear A230
        replace H := Option.bind_eq_some_iff.mp H
        obtain ⟨t180, A240, H⟩ := H
        replace H : (if t180 = true then (some (true, 0, (rd_T51 l2 0).f2, (rd_T51 l2 0).f3, 0)) else (some (false, 0, 0, 0, 8))) = some (r1, r2, r3, r4, r5) := H
        have A24 := Aside0.mk A240
        clear A240
        by_cases c25 : t180 = true
        ·subst c25
         have H1 : (some (true, 0, (rd_T51 l2 0).f2, (rd_T51 l2 0).f3, 0)) = some (r1, r2, r3, r4, r5) := by rw [if_pos rfl] at H; exact H
         clear H
         have H := H1
         clear H1
         simp only [Option.some.injEq, Prod.mk.injEq] at H
         obtain ⟨rfl, rfl, rfl, rfl, rfl⟩ := H
         try go_wp2
         have n0_ := Aside0.mk (blk_drew BK168.out)
         have n1_ := Aside0.mk (blk_drew BK169.out)
         have n2_ := Aside0.mk (below_drew1 HB.out)
         clear BK168
         clear BK169
         clear HB
         have BK168 := n0_
         have BK169 := n1_
         have HB := n2_
         clear n0_ n1_ n2_
         have p173 : 0 ≤ (0 : Int) := (by omega)
         have q173 : 0 < (l2.length : Int) := zdec
         obtain ⟨ad173, e173, hx173_0, hx173_1, hx173_2, hx173_3, hx173_4⟩ := at_T51 HR2.out 0 p173 q173
         have hw173_4 := hx173_4
         (try rw [show ((0 : Int)).toNat = 0 from rfl] at hw173_4)
         (try rw [show 0 * 5 = 0 from rfl] at hw173_4)
         (try rw [Addr.add_zero'] at hw173_4)
         have hw173_3 := hx173_3
         (try rw [show ((0 : Int)).toNat = 0 from rfl] at hw173_3)
         (try rw [show 0 * 5 = 0 from rfl] at hw173_3)
         (try rw [Addr.add_zero'] at hw173_3)
         have hw173_2 := hx173_2
         (try rw [show ((0 : Int)).toNat = 0 from rfl] at hw173_2)
         (try rw [show 0 * 5 = 0 from rfl] at hw173_2)
         (try rw [Addr.add_zero'] at hw173_2)
         have hw173_1 := hx173_1
         (try rw [show ((0 : Int)).toNat = 0 from rfl] at hw173_1)
         (try rw [show 0 * 5 = 0 from rfl] at hw173_1)
         (try rw [Addr.add_zero'] at hw173_1)
         have hw173_0 := hx173_0
         (try rw [show ((0 : Int)).toNat = 0 from rfl] at hw173_0)
         (try rw [show 0 * 5 = 0 from rfl] at hw173_0)
         (try rw [Addr.add_zero'] at hw173_0)
         cases e173
         have qi173 : (0 < l2.length) = True := eq_true (by omega)
         (try rw [show ((0 : Int)).toNat = 0 from rfl] at hx173_0)
         (try rw [show 0 * 5 = 0 from rfl] at hx173_0)
         (try rw [Addr.add_zero'] at hx173_0)
         (try rw [show ((0 : Int)).toNat = 0 from rfl] at hx173_1)
         (try rw [show 0 * 5 = 0 from rfl] at hx173_1)
         (try rw [Addr.add_zero'] at hx173_1)
         (try rw [show ((0 : Int)).toNat = 0 from rfl] at hx173_2)
         (try rw [show 0 * 5 = 0 from rfl] at hx173_2)
         (try rw [Addr.add_zero'] at hx173_2)
         (try rw [show ((0 : Int)).toNat = 0 from rfl] at hx173_3)
         (try rw [show 0 * 5 = 0 from rfl] at hx173_3)
         (try rw [Addr.add_zero'] at hx173_3)
         (try rw [show ((0 : Int)).toNat = 0 from rfl] at hx173_4)
         (try rw [show 0 * 5 = 0 from rfl] at hx173_4)
         (try rw [Addr.add_zero'] at hx173_4)
         replace hx173_0 := (HB.out.cell (World.block_lt_of_cell? w _ hx173_0)).trans hx173_0
         replace hx173_1 := (HB.out.cell (World.block_lt_of_cell? w _ hx173_1)).trans hx173_1
         replace hx173_2 := (HB.out.cell (World.block_lt_of_cell? w _ hx173_2)).trans hx173_2
         replace hx173_3 := (HB.out.cell (World.block_lt_of_cell? w _ hx173_3)).trans hx173_3
         replace hx173_4 := (HB.out.cell (World.block_lt_of_cell? w _ hx173_4)).trans hx173_4
         replace p173 := eq_true p173
         replace q173 := eq_true q173
         have p174 : 0 ≤ (0 : Int) := (by omega)
         have q174 : 0 < (l2.length : Int) := zdec
         obtain ⟨ad174, e174, hx174_0, hx174_1, hx174_2, hx174_3, hx174_4⟩ := at_T51 HR2.out 0 p174 q174
         have hw174_4 := hx174_4
         (try rw [show ((0 : Int)).toNat = 0 from rfl] at hw174_4)
         (try rw [show 0 * 5 = 0 from rfl] at hw174_4)
         (try rw [Addr.add_zero'] at hw174_4)
         have hw174_3 := hx174_3
         (try rw [show ((0 : Int)).toNat = 0 from rfl] at hw174_3)
         (try rw [show 0 * 5 = 0 from rfl] at hw174_3)
         (try rw [Addr.add_zero'] at hw174_3)
         have hw174_2 := hx174_2
         (try rw [show ((0 : Int)).toNat = 0 from rfl] at hw174_2)
         (try rw [show 0 * 5 = 0 from rfl] at hw174_2)
         (try rw [Addr.add_zero'] at hw174_2)
         have hw174_1 := hx174_1
         (try rw [show ((0 : Int)).toNat = 0 from rfl] at hw174_1)
         (try rw [show 0 * 5 = 0 from rfl] at hw174_1)
         (try rw [Addr.add_zero'] at hw174_1)
         have hw174_0 := hx174_0
         (try rw [show ((0 : Int)).toNat = 0 from rfl] at hw174_0)
         (try rw [show 0 * 5 = 0 from rfl] at hw174_0)
         (try rw [Addr.add_zero'] at hw174_0)
         obtain rfl : ad173 = ad174 := (by injection e174)
         have qi174 : (0 < l2.length) = True := eq_true (by omega)
         (try rw [show ((0 : Int)).toNat = 0 from rfl] at hx174_0)
         (try rw [show 0 * 5 = 0 from rfl] at hx174_0)
         (try rw [Addr.add_zero'] at hx174_0)
         (try rw [show ((0 : Int)).toNat = 0 from rfl] at hx174_1)
         (try rw [show 0 * 5 = 0 from rfl] at hx174_1)
         (try rw [Addr.add_zero'] at hx174_1)
         (try rw [show ((0 : Int)).toNat = 0 from rfl] at hx174_2)
         (try rw [show 0 * 5 = 0 from rfl] at hx174_2)
         (try rw [Addr.add_zero'] at hx174_2)
         (try rw [show ((0 : Int)).toNat = 0 from rfl] at hx174_3)
         (try rw [show 0 * 5 = 0 from rfl] at hx174_3)
         (try rw [Addr.add_zero'] at hx174_3)
         (try rw [show ((0 : Int)).toNat = 0 from rfl] at hx174_4)
         (try rw [show 0 * 5 = 0 from rfl] at hx174_4)
         (try rw [Addr.add_zero'] at hx174_4)
         replace hx174_0 := (HB.out.cell (World.block_lt_of_cell? w _ hx174_0)).trans hx174_0
         replace hx174_1 := (HB.out.cell (World.block_lt_of_cell? w _ hx174_1)).trans hx174_1
         replace hx174_2 := (HB.out.cell (World.block_lt_of_cell? w _ hx174_2)).trans hx174_2
         replace hx174_3 := (HB.out.cell (World.block_lt_of_cell? w _ hx174_3)).trans hx174_3
         replace hx174_4 := (HB.out.cell (World.block_lt_of_cell? w _ hx174_4)).trans hx174_4
         replace p174 := eq_true p174
         replace q174 := eq_true q174
         refine start_ (n := 11) (S := fun w' => w'.cell? ad173 = some (.int .i64 ((rd_T51 l2 0).f0)) ∧ w'.cell? ⟨ad173.block, ad173.off + 1, none⟩ = some (.int .i64 ((rd_T51 l2 0).f1)) ∧ w'.cell? ⟨ad173.block, ad173.off + 2, none⟩ = some (.int .i64 ((rd_T51 l2 0).f2)) ∧ w'.cell? ⟨ad173.block, ad173.off + 3, none⟩ = some (.int .i64 ((rd_T51 l2 0).f3)) ∧ w'.cell? ⟨ad173.block, ad173.off + 4, none⟩ = some (.int .i64 ((rd_T51 l2 0).f4)) ∧ w'.cell? ad173 = some (.int .i64 ((rd_T51 l2 0).f0)) ∧ w'.cell? ⟨ad173.block, ad173.off + 1, none⟩ = some (.int .i64 ((rd_T51 l2 0).f1)) ∧ w'.cell? ⟨ad173.block, ad173.off + 2, none⟩ = some (.int .i64 ((rd_T51 l2 0).f2)) ∧ w'.cell? ⟨ad173.block, ad173.off + 3, none⟩ = some (.int .i64 ((rd_T51 l2 0).f3)) ∧ w'.cell? ⟨ad173.block, ad173.off + 4, none⟩ = some (.int .i64 ((rd_T51 l2 0).f4))) (ds := []) #[false,false,false,false,false,false,false,false,false,false,false] (by kernel_rfl) rfl rfl ⟨((HB.out.cell (World.block_lt_of_cell? w _ hw173_0)).trans hw173_0), ((HB.out.cell (World.block_lt_of_cell? w _ hw173_1)).trans hw173_1), ((HB.out.cell (World.block_lt_of_cell? w _ hw173_2)).trans hw173_2), ((HB.out.cell (World.block_lt_of_cell? w _ hw173_3)).trans hw173_3), ((HB.out.cell (World.block_lt_of_cell? w _ hw173_4)).trans hw173_4), ((HB.out.cell (World.block_lt_of_cell? w _ hw174_0)).trans hw174_0), ((HB.out.cell (World.block_lt_of_cell? w _ hw174_1)).trans hw174_1), ((HB.out.cell (World.block_lt_of_cell? w _ hw174_2)).trans hw174_2), ((HB.out.cell (World.block_lt_of_cell? w _ hw174_3)).trans hw174_3), ((HB.out.cell (World.block_lt_of_cell? w _ hw174_4)).trans hw174_4)⟩ (fun hHeld => ?_); refine with_tabW cellarref7_Get.tab17 cellarref7_Get.bits17 (fun HT_ HW_ => ?_)
         generalize wr.drew = w26 at BK168 BK169 HB hx173_0 hx173_1 hx173_2 hx173_3 hx173_4 hx174_0 hx174_1 hx174_2 hx174_3 hx174_4 hHeld ⊢
         refine pure_ (i := 0) (N := some 54) (v := ?_) (a' := ?_) #[true,false,false,false,false,false,false,false,false,false,false] rfl rfl (any_of HT_.out (by kernel_rfl)) (fun _ _ _ h => h) (Or.inl ⟨by rfl, ?_⟩) ?_ ?_
         rotate_left
         ·intro w'
          go_simp
          with_reducible rfl
         rotate_left
         ·simp only [Act.put, List.setIfInBounds_toArray, List.set_cons_zero, List.set_cons_succ, i64_w, i32_w]
          rfl
         refine pure_ (i := 1) (N := some 55) (v := ?_) (a' := ?_) #[true,true,false,false,false,false,false,false,false,false,false] rfl rfl (any_of HT_.out (by kernel_rfl)) (fun _ _ _ h => h) (Or.inl ⟨by rfl, ?_⟩) ?_ ?_
         rotate_left
         ·intro w'
          go_simp
          with_reducible rfl
         rotate_left
         ·simp only [Act.put, List.setIfInBounds_toArray, List.set_cons_zero, List.set_cons_succ, i64_w, i32_w]
          rfl
         refine pure_ (i := 2) (N := some 56) (v := ?_) (a' := ?_) #[true,true,true,false,false,false,false,false,false,false,false] rfl rfl (any_of HT_.out (by kernel_rfl)) (fun _ _ _ h => h) (Or.inl ⟨by rfl, ?_⟩) ?_ ?_
         rotate_left
         ·intro w'
          go_simp
          with_reducible rfl
         rotate_left
         ·simp only [Act.put, List.setIfInBounds_toArray, List.set_cons_zero, List.set_cons_succ, i64_w, i32_w]
          rfl
         refine pure_ (i := 4) (N := some 58) (v := ?_) (a' := ?_) #[true,true,true,false,true,false,false,false,false,false,false] rfl rfl (any_of HT_.out (by kernel_rfl)) (fun _ _ _ h => h) (Or.inl ⟨by rfl, ?_⟩) ?_ ?_
         rotate_left
         ·intro w'
          go_simp
          with_reducible rfl
         rotate_left
         ·simp only [Act.put, List.setIfInBounds_toArray, List.set_cons_zero, List.set_cons_succ, i64_w, i32_w]
          rfl
         refine pure_ (i := 5) (N := some 59) (v := ?_) (a' := ?_) #[true,true,true,false,true,true,false,false,false,false,false] rfl rfl (any_of HT_.out (by kernel_rfl)) (fun _ _ _ h => h) (Or.inl ⟨by rfl, ?_⟩) ?_ ?_
         rotate_left
         ·intro w'
          go_simp
          with_reducible rfl
         rotate_left
         ·simp only [Act.put, List.setIfInBounds_toArray, List.set_cons_zero, List.set_cons_succ, i64_w, i32_w]
          rfl
         refine pure_ (i := 6) (N := some 60) (v := ?_) (a' := ?_) #[true,true,true,false,true,true,true,false,false,false,false] rfl rfl (any_of HT_.out (by kernel_rfl)) (fun _ _ _ h => h) (Or.inl ⟨by rfl, ?_⟩) ?_ ?_
         rotate_left
         ·intro w'
          go_simp
          with_reducible rfl
         rotate_left
         ·simp only [Act.put, List.setIfInBounds_toArray, List.set_cons_zero, List.set_cons_succ, i64_w, i32_w]
          rfl
         refine take_ (i := 3) (N := some 57) (v := ?_) (a' := ?_) #[true,true,true,true,true,true,true,false,false,false,false] rfl rfl (take_ofW HT_.out HW_.out (by kernel_rfl)) (fun _ _ _ h => h) (Or.inl ⟨by rfl, ?_⟩) hHeld ?_ ?_
         rotate_left
         ·rintro w' ⟨s0, s1, s2, s3, s4, s5, s6, s7, s8, s9⟩
          go_simp
          with_reducible rfl
         rotate_left
         ·simp only [Act.put, List.setIfInBounds_toArray, List.set_cons_zero, List.set_cons_succ, i64_w, i32_w]
          rfl
         refine take_ (i := 7) (N := some 61) (v := ?_) (a' := ?_) #[true,true,true,true,true,true,true,true,false,false,false] rfl rfl (take_ofW HT_.out HW_.out (by kernel_rfl)) (fun _ _ _ h => h) (Or.inl ⟨by rfl, ?_⟩) hHeld ?_ ?_
         rotate_left
         ·rintro w' ⟨s0, s1, s2, s3, s4, s5, s6, s7, s8, s9⟩
          go_simp
          with_reducible rfl
         rotate_left
         ·simp only [Act.put, List.setIfInBounds_toArray, List.set_cons_zero, List.set_cons_succ, i64_w, i32_w]
          rfl
         refine pure_ (i := 8) (N := some 62) (v := ?_) (a' := ?_) #[true,true,true,true,true,true,true,true,true,false,false] rfl rfl (any_of HT_.out (by kernel_rfl)) (fun _ _ _ h => h) (Or.inl ⟨by rfl, ?_⟩) ?_ ?_
         rotate_left
         ·intro w'
          go_simp
          with_reducible rfl
         rotate_left
         ·simp only [Act.put, List.setIfInBounds_toArray, List.set_cons_zero, List.set_cons_succ, i64_w, i32_w]
          rfl
         refine one_ (i := 9) (N := some 11) #[true,true,true,true,true,true,true,true,true,true,false] rfl rfl (one_of HT_.out (by kernel_rfl)) (by decide) (fun K hK => ?_)
         refine box_step ?hg (N := 11) ?hd (cs := #[.bool false, .int .i64 0, .int .i64 0, .int .i64 0]) (t := 33) ?hr ?_; (case hd => rfl); (case hg => rfl); (case hr => first | (go_simp; done) | (go_simp; rfl))
         intro gb175 hg w27 hbox hb
         have n0_ := Aside0.mk (blk_below (g := gb168) (o := .cells #[.bool a0_0, .int .i64 a0_1] 38 (0, 0)) (zb BK168.out) hb)
         have n1_ := Aside0.mk (blk_below (g := gb169) (o := .cells #[.bool x170000_1, .int .i64 x170001_1, .int .i64 x170002_1, .int .i64 x170003_1] 33 (0, 0)) (zb BK169.out) hb)
         have n2_ := Aside0.mk (below_step (zw2 HB.out GE168.out GE169.out) hb)
         have n3_ := Aside0.mk (hbox)
         have n4_ := Aside0.mk ((by rw [hg]; exact (below_size (zw2 HB.out GE168.out GE169.out)) : w.heap.size ≤ gb175))
         have n5_ := Aside0.mk ((by rw [hg]; exact (below_size (zw2 HB.out GE168.out GE169.out)) : w.heap.size ≤ gb175))
         have n6_ := Aside0.mk ((by rw [hg]; exact Nat.ne_of_lt (blk_lt (g := gb168) (o := .cells #[.bool a0_0, .int .i64 a0_1] 38 (0, 0)) (zb BK168.out)) : gb168 ≠ gb175))
         have n7_ := Aside0.mk ((by rw [hg]; exact Nat.ne_of_gt (blk_lt (g := gb168) (o := .cells #[.bool a0_0, .int .i64 a0_1] 38 (0, 0)) (zb BK168.out)) : gb175 ≠ gb168))
         have n8_ := Aside0.mk ((by rw [hg]; exact Nat.ne_of_lt (blk_lt (g := gb169) (o := .cells #[.bool x170000_1, .int .i64 x170001_1, .int .i64 x170002_1, .int .i64 x170003_1] 33 (0, 0)) (zb BK169.out)) : gb169 ≠ gb175))
         have n9_ := Aside0.mk ((by rw [hg]; exact Nat.ne_of_gt (blk_lt (g := gb169) (o := .cells #[.bool x170000_1, .int .i64 x170001_1, .int .i64 x170002_1, .int .i64 x170003_1] 33 (0, 0)) (zb BK169.out)) : gb175 ≠ gb169))
         clear BK168
         clear BK169
         clear HB
         have BK168 := n0_
         have BK169 := n1_
         have HB := n2_
         have BK175 := n3_
         have GW175 := n4_
         have GE175 := n5_
         have NB168_175 := n6_
         have NB175_168 := n7_
         have NB169_175 := n8_
         have NB175_169 := n9_
         clear n0_ n1_ n2_ n3_ n4_ n5_ n6_ n7_ n8_ n9_
         clear hb hbox hg
         refine hK.out _ _ ⟨((HB.out.cell (World.block_lt_of_cell? w _ hw173_0)).trans hw173_0), ((HB.out.cell (World.block_lt_of_cell? w _ hw173_1)).trans hw173_1), ((HB.out.cell (World.block_lt_of_cell? w _ hw173_2)).trans hw173_2), ((HB.out.cell (World.block_lt_of_cell? w _ hw173_3)).trans hw173_3), ((HB.out.cell (World.block_lt_of_cell? w _ hw173_4)).trans hw173_4), ((HB.out.cell (World.block_lt_of_cell? w _ hw174_0)).trans hw174_0), ((HB.out.cell (World.block_lt_of_cell? w _ hw174_1)).trans hw174_1), ((HB.out.cell (World.block_lt_of_cell? w _ hw174_2)).trans hw174_2), ((HB.out.cell (World.block_lt_of_cell? w _ hw174_3)).trans hw174_3), ((HB.out.cell (World.block_lt_of_cell? w _ hw174_4)).trans hw174_4)⟩ (fun hHeld => ?_)
         clear hK K
         refine norm_ (a' := ?_) ?_ ?_
         rotate_left
         ·show Act.put _ (some 11) _ = _
          simp only [Act.put, List.setIfInBounds_toArray, List.set_cons_zero, List.set_cons_succ, i64_w, i32_w]
          rfl
         refine one_ (i := 10) (N := none) #[true,true,true,true,true,true,true,true,true,true,true] rfl rfl (one_of HT_.out (by kernel_rfl)) (by decide) (fun K hK => ?_)
         have hs28 : w27.cell? ⟨gb175, 0, none⟩ = some (.bool false) := (blk_cell BK175.out 0).trans rfl
         have hfs28 := blk_frozen BK175.out 0
         have hns28_0 := NB168_175.out
         have hns28_1 := NB169_175.out
         have hms28_0 := NB175_168.out
         have hms28_1 := NB175_169.out
         have hs29 : w27.cell? ⟨gb175, 1, none⟩ = some (.int .i64 0) := (blk_cell BK175.out 1).trans rfl
         have hfs29 := blk_frozen BK175.out 1
         have hns29_0 := NB168_175.out
         have hns29_1 := NB169_175.out
         have hms29_0 := NB175_168.out
         have hms29_1 := NB175_169.out
         have hs30 : w27.cell? ⟨gb175, 2, none⟩ = some (.int .i64 0) := (blk_cell BK175.out 2).trans rfl
         have hfs30 := blk_frozen BK175.out 2
         have hns30_0 := NB168_175.out
         have hns30_1 := NB169_175.out
         have hms30_0 := NB175_168.out
         have hms30_1 := NB175_169.out
         have hs31 : w27.cell? ⟨gb175, 3, none⟩ = some (.int .i64 0) := (blk_cell BK175.out 3).trans rfl
         have hfs31 := blk_frozen BK175.out 3
         have hns31_0 := NB168_175.out
         have hns31_1 := NB169_175.out
         have hms31_0 := NB175_168.out
         have hms31_1 := NB175_169.out
         refine skip_ (w1 := ?_) (by rfl) rfl ?_ ?_
         rotate_left
         ·go_simp
          rfl
         refine hK.out _ _ ⟨((cell_far (p := ⟨gb175, _, none⟩) (zx (zfar hw173_0 GW175.out)) _).trans (((cell_far (p := ⟨gb175, _, none⟩) (zx (zfar hw173_0 GW175.out)) _).trans (((cell_far (p := ⟨gb175, _, none⟩) (zx (zfar hw173_0 GW175.out)) _).trans (((cell_far (p := ⟨gb175, _, none⟩) (zx (zfar hw173_0 GW175.out)) _).trans (hHeld.1)))))))), ((cell_far (p := ⟨gb175, _, none⟩) (zx (zfar hw173_1 GW175.out)) _).trans (((cell_far (p := ⟨gb175, _, none⟩) (zx (zfar hw173_1 GW175.out)) _).trans (((cell_far (p := ⟨gb175, _, none⟩) (zx (zfar hw173_1 GW175.out)) _).trans (((cell_far (p := ⟨gb175, _, none⟩) (zx (zfar hw173_1 GW175.out)) _).trans (hHeld.2.1)))))))), ((cell_far (p := ⟨gb175, _, none⟩) (zx (zfar hw173_2 GW175.out)) _).trans (((cell_far (p := ⟨gb175, _, none⟩) (zx (zfar hw173_2 GW175.out)) _).trans (((cell_far (p := ⟨gb175, _, none⟩) (zx (zfar hw173_2 GW175.out)) _).trans (((cell_far (p := ⟨gb175, _, none⟩) (zx (zfar hw173_2 GW175.out)) _).trans (hHeld.2.2.1)))))))), ((cell_far (p := ⟨gb175, _, none⟩) (zx (zfar hw173_3 GW175.out)) _).trans (((cell_far (p := ⟨gb175, _, none⟩) (zx (zfar hw173_3 GW175.out)) _).trans (((cell_far (p := ⟨gb175, _, none⟩) (zx (zfar hw173_3 GW175.out)) _).trans (((cell_far (p := ⟨gb175, _, none⟩) (zx (zfar hw173_3 GW175.out)) _).trans (hHeld.2.2.2.1)))))))), ((cell_far (p := ⟨gb175, _, none⟩) (zx (zfar hw173_4 GW175.out)) _).trans (((cell_far (p := ⟨gb175, _, none⟩) (zx (zfar hw173_4 GW175.out)) _).trans (((cell_far (p := ⟨gb175, _, none⟩) (zx (zfar hw173_4 GW175.out)) _).trans (((cell_far (p := ⟨gb175, _, none⟩) (zx (zfar hw173_4 GW175.out)) _).trans (hHeld.2.2.2.2.1)))))))), ((cell_far (p := ⟨gb175, _, none⟩) (zx (zfar hw174_0 GW175.out)) _).trans (((cell_far (p := ⟨gb175, _, none⟩) (zx (zfar hw174_0 GW175.out)) _).trans (((cell_far (p := ⟨gb175, _, none⟩) (zx (zfar hw174_0 GW175.out)) _).trans (((cell_far (p := ⟨gb175, _, none⟩) (zx (zfar hw174_0 GW175.out)) _).trans (hHeld.2.2.2.2.2.1)))))))), ((cell_far (p := ⟨gb175, _, none⟩) (zx (zfar hw174_1 GW175.out)) _).trans (((cell_far (p := ⟨gb175, _, none⟩) (zx (zfar hw174_1 GW175.out)) _).trans (((cell_far (p := ⟨gb175, _, none⟩) (zx (zfar hw174_1 GW175.out)) _).trans (((cell_far (p := ⟨gb175, _, none⟩) (zx (zfar hw174_1 GW175.out)) _).trans (hHeld.2.2.2.2.2.2.1)))))))), ((cell_far (p := ⟨gb175, _, none⟩) (zx (zfar hw174_2 GW175.out)) _).trans (((cell_far (p := ⟨gb175, _, none⟩) (zx (zfar hw174_2 GW175.out)) _).trans (((cell_far (p := ⟨gb175, _, none⟩) (zx (zfar hw174_2 GW175.out)) _).trans (((cell_far (p := ⟨gb175, _, none⟩) (zx (zfar hw174_2 GW175.out)) _).trans (hHeld.2.2.2.2.2.2.2.1)))))))), ((cell_far (p := ⟨gb175, _, none⟩) (zx (zfar hw174_3 GW175.out)) _).trans (((cell_far (p := ⟨gb175, _, none⟩) (zx (zfar hw174_3 GW175.out)) _).trans (((cell_far (p := ⟨gb175, _, none⟩) (zx (zfar hw174_3 GW175.out)) _).trans (((cell_far (p := ⟨gb175, _, none⟩) (zx (zfar hw174_3 GW175.out)) _).trans (hHeld.2.2.2.2.2.2.2.2.1)))))))), ((cell_far (p := ⟨gb175, _, none⟩) (zx (zfar hw174_4 GW175.out)) _).trans (((cell_far (p := ⟨gb175, _, none⟩) (zx (zfar hw174_4 GW175.out)) _).trans (((cell_far (p := ⟨gb175, _, none⟩) (zx (zfar hw174_4 GW175.out)) _).trans (((cell_far (p := ⟨gb175, _, none⟩) (zx (zfar hw174_4 GW175.out)) _).trans (hHeld.2.2.2.2.2.2.2.2.2))))))))⟩ (fun hHeld => ?_)
         clear hK K
         refine done_ (done_of HT_.out (by kernel_rfl)) ?_
         have p176 : 0 ≤ (0 : Int) := (by omega)
         have q176 : 0 < (l2.length : Int) := zdec
         obtain ⟨ad176, e176, hx176_0, hx176_1, hx176_2, hx176_3, hx176_4⟩ := at_T51 HR2.out 0 p176 q176
         obtain rfl : ad173 = ad176 := (by injection e176)
         have qi176 : (0 < l2.length) = True := eq_true (by omega)
         (try rw [show ((0 : Int)).toNat = 0 from rfl] at hx176_0)
         (try rw [show 0 * 5 = 0 from rfl] at hx176_0)
         (try rw [Addr.add_zero'] at hx176_0)
         (try rw [show ((0 : Int)).toNat = 0 from rfl] at hx176_1)
         (try rw [show 0 * 5 = 0 from rfl] at hx176_1)
         (try rw [Addr.add_zero'] at hx176_1)
         (try rw [show ((0 : Int)).toNat = 0 from rfl] at hx176_2)
         (try rw [show 0 * 5 = 0 from rfl] at hx176_2)
         (try rw [Addr.add_zero'] at hx176_2)
         (try rw [show ((0 : Int)).toNat = 0 from rfl] at hx176_3)
         (try rw [show 0 * 5 = 0 from rfl] at hx176_3)
         (try rw [Addr.add_zero'] at hx176_3)
         (try rw [show ((0 : Int)).toNat = 0 from rfl] at hx176_4)
         (try rw [show 0 * 5 = 0 from rfl] at hx176_4)
         (try rw [Addr.add_zero'] at hx176_4)
         have hn176_0 : ad173.block ≠ gb175 := zx (zfar hx176_0 GW175.out)
         have hn176_1 : ad173.block ≠ gb175 := zx (zfar hx176_0 GW175.out)
         have hn176_2 : ad173.block ≠ gb175 := zx (zfar hx176_0 GW175.out)
         have hn176_3 : ad173.block ≠ gb175 := zx (zfar hx176_0 GW175.out)
         replace hx176_0 := (HB.out.cell (World.block_lt_of_cell? w _ hx176_0)).trans hx176_0
         replace hx176_1 := (HB.out.cell (World.block_lt_of_cell? w _ hx176_1)).trans hx176_1
         replace hx176_2 := (HB.out.cell (World.block_lt_of_cell? w _ hx176_2)).trans hx176_2
         replace hx176_3 := (HB.out.cell (World.block_lt_of_cell? w _ hx176_3)).trans hx176_3
         replace hx176_4 := (HB.out.cell (World.block_lt_of_cell? w _ hx176_4)).trans hx176_4
         replace hx176_0 := (cell_far (p := ⟨gb175, 0, none⟩) (zy hn176_0) (.bool true)).trans hx176_0
         replace hx176_1 := (cell_far (p := ⟨gb175, 0, none⟩) (zy hn176_0) (.bool true)).trans hx176_1
         replace hx176_2 := (cell_far (p := ⟨gb175, 0, none⟩) (zy hn176_0) (.bool true)).trans hx176_2
         replace hx176_3 := (cell_far (p := ⟨gb175, 0, none⟩) (zy hn176_0) (.bool true)).trans hx176_3
         replace hx176_4 := (cell_far (p := ⟨gb175, 0, none⟩) (zy hn176_0) (.bool true)).trans hx176_4
         replace hx176_0 := (cell_far (p := ⟨gb175, 1, none⟩) (zy hn176_1) (.int .i64 0)).trans hx176_0
         replace hx176_1 := (cell_far (p := ⟨gb175, 1, none⟩) (zy hn176_1) (.int .i64 0)).trans hx176_1
         replace hx176_2 := (cell_far (p := ⟨gb175, 1, none⟩) (zy hn176_1) (.int .i64 0)).trans hx176_2
         replace hx176_3 := (cell_far (p := ⟨gb175, 1, none⟩) (zy hn176_1) (.int .i64 0)).trans hx176_3
         replace hx176_4 := (cell_far (p := ⟨gb175, 1, none⟩) (zy hn176_1) (.int .i64 0)).trans hx176_4
         replace hx176_0 := (cell_far (p := ⟨gb175, 2, none⟩) (zy hn176_2) (.int .i64 ((rd_T51 l2 0).f2))).trans hx176_0
         replace hx176_1 := (cell_far (p := ⟨gb175, 2, none⟩) (zy hn176_2) (.int .i64 ((rd_T51 l2 0).f2))).trans hx176_1
         replace hx176_2 := (cell_far (p := ⟨gb175, 2, none⟩) (zy hn176_2) (.int .i64 ((rd_T51 l2 0).f2))).trans hx176_2
         replace hx176_3 := (cell_far (p := ⟨gb175, 2, none⟩) (zy hn176_2) (.int .i64 ((rd_T51 l2 0).f2))).trans hx176_3
         replace hx176_4 := (cell_far (p := ⟨gb175, 2, none⟩) (zy hn176_2) (.int .i64 ((rd_T51 l2 0).f2))).trans hx176_4
         replace hx176_0 := (cell_far (p := ⟨gb175, 3, none⟩) (zy hn176_3) (.int .i64 ((rd_T51 l2 0).f3))).trans hx176_0
         replace hx176_1 := (cell_far (p := ⟨gb175, 3, none⟩) (zy hn176_3) (.int .i64 ((rd_T51 l2 0).f3))).trans hx176_1
         replace hx176_2 := (cell_far (p := ⟨gb175, 3, none⟩) (zy hn176_3) (.int .i64 ((rd_T51 l2 0).f3))).trans hx176_2
         replace hx176_3 := (cell_far (p := ⟨gb175, 3, none⟩) (zy hn176_3) (.int .i64 ((rd_T51 l2 0).f3))).trans hx176_3
         replace hx176_4 := (cell_far (p := ⟨gb175, 3, none⟩) (zy hn176_3) (.int .i64 ((rd_T51 l2 0).f3))).trans hx176_4
         clear hn176_0
         clear hn176_1
         clear hn176_2
         clear hn176_3
         replace p176 := eq_true p176
         replace q176 := eq_true q176
         have hnb32 := NB168_169.out
         have hnc32 := NB169_168.out
         have hnb33 := NB168_175.out
         have hnc33 := NB175_168.out
         have hcz34_0 : w27.cell? ⟨gb168, 0, none⟩ = some (.bool a0_0) := (blk_cell BK168.out 0).trans rfl
         have hcz34_1 : w27.cell? ⟨gb168, 1, none⟩ = some (.int .i64 a0_1) := (blk_cell BK168.out 1).trans rfl
         have hfz34_0 := blk_frozen BK168.out 0
         have hfz34_1 := blk_frozen BK168.out 1
         have hnb35 := NB175_169.out
         have hnc35 := NB169_175.out
         have hcz36_0 : w27.cell? ⟨gb175, 0, none⟩ = some (.bool false) := (blk_cell BK175.out 0).trans rfl
         have hcz36_1 : w27.cell? ⟨gb175, 1, none⟩ = some (.int .i64 0) := (blk_cell BK175.out 1).trans rfl
         have hcz36_2 : w27.cell? ⟨gb175, 2, none⟩ = some (.int .i64 0) := (blk_cell BK175.out 2).trans rfl
         have hcz36_3 : w27.cell? ⟨gb175, 3, none⟩ = some (.int .i64 0) := (blk_cell BK175.out 3).trans rfl
         have hfz36_0 := blk_frozen BK175.out 0
         have hfz36_1 := blk_frozen BK175.out 1
         have hfz36_2 := blk_frozen BK175.out 2
         have hfz36_3 := blk_frozen BK175.out 3
         try go_wp2_with (first | (go_at_call 30; (with_reducible refine (cellarref7_Put.calls k1 a0_0 a0_1 a1 true 0 ((rd_T51 l2 0).f2) ((rd_T51 l2 0).f3) t177 _ A23.out).mono ?_); rintro e w37 ⟨v178, rfl, ho0, hb⟩; have n0_ := Aside0.mk (Kd.R_lower ho0 (below_size (zw3 HB.out GE168.out GE169.out GE175.out))); have n1_ := Aside0.mk (blk_below (g := gb168) (o := .cells #[.bool a0_0, .int .i64 a0_1] 38 (0, 0)) (zf1 BK168.out NB168_175.out) hb); have n2_ := Aside0.mk (blk_below (g := gb169) (o := .cells #[.bool x170000_1, .int .i64 x170001_1, .int .i64 x170002_1, .int .i64 x170003_1] 33 (0, 0)) (zf1 BK169.out NB169_175.out) hb); have n3_ := Aside0.mk (blk_below (g := gb175) (o := .cells #[.bool true, .int .i64 0, .int .i64 ((rd_T51 l2 0).f2), .int .i64 ((rd_T51 l2 0).f3)] 33 (0, 0)) (by (with_reducible repeat (first | refine blk_drewN ?_ _ | refine blk_drew ?_ | refine blk_alloc ?_ _)); refine blk_put (cs := #[.bool true, .int .i64 0, .int .i64 ((rd_T51 l2 0).f2), .int .i64 0]) ?_ 3 _ rfl; (with_reducible repeat (first | refine blk_drewN ?_ _ | refine blk_drew ?_ | refine blk_alloc ?_ _)); refine blk_put (cs := #[.bool true, .int .i64 0, .int .i64 0, .int .i64 0]) ?_ 2 _ rfl; (with_reducible repeat (first | refine blk_drewN ?_ _ | refine blk_drew ?_ | refine blk_alloc ?_ _)); refine blk_put (cs := #[.bool true, .int .i64 0, .int .i64 0, .int .i64 0]) ?_ 1 _ rfl; (with_reducible repeat (first | refine blk_drewN ?_ _ | refine blk_drew ?_ | refine blk_alloc ?_ _)); refine blk_put (cs := #[.bool false, .int .i64 0, .int .i64 0, .int .i64 0]) ?_ 0 _ rfl; (with_reducible repeat (first | refine blk_drewN ?_ _ | refine blk_drew ?_ | refine blk_alloc ?_ _)); exact BK175.out) hb); have n4_ := Aside0.mk (below_step (zw3 HB.out GE168.out GE169.out GE175.out) hb); clear BK168; clear BK169; clear BK175; clear HB; have HO179 := n0_; have BK168 := n1_; have BK169 := n2_; have BK175 := n3_; have HB := n4_; clear n0_ n1_ n2_ n3_ n4_; (try clear hb); (try clear hb2); (try clear hk); (try clear hi); (try clear ho0); obtain ⟨Ao38, co38, eo38⟩ := Kd.R_slice HO179.out; subst eo38) | (go_at_call 24; (with_reducible refine (cellarref0_EqBytes.calls k1 _ _ t177 _ _ l2 true _ ?side1 ?side2 ?side3 ?side4 A24.out).mono ?_); (case side1 => repeat (first | exact (Kd.R_reads' HO179.out).2.2 | (with_reducible refine Kd.C_alloc ?_ _) | (with_reducible refine Kd.C_drewN ?_ _) | (with_reducible refine Kd.C_drew ?_))); (case side2 => exact (Kd.R_reads' HO179.out).2.1); (case side3 => repeat (first | exact (Kd.C_below HR2.out HB.out) | (with_reducible refine Kd.C_alloc ?_ _) | (with_reducible refine Kd.C_drewN ?_ _) | (with_reducible refine Kd.C_drew ?_))); (case side4 => exact HC2.out); rintro e w' ⟨rfl, ⟨nd, rfl⟩⟩; (try (rw [drewN_self w37]; generalize hq_ : World.drewN w37 _ = w37; have n0_ : Aside0 (Kd.R k51 51 w37 w.heap.size (fun _ => True) (.slice Ao38 t177.length co38) t177) := ⟨by rw [← hq_]; exact (by (with_reducible repeat (first | apply Kd.R_alloc | apply Kd.R_drewN | apply Kd.R_drew)); exact HO179.out)⟩; have n1_ : Aside0 (w37.heap[gb168]? = some (.cells #[.bool a0_0, .int .i64 a0_1] 38 (0, 0))) := ⟨by rw [← hq_]; exact (zb BK168.out)⟩; have n2_ : Aside0 (w37.heap[gb169]? = some (.cells #[.bool x170000_1, .int .i64 x170001_1, .int .i64 x170002_1, .int .i64 x170003_1] 33 (0, 0))) := ⟨by rw [← hq_]; exact (zb BK169.out)⟩; have n3_ : Aside0 (w37.heap[gb175]? = some (.cells #[.bool true, .int .i64 0, .int .i64 ((rd_T51 l2 0).f2), .int .i64 ((rd_T51 l2 0).f3)] 33 (0, 0))) := ⟨by rw [← hq_]; exact (zb BK175.out)⟩; have n4_ : Aside0 (Below w.heap.size w w37) := ⟨by rw [← hq_]; exact (zw3 HB.out GE168.out GE169.out GE175.out)⟩; clear HO179 BK168 BK169 BK175 HB hq_; have HO179 := n0_; have BK168 := n1_; have BK169 := n2_; have BK175 := n3_; have HB := n4_; clear n0_ n1_ n2_ n3_ n4_)); have hcz39_0 : w37.cell? ⟨gb175, 0, none⟩ = some (.bool true) := (blk_cell BK175.out 0).trans rfl; have hcz39_1 : w37.cell? ⟨gb175, 1, none⟩ = some (.int .i64 0) := (blk_cell BK175.out 1).trans rfl; have hcz39_2 : w37.cell? ⟨gb175, 2, none⟩ = some (.int .i64 ((rd_T51 l2 0).f2)) := (blk_cell BK175.out 2).trans rfl; have hcz39_3 : w37.cell? ⟨gb175, 3, none⟩ = some (.int .i64 ((rd_T51 l2 0).f3)) := (blk_cell BK175.out 3).trans rfl; have hfz39_0 := blk_frozen BK175.out 0; have hfz39_1 := blk_frozen BK175.out 1; have hfz39_2 := blk_frozen BK175.out 2; have hfz39_3 := blk_frozen BK175.out 3; have hcz40_0 : w37.cell? ⟨gb169, 0, none⟩ = some (.bool x170000_1) := (blk_cell BK169.out 0).trans rfl; have hcz40_1 : w37.cell? ⟨gb169, 1, none⟩ = some (.int .i64 x170001_1) := (blk_cell BK169.out 1).trans rfl; have hcz40_2 : w37.cell? ⟨gb169, 2, none⟩ = some (.int .i64 x170002_1) := (blk_cell BK169.out 2).trans rfl; have hcz40_3 : w37.cell? ⟨gb169, 3, none⟩ = some (.int .i64 x170003_1) := (blk_cell BK169.out 3).trans rfl; have hfz40_0 := blk_frozen BK169.out 0; have hfz40_1 := blk_frozen BK169.out 1; have hfz40_2 := blk_frozen BK169.out 2; have hfz40_3 := blk_frozen BK169.out 3))
         refine bodyPost_ret (results_ct rfl _ _ gb169 33 #[.bool true, .int .i64 0, .int .i64 ((rd_T51 l2 0).f2), .int .i64 ((rd_T51 l2 0).f3)] (0, 0) _ rfl (by (with_reducible repeat (first | refine blk_drewN ?_ _ | refine blk_drew ?_ | refine blk_alloc ?_ _)); refine blk_put (cs := #[.bool true, .int .i64 0, .int .i64 ((rd_T51 l2 0).f2), .int .i64 x170003_1]) ?_ 3 _ rfl; (with_reducible repeat (first | refine blk_drewN ?_ _ | refine blk_drew ?_ | refine blk_alloc ?_ _)); refine blk_put (cs := #[.bool true, .int .i64 0, .int .i64 x170002_1, .int .i64 x170003_1]) ?_ 2 _ rfl; (with_reducible repeat (first | refine blk_drewN ?_ _ | refine blk_drew ?_ | refine blk_alloc ?_ _)); refine blk_put (cs := #[.bool true, .int .i64 x170001_1, .int .i64 x170002_1, .int .i64 x170003_1]) ?_ 1 _ rfl; (with_reducible repeat (first | refine blk_drewN ?_ _ | refine blk_drew ?_ | refine blk_alloc ?_ _)); refine blk_put (cs := #[.bool x170000_1, .int .i64 x170001_1, .int .i64 x170002_1, .int .i64 x170003_1]) ?_ 0 _ rfl; (with_reducible repeat (first | refine blk_drewN ?_ _ | refine blk_drew ?_ | refine blk_alloc ?_ _)); exact BK169.out) Try.underlying33 rfl (by kernel_rfl)) rfl ?_
         exact ⟨by first | rfl | (simp [errW_none, errW_some] <;> rfl) | (simp [*, errW_none, errW_some] <;> rfl), zw3 HB.out GE168.out GE169.out GE175.out⟩
        ·replace c25 := Bool.eq_false_iff.mpr c25
         subst c25
         have H1 : (some (false, 0, 0, 0, 8)) = some (r1, r2, r3, r4, r5) := by rw [if_neg (show ¬ (false = true) by decide)] at H; exact H
         clear H
         have H := H1
         clear H1
         simp only [Option.some.injEq, Prod.mk.injEq] at H
         obtain ⟨rfl, rfl, rfl, rfl, rfl⟩ := H
         try go_wp2
         have n0_ := Aside0.mk (blk_drew BK168.out)
         have n1_ := Aside0.mk (blk_drew BK169.out)
         have n2_ := Aside0.mk (below_drew1 HB.out)
         clear BK168
         clear BK169
         clear HB
         have BK168 := n0_
         have BK169 := n1_
         have HB := n2_
         clear n0_ n1_ n2_
         have p173 : 0 ≤ (0 : Int) := (by omega)
         have q173 : 0 < (l2.length : Int) := zdec
         obtain ⟨ad173, e173, hx173_0, hx173_1, hx173_2, hx173_3, hx173_4⟩ := at_T51 HR2.out 0 p173 q173
         have hw173_4 := hx173_4
         (try rw [show ((0 : Int)).toNat = 0 from rfl] at hw173_4)
         (try rw [show 0 * 5 = 0 from rfl] at hw173_4)
         (try rw [Addr.add_zero'] at hw173_4)
         have hw173_3 := hx173_3
         (try rw [show ((0 : Int)).toNat = 0 from rfl] at hw173_3)
         (try rw [show 0 * 5 = 0 from rfl] at hw173_3)
         (try rw [Addr.add_zero'] at hw173_3)
         have hw173_2 := hx173_2
         (try rw [show ((0 : Int)).toNat = 0 from rfl] at hw173_2)
         (try rw [show 0 * 5 = 0 from rfl] at hw173_2)
         (try rw [Addr.add_zero'] at hw173_2)
         have hw173_1 := hx173_1
         (try rw [show ((0 : Int)).toNat = 0 from rfl] at hw173_1)
         (try rw [show 0 * 5 = 0 from rfl] at hw173_1)
         (try rw [Addr.add_zero'] at hw173_1)
         have hw173_0 := hx173_0
         (try rw [show ((0 : Int)).toNat = 0 from rfl] at hw173_0)
         (try rw [show 0 * 5 = 0 from rfl] at hw173_0)
         (try rw [Addr.add_zero'] at hw173_0)
         cases e173
         have qi173 : (0 < l2.length) = True := eq_true (by omega)
         (try rw [show ((0 : Int)).toNat = 0 from rfl] at hx173_0)
         (try rw [show 0 * 5 = 0 from rfl] at hx173_0)
         (try rw [Addr.add_zero'] at hx173_0)
         (try rw [show ((0 : Int)).toNat = 0 from rfl] at hx173_1)
         (try rw [show 0 * 5 = 0 from rfl] at hx173_1)
         (try rw [Addr.add_zero'] at hx173_1)
         (try rw [show ((0 : Int)).toNat = 0 from rfl] at hx173_2)
         (try rw [show 0 * 5 = 0 from rfl] at hx173_2)
         (try rw [Addr.add_zero'] at hx173_2)
         (try rw [show ((0 : Int)).toNat = 0 from rfl] at hx173_3)
         (try rw [show 0 * 5 = 0 from rfl] at hx173_3)
         (try rw [Addr.add_zero'] at hx173_3)
         (try rw [show ((0 : Int)).toNat = 0 from rfl] at hx173_4)
         (try rw [show 0 * 5 = 0 from rfl] at hx173_4)
         (try rw [Addr.add_zero'] at hx173_4)
         replace hx173_0 := (HB.out.cell (World.block_lt_of_cell? w _ hx173_0)).trans hx173_0
         replace hx173_1 := (HB.out.cell (World.block_lt_of_cell? w _ hx173_1)).trans hx173_1
         replace hx173_2 := (HB.out.cell (World.block_lt_of_cell? w _ hx173_2)).trans hx173_2
         replace hx173_3 := (HB.out.cell (World.block_lt_of_cell? w _ hx173_3)).trans hx173_3
         replace hx173_4 := (HB.out.cell (World.block_lt_of_cell? w _ hx173_4)).trans hx173_4
         replace p173 := eq_true p173
         replace q173 := eq_true q173
         have p174 : 0 ≤ (0 : Int) := (by omega)
         have q174 : 0 < (l2.length : Int) := zdec
         obtain ⟨ad174, e174, hx174_0, hx174_1, hx174_2, hx174_3, hx174_4⟩ := at_T51 HR2.out 0 p174 q174
         have hw174_4 := hx174_4
         (try rw [show ((0 : Int)).toNat = 0 from rfl] at hw174_4)
         (try rw [show 0 * 5 = 0 from rfl] at hw174_4)
         (try rw [Addr.add_zero'] at hw174_4)
         have hw174_3 := hx174_3
         (try rw [show ((0 : Int)).toNat = 0 from rfl] at hw174_3)
         (try rw [show 0 * 5 = 0 from rfl] at hw174_3)
         (try rw [Addr.add_zero'] at hw174_3)
         have hw174_2 := hx174_2
         (try rw [show ((0 : Int)).toNat = 0 from rfl] at hw174_2)
         (try rw [show 0 * 5 = 0 from rfl] at hw174_2)
         (try rw [Addr.add_zero'] at hw174_2)
         have hw174_1 := hx174_1
         (try rw [show ((0 : Int)).toNat = 0 from rfl] at hw174_1)
         (try rw [show 0 * 5 = 0 from rfl] at hw174_1)
         (try rw [Addr.add_zero'] at hw174_1)
         have hw174_0 := hx174_0
         (try rw [show ((0 : Int)).toNat = 0 from rfl] at hw174_0)
         (try rw [show 0 * 5 = 0 from rfl] at hw174_0)
         (try rw [Addr.add_zero'] at hw174_0)
         obtain rfl : ad173 = ad174 := (by injection e174)
         have qi174 : (0 < l2.length) = True := eq_true (by omega)
         (try rw [show ((0 : Int)).toNat = 0 from rfl] at hx174_0)
         (try rw [show 0 * 5 = 0 from rfl] at hx174_0)
         (try rw [Addr.add_zero'] at hx174_0)
         (try rw [show ((0 : Int)).toNat = 0 from rfl] at hx174_1)
         (try rw [show 0 * 5 = 0 from rfl] at hx174_1)
         (try rw [Addr.add_zero'] at hx174_1)
         (try rw [show ((0 : Int)).toNat = 0 from rfl] at hx174_2)
         (try rw [show 0 * 5 = 0 from rfl] at hx174_2)
         (try rw [Addr.add_zero'] at hx174_2)
         (try rw [show ((0 : Int)).toNat = 0 from rfl] at hx174_3)
         (try rw [show 0 * 5 = 0 from rfl] at hx174_3)
         (try rw [Addr.add_zero'] at hx174_3)
         (try rw [show ((0 : Int)).toNat = 0 from rfl] at hx174_4)
         (try rw [show 0 * 5 = 0 from rfl] at hx174_4)
         (try rw [Addr.add_zero'] at hx174_4)
         replace hx174_0 := (HB.out.cell (World.block_lt_of_cell? w _ hx174_0)).trans hx174_0
         replace hx174_1 := (HB.out.cell (World.block_lt_of_cell? w _ hx174_1)).trans hx174_1
         replace hx174_2 := (HB.out.cell (World.block_lt_of_cell? w _ hx174_2)).trans hx174_2
         replace hx174_3 := (HB.out.cell (World.block_lt_of_cell? w _ hx174_3)).trans hx174_3
         replace hx174_4 := (HB.out.cell (World.block_lt_of_cell? w _ hx174_4)).trans hx174_4
         replace p174 := eq_true p174
         replace q174 := eq_true q174
         refine start_ (n := 11) (S := fun w' => w'.cell? ad173 = some (.int .i64 ((rd_T51 l2 0).f0)) ∧ w'.cell? ⟨ad173.block, ad173.off + 1, none⟩ = some (.int .i64 ((rd_T51 l2 0).f1)) ∧ w'.cell? ⟨ad173.block, ad173.off + 2, none⟩ = some (.int .i64 ((rd_T51 l2 0).f2)) ∧ w'.cell? ⟨ad173.block, ad173.off + 3, none⟩ = some (.int .i64 ((rd_T51 l2 0).f3)) ∧ w'.cell? ⟨ad173.block, ad173.off + 4, none⟩ = some (.int .i64 ((rd_T51 l2 0).f4)) ∧ w'.cell? ad173 = some (.int .i64 ((rd_T51 l2 0).f0)) ∧ w'.cell? ⟨ad173.block, ad173.off + 1, none⟩ = some (.int .i64 ((rd_T51 l2 0).f1)) ∧ w'.cell? ⟨ad173.block, ad173.off + 2, none⟩ = some (.int .i64 ((rd_T51 l2 0).f2)) ∧ w'.cell? ⟨ad173.block, ad173.off + 3, none⟩ = some (.int .i64 ((rd_T51 l2 0).f3)) ∧ w'.cell? ⟨ad173.block, ad173.off + 4, none⟩ = some (.int .i64 ((rd_T51 l2 0).f4))) (ds := []) #[false,false,false,false,false,false,false,false,false,false,false] (by kernel_rfl) rfl rfl ⟨((HB.out.cell (World.block_lt_of_cell? w _ hw173_0)).trans hw173_0), ((HB.out.cell (World.block_lt_of_cell? w _ hw173_1)).trans hw173_1), ((HB.out.cell (World.block_lt_of_cell? w _ hw173_2)).trans hw173_2), ((HB.out.cell (World.block_lt_of_cell? w _ hw173_3)).trans hw173_3), ((HB.out.cell (World.block_lt_of_cell? w _ hw173_4)).trans hw173_4), ((HB.out.cell (World.block_lt_of_cell? w _ hw174_0)).trans hw174_0), ((HB.out.cell (World.block_lt_of_cell? w _ hw174_1)).trans hw174_1), ((HB.out.cell (World.block_lt_of_cell? w _ hw174_2)).trans hw174_2), ((HB.out.cell (World.block_lt_of_cell? w _ hw174_3)).trans hw174_3), ((HB.out.cell (World.block_lt_of_cell? w _ hw174_4)).trans hw174_4)⟩ (fun hHeld => ?_); refine with_tabW cellarref7_Get.tab17 cellarref7_Get.bits17 (fun HT_ HW_ => ?_)
         generalize wr.drew = w41 at BK168 BK169 HB hx173_0 hx173_1 hx173_2 hx173_3 hx173_4 hx174_0 hx174_1 hx174_2 hx174_3 hx174_4 hHeld ⊢
         refine pure_ (i := 0) (N := some 54) (v := ?_) (a' := ?_) #[true,false,false,false,false,false,false,false,false,false,false] rfl rfl (any_of HT_.out (by kernel_rfl)) (fun _ _ _ h => h) (Or.inl ⟨by rfl, ?_⟩) ?_ ?_
         rotate_left
         ·intro w'
          go_simp
          with_reducible rfl
         rotate_left
         ·simp only [Act.put, List.setIfInBounds_toArray, List.set_cons_zero, List.set_cons_succ, i64_w, i32_w]
          rfl
         refine pure_ (i := 1) (N := some 55) (v := ?_) (a' := ?_) #[true,true,false,false,false,false,false,false,false,false,false] rfl rfl (any_of HT_.out (by kernel_rfl)) (fun _ _ _ h => h) (Or.inl ⟨by rfl, ?_⟩) ?_ ?_
         rotate_left
         ·intro w'
          go_simp
          with_reducible rfl
         rotate_left
         ·simp only [Act.put, List.setIfInBounds_toArray, List.set_cons_zero, List.set_cons_succ, i64_w, i32_w]
          rfl
         refine pure_ (i := 2) (N := some 56) (v := ?_) (a' := ?_) #[true,true,true,false,false,false,false,false,false,false,false] rfl rfl (any_of HT_.out (by kernel_rfl)) (fun _ _ _ h => h) (Or.inl ⟨by rfl, ?_⟩) ?_ ?_
         rotate_left
         ·intro w'
          go_simp
          with_reducible rfl
         rotate_left
         ·simp only [Act.put, List.setIfInBounds_toArray, List.set_cons_zero, List.set_cons_succ, i64_w, i32_w]
          rfl
         refine pure_ (i := 4) (N := some 58) (v := ?_) (a' := ?_) #[true,true,true,false,true,false,false,false,false,false,false] rfl rfl (any_of HT_.out (by kernel_rfl)) (fun _ _ _ h => h) (Or.inl ⟨by rfl, ?_⟩) ?_ ?_
         rotate_left
         ·intro w'
          go_simp
          with_reducible rfl
         rotate_left
         ·simp only [Act.put, List.setIfInBounds_toArray, List.set_cons_zero, List.set_cons_succ, i64_w, i32_w]
          rfl
         refine pure_ (i := 5) (N := some 59) (v := ?_) (a' := ?_) #[true,true,true,false,true,true,false,false,false,false,false] rfl rfl (any_of HT_.out (by kernel_rfl)) (fun _ _ _ h => h) (Or.inl ⟨by rfl, ?_⟩) ?_ ?_
         rotate_left
         ·intro w'
          go_simp
          with_reducible rfl
         rotate_left
         ·simp only [Act.put, List.setIfInBounds_toArray, List.set_cons_zero, List.set_cons_succ, i64_w, i32_w]
          rfl
         refine pure_ (i := 6) (N := some 60) (v := ?_) (a' := ?_) #[true,true,true,false,true,true,true,false,false,false,false] rfl rfl (any_of HT_.out (by kernel_rfl)) (fun _ _ _ h => h) (Or.inl ⟨by rfl, ?_⟩) ?_ ?_
         rotate_left
         ·intro w'
          go_simp
          with_reducible rfl
         rotate_left
         ·simp only [Act.put, List.setIfInBounds_toArray, List.set_cons_zero, List.set_cons_succ, i64_w, i32_w]
          rfl
         refine take_ (i := 3) (N := some 57) (v := ?_) (a' := ?_) #[true,true,true,true,true,true,true,false,false,false,false] rfl rfl (take_ofW HT_.out HW_.out (by kernel_rfl)) (fun _ _ _ h => h) (Or.inl ⟨by rfl, ?_⟩) hHeld ?_ ?_
         rotate_left
         ·rintro w' ⟨s0, s1, s2, s3, s4, s5, s6, s7, s8, s9⟩
          go_simp
          with_reducible rfl
         rotate_left
         ·simp only [Act.put, List.setIfInBounds_toArray, List.set_cons_zero, List.set_cons_succ, i64_w, i32_w]
          rfl
         refine take_ (i := 7) (N := some 61) (v := ?_) (a' := ?_) #[true,true,true,true,true,true,true,true,false,false,false] rfl rfl (take_ofW HT_.out HW_.out (by kernel_rfl)) (fun _ _ _ h => h) (Or.inl ⟨by rfl, ?_⟩) hHeld ?_ ?_
         rotate_left
         ·rintro w' ⟨s0, s1, s2, s3, s4, s5, s6, s7, s8, s9⟩
          go_simp
          with_reducible rfl
         rotate_left
         ·simp only [Act.put, List.setIfInBounds_toArray, List.set_cons_zero, List.set_cons_succ, i64_w, i32_w]
          rfl
         refine pure_ (i := 8) (N := some 62) (v := ?_) (a' := ?_) #[true,true,true,true,true,true,true,true,true,false,false] rfl rfl (any_of HT_.out (by kernel_rfl)) (fun _ _ _ h => h) (Or.inl ⟨by rfl, ?_⟩) ?_ ?_
         rotate_left
         ·intro w'
          go_simp
          with_reducible rfl
         rotate_left
         ·simp only [Act.put, List.setIfInBounds_toArray, List.set_cons_zero, List.set_cons_succ, i64_w, i32_w]
          rfl
         refine one_ (i := 9) (N := some 11) #[true,true,true,true,true,true,true,true,true,true,false] rfl rfl (one_of HT_.out (by kernel_rfl)) (by decide) (fun K hK => ?_)
         refine box_step ?hg (N := 11) ?hd (cs := #[.bool false, .int .i64 0, .int .i64 0, .int .i64 0]) (t := 33) ?hr ?_; (case hd => rfl); (case hg => rfl); (case hr => first | (go_simp; done) | (go_simp; rfl))
         intro gb175 hg w42 hbox hb
         have n0_ := Aside0.mk (blk_below (g := gb168) (o := .cells #[.bool a0_0, .int .i64 a0_1] 38 (0, 0)) (zb BK168.out) hb)
         have n1_ := Aside0.mk (blk_below (g := gb169) (o := .cells #[.bool x170000_1, .int .i64 x170001_1, .int .i64 x170002_1, .int .i64 x170003_1] 33 (0, 0)) (zb BK169.out) hb)
         have n2_ := Aside0.mk (below_step (zw2 HB.out GE168.out GE169.out) hb)
         have n3_ := Aside0.mk (hbox)
         have n4_ := Aside0.mk ((by rw [hg]; exact (below_size (zw2 HB.out GE168.out GE169.out)) : w.heap.size ≤ gb175))
         have n5_ := Aside0.mk ((by rw [hg]; exact (below_size (zw2 HB.out GE168.out GE169.out)) : w.heap.size ≤ gb175))
         have n6_ := Aside0.mk ((by rw [hg]; exact Nat.ne_of_lt (blk_lt (g := gb168) (o := .cells #[.bool a0_0, .int .i64 a0_1] 38 (0, 0)) (zb BK168.out)) : gb168 ≠ gb175))
         have n7_ := Aside0.mk ((by rw [hg]; exact Nat.ne_of_gt (blk_lt (g := gb168) (o := .cells #[.bool a0_0, .int .i64 a0_1] 38 (0, 0)) (zb BK168.out)) : gb175 ≠ gb168))
         have n8_ := Aside0.mk ((by rw [hg]; exact Nat.ne_of_lt (blk_lt (g := gb169) (o := .cells #[.bool x170000_1, .int .i64 x170001_1, .int .i64 x170002_1, .int .i64 x170003_1] 33 (0, 0)) (zb BK169.out)) : gb169 ≠ gb175))
         have n9_ := Aside0.mk ((by rw [hg]; exact Nat.ne_of_gt (blk_lt (g := gb169) (o := .cells #[.bool x170000_1, .int .i64 x170001_1, .int .i64 x170002_1, .int .i64 x170003_1] 33 (0, 0)) (zb BK169.out)) : gb175 ≠ gb169))
         clear BK168
         clear BK169
         clear HB
         have BK168 := n0_
         have BK169 := n1_
         have HB := n2_
         have BK175 := n3_
         have GW175 := n4_
         have GE175 := n5_
         have NB168_175 := n6_
         have NB175_168 := n7_
         have NB169_175 := n8_
         have NB175_169 := n9_
         clear n0_ n1_ n2_ n3_ n4_ n5_ n6_ n7_ n8_ n9_
         clear hb hbox hg
         refine hK.out _ _ ⟨((HB.out.cell (World.block_lt_of_cell? w _ hw173_0)).trans hw173_0), ((HB.out.cell (World.block_lt_of_cell? w _ hw173_1)).trans hw173_1), ((HB.out.cell (World.block_lt_of_cell? w _ hw173_2)).trans hw173_2), ((HB.out.cell (World.block_lt_of_cell? w _ hw173_3)).trans hw173_3), ((HB.out.cell (World.block_lt_of_cell? w _ hw173_4)).trans hw173_4), ((HB.out.cell (World.block_lt_of_cell? w _ hw174_0)).trans hw174_0), ((HB.out.cell (World.block_lt_of_cell? w _ hw174_1)).trans hw174_1), ((HB.out.cell (World.block_lt_of_cell? w _ hw174_2)).trans hw174_2), ((HB.out.cell (World.block_lt_of_cell? w _ hw174_3)).trans hw174_3), ((HB.out.cell (World.block_lt_of_cell? w _ hw174_4)).trans hw174_4)⟩ (fun hHeld => ?_)
         clear hK K
         refine norm_ (a' := ?_) ?_ ?_
         rotate_left
         ·show Act.put _ (some 11) _ = _
          simp only [Act.put, List.setIfInBounds_toArray, List.set_cons_zero, List.set_cons_succ, i64_w, i32_w]
          rfl
         refine one_ (i := 10) (N := none) #[true,true,true,true,true,true,true,true,true,true,true] rfl rfl (one_of HT_.out (by kernel_rfl)) (by decide) (fun K hK => ?_)
         have hs43 : w42.cell? ⟨gb175, 0, none⟩ = some (.bool false) := (blk_cell BK175.out 0).trans rfl
         have hfs43 := blk_frozen BK175.out 0
         have hns43_0 := NB168_175.out
         have hns43_1 := NB169_175.out
         have hms43_0 := NB175_168.out
         have hms43_1 := NB175_169.out
         have hs44 : w42.cell? ⟨gb175, 1, none⟩ = some (.int .i64 0) := (blk_cell BK175.out 1).trans rfl
         have hfs44 := blk_frozen BK175.out 1
         have hns44_0 := NB168_175.out
         have hns44_1 := NB169_175.out
         have hms44_0 := NB175_168.out
         have hms44_1 := NB175_169.out
         have hs45 : w42.cell? ⟨gb175, 2, none⟩ = some (.int .i64 0) := (blk_cell BK175.out 2).trans rfl
         have hfs45 := blk_frozen BK175.out 2
         have hns45_0 := NB168_175.out
         have hns45_1 := NB169_175.out
         have hms45_0 := NB175_168.out
         have hms45_1 := NB175_169.out
         have hs46 : w42.cell? ⟨gb175, 3, none⟩ = some (.int .i64 0) := (blk_cell BK175.out 3).trans rfl
         have hfs46 := blk_frozen BK175.out 3
         have hns46_0 := NB168_175.out
         have hns46_1 := NB169_175.out
         have hms46_0 := NB175_168.out
         have hms46_1 := NB175_169.out
         refine skip_ (w1 := ?_) (by rfl) rfl ?_ ?_
         rotate_left
         ·go_simp
          rfl
         refine hK.out _ _ ⟨((cell_far (p := ⟨gb175, _, none⟩) (zx (zfar hw173_0 GW175.out)) _).trans (((cell_far (p := ⟨gb175, _, none⟩) (zx (zfar hw173_0 GW175.out)) _).trans (((cell_far (p := ⟨gb175, _, none⟩) (zx (zfar hw173_0 GW175.out)) _).trans (((cell_far (p := ⟨gb175, _, none⟩) (zx (zfar hw173_0 GW175.out)) _).trans (hHeld.1)))))))), ((cell_far (p := ⟨gb175, _, none⟩) (zx (zfar hw173_1 GW175.out)) _).trans (((cell_far (p := ⟨gb175, _, none⟩) (zx (zfar hw173_1 GW175.out)) _).trans (((cell_far (p := ⟨gb175, _, none⟩) (zx (zfar hw173_1 GW175.out)) _).trans (((cell_far (p := ⟨gb175, _, none⟩) (zx (zfar hw173_1 GW175.out)) _).trans (hHeld.2.1)))))))), ((cell_far (p := ⟨gb175, _, none⟩) (zx (zfar hw173_2 GW175.out)) _).trans (((cell_far (p := ⟨gb175, _, none⟩) (zx (zfar hw173_2 GW175.out)) _).trans (((cell_far (p := ⟨gb175, _, none⟩) (zx (zfar hw173_2 GW175.out)) _).trans (((cell_far (p := ⟨gb175, _, none⟩) (zx (zfar hw173_2 GW175.out)) _).trans (hHeld.2.2.1)))))))), ((cell_far (p := ⟨gb175, _, none⟩) (zx (zfar hw173_3 GW175.out)) _).trans (((cell_far (p := ⟨gb175, _, none⟩) (zx (zfar hw173_3 GW175.out)) _).trans (((cell_far (p := ⟨gb175, _, none⟩) (zx (zfar hw173_3 GW175.out)) _).trans (((cell_far (p := ⟨gb175, _, none⟩) (zx (zfar hw173_3 GW175.out)) _).trans (hHeld.2.2.2.1)))))))), ((cell_far (p := ⟨gb175, _, none⟩) (zx (zfar hw173_4 GW175.out)) _).trans (((cell_far (p := ⟨gb175, _, none⟩) (zx (zfar hw173_4 GW175.out)) _).trans (((cell_far (p := ⟨gb175, _, none⟩) (zx (zfar hw173_4 GW175.out)) _).trans (((cell_far (p := ⟨gb175, _, none⟩) (zx (zfar hw173_4 GW175.out)) _).trans (hHeld.2.2.2.2.1)))))))), ((cell_far (p := ⟨gb175, _, none⟩) (zx (zfar hw174_0 GW175.out)) _).trans (((cell_far (p := ⟨gb175, _, none⟩) (zx (zfar hw174_0 GW175.out)) _).trans (((cell_far (p := ⟨gb175, _, none⟩) (zx (zfar hw174_0 GW175.out)) _).trans (((cell_far (p := ⟨gb175, _, none⟩) (zx (zfar hw174_0 GW175.out)) _).trans (hHeld.2.2.2.2.2.1)))))))), ((cell_far (p := ⟨gb175, _, none⟩) (zx (zfar hw174_1 GW175.out)) _).trans (((cell_far (p := ⟨gb175, _, none⟩) (zx (zfar hw174_1 GW175.out)) _).trans (((cell_far (p := ⟨gb175, _, none⟩) (zx (zfar hw174_1 GW175.out)) _).trans (((cell_far (p := ⟨gb175, _, none⟩) (zx (zfar hw174_1 GW175.out)) _).trans (hHeld.2.2.2.2.2.2.1)))))))), ((cell_far (p := ⟨gb175, _, none⟩) (zx (zfar hw174_2 GW175.out)) _).trans (((cell_far (p := ⟨gb175, _, none⟩) (zx (zfar hw174_2 GW175.out)) _).trans (((cell_far (p := ⟨gb175, _, none⟩) (zx (zfar hw174_2 GW175.out)) _).trans (((cell_far (p := ⟨gb175, _, none⟩) (zx (zfar hw174_2 GW175.out)) _).trans (hHeld.2.2.2.2.2.2.2.1)))))))), ((cell_far (p := ⟨gb175, _, none⟩) (zx (zfar hw174_3 GW175.out)) _).trans (((cell_far (p := ⟨gb175, _, none⟩) (zx (zfar hw174_3 GW175.out)) _).trans (((cell_far (p := ⟨gb175, _, none⟩) (zx (zfar hw174_3 GW175.out)) _).trans (((cell_far (p := ⟨gb175, _, none⟩) (zx (zfar hw174_3 GW175.out)) _).trans (hHeld.2.2.2.2.2.2.2.2.1)))))))), ((cell_far (p := ⟨gb175, _, none⟩) (zx (zfar hw174_4 GW175.out)) _).trans (((cell_far (p := ⟨gb175, _, none⟩) (zx (zfar hw174_4 GW175.out)) _).trans (((cell_far (p := ⟨gb175, _, none⟩) (zx (zfar hw174_4 GW175.out)) _).trans (((cell_far (p := ⟨gb175, _, none⟩) (zx (zfar hw174_4 GW175.out)) _).trans (hHeld.2.2.2.2.2.2.2.2.2))))))))⟩ (fun hHeld => ?_)
         clear hK K
         refine done_ (done_of HT_.out (by kernel_rfl)) ?_
         have p176 : 0 ≤ (0 : Int) := (by omega)
         have q176 : 0 < (l2.length : Int) := zdec
         obtain ⟨ad176, e176, hx176_0, hx176_1, hx176_2, hx176_3, hx176_4⟩ := at_T51 HR2.out 0 p176 q176
         obtain rfl : ad173 = ad176 := (by injection e176)
         have qi176 : (0 < l2.length) = True := eq_true (by omega)
         (try rw [show ((0 : Int)).toNat = 0 from rfl] at hx176_0)
         (try rw [show 0 * 5 = 0 from rfl] at hx176_0)
         (try rw [Addr.add_zero'] at hx176_0)
         (try rw [show ((0 : Int)).toNat = 0 from rfl] at hx176_1)
         (try rw [show 0 * 5 = 0 from rfl] at hx176_1)
         (try rw [Addr.add_zero'] at hx176_1)
         (try rw [show ((0 : Int)).toNat = 0 from rfl] at hx176_2)
         (try rw [show 0 * 5 = 0 from rfl] at hx176_2)
         (try rw [Addr.add_zero'] at hx176_2)
         (try rw [show ((0 : Int)).toNat = 0 from rfl] at hx176_3)
         (try rw [show 0 * 5 = 0 from rfl] at hx176_3)
         (try rw [Addr.add_zero'] at hx176_3)
         (try rw [show ((0 : Int)).toNat = 0 from rfl] at hx176_4)
         (try rw [show 0 * 5 = 0 from rfl] at hx176_4)
         (try rw [Addr.add_zero'] at hx176_4)
         have hn176_0 : ad173.block ≠ gb175 := zx (zfar hx176_0 GW175.out)
         have hn176_1 : ad173.block ≠ gb175 := zx (zfar hx176_0 GW175.out)
         have hn176_2 : ad173.block ≠ gb175 := zx (zfar hx176_0 GW175.out)
         have hn176_3 : ad173.block ≠ gb175 := zx (zfar hx176_0 GW175.out)
         replace hx176_0 := (HB.out.cell (World.block_lt_of_cell? w _ hx176_0)).trans hx176_0
         replace hx176_1 := (HB.out.cell (World.block_lt_of_cell? w _ hx176_1)).trans hx176_1
         replace hx176_2 := (HB.out.cell (World.block_lt_of_cell? w _ hx176_2)).trans hx176_2
         replace hx176_3 := (HB.out.cell (World.block_lt_of_cell? w _ hx176_3)).trans hx176_3
         replace hx176_4 := (HB.out.cell (World.block_lt_of_cell? w _ hx176_4)).trans hx176_4
         replace hx176_0 := (cell_far (p := ⟨gb175, 0, none⟩) (zy hn176_0) (.bool true)).trans hx176_0
         replace hx176_1 := (cell_far (p := ⟨gb175, 0, none⟩) (zy hn176_0) (.bool true)).trans hx176_1
         replace hx176_2 := (cell_far (p := ⟨gb175, 0, none⟩) (zy hn176_0) (.bool true)).trans hx176_2
         replace hx176_3 := (cell_far (p := ⟨gb175, 0, none⟩) (zy hn176_0) (.bool true)).trans hx176_3
         replace hx176_4 := (cell_far (p := ⟨gb175, 0, none⟩) (zy hn176_0) (.bool true)).trans hx176_4
         replace hx176_0 := (cell_far (p := ⟨gb175, 1, none⟩) (zy hn176_1) (.int .i64 0)).trans hx176_0
         replace hx176_1 := (cell_far (p := ⟨gb175, 1, none⟩) (zy hn176_1) (.int .i64 0)).trans hx176_1
         replace hx176_2 := (cell_far (p := ⟨gb175, 1, none⟩) (zy hn176_1) (.int .i64 0)).trans hx176_2
         replace hx176_3 := (cell_far (p := ⟨gb175, 1, none⟩) (zy hn176_1) (.int .i64 0)).trans hx176_3
         replace hx176_4 := (cell_far (p := ⟨gb175, 1, none⟩) (zy hn176_1) (.int .i64 0)).trans hx176_4
         replace hx176_0 := (cell_far (p := ⟨gb175, 2, none⟩) (zy hn176_2) (.int .i64 ((rd_T51 l2 0).f2))).trans hx176_0
         replace hx176_1 := (cell_far (p := ⟨gb175, 2, none⟩) (zy hn176_2) (.int .i64 ((rd_T51 l2 0).f2))).trans hx176_1
         replace hx176_2 := (cell_far (p := ⟨gb175, 2, none⟩) (zy hn176_2) (.int .i64 ((rd_T51 l2 0).f2))).trans hx176_2
         replace hx176_3 := (cell_far (p := ⟨gb175, 2, none⟩) (zy hn176_2) (.int .i64 ((rd_T51 l2 0).f2))).trans hx176_3
         replace hx176_4 := (cell_far (p := ⟨gb175, 2, none⟩) (zy hn176_2) (.int .i64 ((rd_T51 l2 0).f2))).trans hx176_4
         replace hx176_0 := (cell_far (p := ⟨gb175, 3, none⟩) (zy hn176_3) (.int .i64 ((rd_T51 l2 0).f3))).trans hx176_0
         replace hx176_1 := (cell_far (p := ⟨gb175, 3, none⟩) (zy hn176_3) (.int .i64 ((rd_T51 l2 0).f3))).trans hx176_1
         replace hx176_2 := (cell_far (p := ⟨gb175, 3, none⟩) (zy hn176_3) (.int .i64 ((rd_T51 l2 0).f3))).trans hx176_2
         replace hx176_3 := (cell_far (p := ⟨gb175, 3, none⟩) (zy hn176_3) (.int .i64 ((rd_T51 l2 0).f3))).trans hx176_3
         replace hx176_4 := (cell_far (p := ⟨gb175, 3, none⟩) (zy hn176_3) (.int .i64 ((rd_T51 l2 0).f3))).trans hx176_4
         clear hn176_0
         clear hn176_1
         clear hn176_2
         clear hn176_3
         replace p176 := eq_true p176
         replace q176 := eq_true q176
         have hnb47 := NB168_169.out
         have hnc47 := NB169_168.out
         have hnb48 := NB168_175.out
         have hnc48 := NB175_168.out
         have hcz49_0 : w42.cell? ⟨gb168, 0, none⟩ = some (.bool a0_0) := (blk_cell BK168.out 0).trans rfl
         have hcz49_1 : w42.cell? ⟨gb168, 1, none⟩ = some (.int .i64 a0_1) := (blk_cell BK168.out 1).trans rfl
         have hfz49_0 := blk_frozen BK168.out 0
         have hfz49_1 := blk_frozen BK168.out 1
         have hnb50 := NB175_169.out
         have hnc50 := NB169_175.out
         have hcz51_0 : w42.cell? ⟨gb175, 0, none⟩ = some (.bool false) := (blk_cell BK175.out 0).trans rfl
         have hcz51_1 : w42.cell? ⟨gb175, 1, none⟩ = some (.int .i64 0) := (blk_cell BK175.out 1).trans rfl
         have hcz51_2 : w42.cell? ⟨gb175, 2, none⟩ = some (.int .i64 0) := (blk_cell BK175.out 2).trans rfl
         have hcz51_3 : w42.cell? ⟨gb175, 3, none⟩ = some (.int .i64 0) := (blk_cell BK175.out 3).trans rfl
         have hfz51_0 := blk_frozen BK175.out 0
         have hfz51_1 := blk_frozen BK175.out 1
         have hfz51_2 := blk_frozen BK175.out 2
         have hfz51_3 := blk_frozen BK175.out 3
         try go_wp2_with (first | (go_at_call 30; (with_reducible refine (cellarref7_Put.calls k1 a0_0 a0_1 a1 true 0 ((rd_T51 l2 0).f2) ((rd_T51 l2 0).f3) t177 _ A23.out).mono ?_); rintro e w52 ⟨v178, rfl, ho0, hb⟩; have n0_ := Aside0.mk (Kd.R_lower ho0 (below_size (zw3 HB.out GE168.out GE169.out GE175.out))); have n1_ := Aside0.mk (blk_below (g := gb168) (o := .cells #[.bool a0_0, .int .i64 a0_1] 38 (0, 0)) (zf1 BK168.out NB168_175.out) hb); have n2_ := Aside0.mk (blk_below (g := gb169) (o := .cells #[.bool x170000_1, .int .i64 x170001_1, .int .i64 x170002_1, .int .i64 x170003_1] 33 (0, 0)) (zf1 BK169.out NB169_175.out) hb); have n3_ := Aside0.mk (blk_below (g := gb175) (o := .cells #[.bool true, .int .i64 0, .int .i64 ((rd_T51 l2 0).f2), .int .i64 ((rd_T51 l2 0).f3)] 33 (0, 0)) (by (with_reducible repeat (first | refine blk_drewN ?_ _ | refine blk_drew ?_ | refine blk_alloc ?_ _)); refine blk_put (cs := #[.bool true, .int .i64 0, .int .i64 ((rd_T51 l2 0).f2), .int .i64 0]) ?_ 3 _ rfl; (with_reducible repeat (first | refine blk_drewN ?_ _ | refine blk_drew ?_ | refine blk_alloc ?_ _)); refine blk_put (cs := #[.bool true, .int .i64 0, .int .i64 0, .int .i64 0]) ?_ 2 _ rfl; (with_reducible repeat (first | refine blk_drewN ?_ _ | refine blk_drew ?_ | refine blk_alloc ?_ _)); refine blk_put (cs := #[.bool true, .int .i64 0, .int .i64 0, .int .i64 0]) ?_ 1 _ rfl; (with_reducible repeat (first | refine blk_drewN ?_ _ | refine blk_drew ?_ | refine blk_alloc ?_ _)); refine blk_put (cs := #[.bool false, .int .i64 0, .int .i64 0, .int .i64 0]) ?_ 0 _ rfl; (with_reducible repeat (first | refine blk_drewN ?_ _ | refine blk_drew ?_ | refine blk_alloc ?_ _)); exact BK175.out) hb); have n4_ := Aside0.mk (below_step (zw3 HB.out GE168.out GE169.out GE175.out) hb); clear BK168; clear BK169; clear BK175; clear HB; have HO179 := n0_; have BK168 := n1_; have BK169 := n2_; have BK175 := n3_; have HB := n4_; clear n0_ n1_ n2_ n3_ n4_; (try clear hb); (try clear hb2); (try clear hk); (try clear hi); (try clear ho0); obtain ⟨Ao53, co53, eo53⟩ := Kd.R_slice HO179.out; subst eo53) | (go_at_call 24; (with_reducible refine (cellarref0_EqBytes.calls k1 _ _ t177 _ _ l2 false _ ?side1 ?side2 ?side3 ?side4 A24.out).mono ?_); (case side1 => repeat (first | exact (Kd.R_reads' HO179.out).2.2 | (with_reducible refine Kd.C_alloc ?_ _) | (with_reducible refine Kd.C_drewN ?_ _) | (with_reducible refine Kd.C_drew ?_))); (case side2 => exact (Kd.R_reads' HO179.out).2.1); (case side3 => repeat (first | exact (Kd.C_below HR2.out HB.out) | (with_reducible refine Kd.C_alloc ?_ _) | (with_reducible refine Kd.C_drewN ?_ _) | (with_reducible refine Kd.C_drew ?_))); (case side4 => exact HC2.out); rintro e w' ⟨rfl, ⟨nd, rfl⟩⟩; (try (rw [drewN_self w52]; generalize hq_ : World.drewN w52 _ = w52; have n0_ : Aside0 (Kd.R k51 51 w52 w.heap.size (fun _ => True) (.slice Ao53 t177.length co53) t177) := ⟨by rw [← hq_]; exact (by (with_reducible repeat (first | apply Kd.R_alloc | apply Kd.R_drewN | apply Kd.R_drew)); exact HO179.out)⟩; have n1_ : Aside0 (w52.heap[gb168]? = some (.cells #[.bool a0_0, .int .i64 a0_1] 38 (0, 0))) := ⟨by rw [← hq_]; exact (zb BK168.out)⟩; have n2_ : Aside0 (w52.heap[gb169]? = some (.cells #[.bool x170000_1, .int .i64 x170001_1, .int .i64 x170002_1, .int .i64 x170003_1] 33 (0, 0))) := ⟨by rw [← hq_]; exact (zb BK169.out)⟩; have n3_ : Aside0 (w52.heap[gb175]? = some (.cells #[.bool true, .int .i64 0, .int .i64 ((rd_T51 l2 0).f2), .int .i64 ((rd_T51 l2 0).f3)] 33 (0, 0))) := ⟨by rw [← hq_]; exact (zb BK175.out)⟩; have n4_ : Aside0 (Below w.heap.size w w52) := ⟨by rw [← hq_]; exact (zw3 HB.out GE168.out GE169.out GE175.out)⟩; clear HO179 BK168 BK169 BK175 HB hq_; have HO179 := n0_; have BK168 := n1_; have BK169 := n2_; have BK175 := n3_; have HB := n4_; clear n0_ n1_ n2_ n3_ n4_)); have hcz54_0 : w52.cell? ⟨gb169, 0, none⟩ = some (.bool x170000_1) := (blk_cell BK169.out 0).trans rfl; have hcz54_1 : w52.cell? ⟨gb169, 1, none⟩ = some (.int .i64 x170001_1) := (blk_cell BK169.out 1).trans rfl; have hcz54_2 : w52.cell? ⟨gb169, 2, none⟩ = some (.int .i64 x170002_1) := (blk_cell BK169.out 2).trans rfl; have hcz54_3 : w52.cell? ⟨gb169, 3, none⟩ = some (.int .i64 x170003_1) := (blk_cell BK169.out 3).trans rfl; have hfz54_0 := blk_frozen BK169.out 0; have hfz54_1 := blk_frozen BK169.out 1; have hfz54_2 := blk_frozen BK169.out 2; have hfz54_3 := blk_frozen BK169.out 3))
         refine bodyPost_ret (results_ct rfl _ _ gb169 33 #[.bool false, .int .i64 0, .int .i64 0, .int .i64 0] (0, 0) _ rfl (by (with_reducible repeat (first | refine blk_drewN ?_ _ | refine blk_drew ?_ | refine blk_alloc ?_ _)); refine blk_put (cs := #[.bool false, .int .i64 0, .int .i64 0, .int .i64 x170003_1]) ?_ 3 _ rfl; (with_reducible repeat (first | refine blk_drewN ?_ _ | refine blk_drew ?_ | refine blk_alloc ?_ _)); refine blk_put (cs := #[.bool false, .int .i64 0, .int .i64 x170002_1, .int .i64 x170003_1]) ?_ 2 _ rfl; (with_reducible repeat (first | refine blk_drewN ?_ _ | refine blk_drew ?_ | refine blk_alloc ?_ _)); refine blk_put (cs := #[.bool false, .int .i64 x170001_1, .int .i64 x170002_1, .int .i64 x170003_1]) ?_ 1 _ rfl; (with_reducible repeat (first | refine blk_drewN ?_ _ | refine blk_drew ?_ | refine blk_alloc ?_ _)); refine blk_put (cs := #[.bool x170000_1, .int .i64 x170001_1, .int .i64 x170002_1, .int .i64 x170003_1]) ?_ 0 _ rfl; (with_reducible repeat (first | refine blk_drewN ?_ _ | refine blk_drew ?_ | refine blk_alloc ?_ _)); exact BK169.out) Try.underlying33 rfl (by kernel_rfl)) rfl ?_
         exact ⟨by first | rfl | (simp [errW_none, errW_some] <;> rfl) | (simp [*, errW_none, errW_some] <;> rfl), zw3 HB.out GE168.out GE169.out GE175.out⟩
       ·rw [if_neg c22] at H
        have c22b0 : (((rd_T51 l2 0).f0) == 2) = false := beq_eq_false_iff_ne.mpr c22
        have c22b1 : (((rd_T51 l2 0).f0) != 2) = true := bne_iff_ne.mpr c22
        simp only [Option.some.injEq, Prod.mk.injEq] at H
        obtain ⟨rfl, rfl, rfl, rfl, rfl⟩ := H
        try go_wp2
        have n0_ := Aside0.mk (blk_drew BK168.out)
        have n1_ := Aside0.mk (blk_drew BK169.out)
        have n2_ := Aside0.mk (below_drew1 HB.out)
        clear BK168
        clear BK169
        clear HB
        have BK168 := n0_
        have BK169 := n1_
        have HB := n2_
        clear n0_ n1_ n2_
        have p173 : 0 ≤ (0 : Int) := (by omega)
        have q173 : 0 < (l2.length : Int) := zdec
        obtain ⟨ad173, e173, hx173_0, hx173_1, hx173_2, hx173_3, hx173_4⟩ := at_T51 HR2.out 0 p173 q173
        have hw173_4 := hx173_4
        (try rw [show ((0 : Int)).toNat = 0 from rfl] at hw173_4)
        (try rw [show 0 * 5 = 0 from rfl] at hw173_4)
        (try rw [Addr.add_zero'] at hw173_4)
        have hw173_3 := hx173_3
        (try rw [show ((0 : Int)).toNat = 0 from rfl] at hw173_3)
        (try rw [show 0 * 5 = 0 from rfl] at hw173_3)
        (try rw [Addr.add_zero'] at hw173_3)
        have hw173_2 := hx173_2
        (try rw [show ((0 : Int)).toNat = 0 from rfl] at hw173_2)
        (try rw [show 0 * 5 = 0 from rfl] at hw173_2)
        (try rw [Addr.add_zero'] at hw173_2)
        have hw173_1 := hx173_1
        (try rw [show ((0 : Int)).toNat = 0 from rfl] at hw173_1)
        (try rw [show 0 * 5 = 0 from rfl] at hw173_1)
        (try rw [Addr.add_zero'] at hw173_1)
        have hw173_0 := hx173_0
        (try rw [show ((0 : Int)).toNat = 0 from rfl] at hw173_0)
        (try rw [show 0 * 5 = 0 from rfl] at hw173_0)
        (try rw [Addr.add_zero'] at hw173_0)
        cases e173
        have qi173 : (0 < l2.length) = True := eq_true (by omega)
        (try rw [show ((0 : Int)).toNat = 0 from rfl] at hx173_0)
        (try rw [show 0 * 5 = 0 from rfl] at hx173_0)
        (try rw [Addr.add_zero'] at hx173_0)
        (try rw [show ((0 : Int)).toNat = 0 from rfl] at hx173_1)
        (try rw [show 0 * 5 = 0 from rfl] at hx173_1)
        (try rw [Addr.add_zero'] at hx173_1)
        (try rw [show ((0 : Int)).toNat = 0 from rfl] at hx173_2)
        (try rw [show 0 * 5 = 0 from rfl] at hx173_2)
        (try rw [Addr.add_zero'] at hx173_2)
        (try rw [show ((0 : Int)).toNat = 0 from rfl] at hx173_3)
        (try rw [show 0 * 5 = 0 from rfl] at hx173_3)
        (try rw [Addr.add_zero'] at hx173_3)
        (try rw [show ((0 : Int)).toNat = 0 from rfl] at hx173_4)
        (try rw [show 0 * 5 = 0 from rfl] at hx173_4)
        (try rw [Addr.add_zero'] at hx173_4)
        replace hx173_0 := (HB.out.cell (World.block_lt_of_cell? w _ hx173_0)).trans hx173_0
        replace hx173_1 := (HB.out.cell (World.block_lt_of_cell? w _ hx173_1)).trans hx173_1
        replace hx173_2 := (HB.out.cell (World.block_lt_of_cell? w _ hx173_2)).trans hx173_2
        replace hx173_3 := (HB.out.cell (World.block_lt_of_cell? w _ hx173_3)).trans hx173_3
        replace hx173_4 := (HB.out.cell (World.block_lt_of_cell? w _ hx173_4)).trans hx173_4
        replace p173 := eq_true p173
        replace q173 := eq_true q173
        have p174 : 0 ≤ (0 : Int) := (by omega)
        have q174 : 0 < (l2.length : Int) := zdec
        obtain ⟨ad174, e174, hx174_0, hx174_1, hx174_2, hx174_3, hx174_4⟩ := at_T51 HR2.out 0 p174 q174
        have hw174_4 := hx174_4
        (try rw [show ((0 : Int)).toNat = 0 from rfl] at hw174_4)
        (try rw [show 0 * 5 = 0 from rfl] at hw174_4)
        (try rw [Addr.add_zero'] at hw174_4)
        have hw174_3 := hx174_3
        (try rw [show ((0 : Int)).toNat = 0 from rfl] at hw174_3)
        (try rw [show 0 * 5 = 0 from rfl] at hw174_3)
        (try rw [Addr.add_zero'] at hw174_3)
        have hw174_2 := hx174_2
        (try rw [show ((0 : Int)).toNat = 0 from rfl] at hw174_2)
        (try rw [show 0 * 5 = 0 from rfl] at hw174_2)
        (try rw [Addr.add_zero'] at hw174_2)
        have hw174_1 := hx174_1
        (try rw [show ((0 : Int)).toNat = 0 from rfl] at hw174_1)
        (try rw [show 0 * 5 = 0 from rfl] at hw174_1)
        (try rw [Addr.add_zero'] at hw174_1)
        have hw174_0 := hx174_0
        (try rw [show ((0 : Int)).toNat = 0 from rfl] at hw174_0)
        (try rw [show 0 * 5 = 0 from rfl] at hw174_0)
        (try rw [Addr.add_zero'] at hw174_0)
        obtain rfl : ad173 = ad174 := (by injection e174)
        have qi174 : (0 < l2.length) = True := eq_true (by omega)
        (try rw [show ((0 : Int)).toNat = 0 from rfl] at hx174_0)
        (try rw [show 0 * 5 = 0 from rfl] at hx174_0)
        (try rw [Addr.add_zero'] at hx174_0)
        (try rw [show ((0 : Int)).toNat = 0 from rfl] at hx174_1)
        (try rw [show 0 * 5 = 0 from rfl] at hx174_1)
        (try rw [Addr.add_zero'] at hx174_1)
        (try rw [show ((0 : Int)).toNat = 0 from rfl] at hx174_2)
        (try rw [show 0 * 5 = 0 from rfl] at hx174_2)
        (try rw [Addr.add_zero'] at hx174_2)
        (try rw [show ((0 : Int)).toNat = 0 from rfl] at hx174_3)
        (try rw [show 0 * 5 = 0 from rfl] at hx174_3)
        (try rw [Addr.add_zero'] at hx174_3)
        (try rw [show ((0 : Int)).toNat = 0 from rfl] at hx174_4)
        (try rw [show 0 * 5 = 0 from rfl] at hx174_4)
        (try rw [Addr.add_zero'] at hx174_4)
        replace hx174_0 := (HB.out.cell (World.block_lt_of_cell? w _ hx174_0)).trans hx174_0
        replace hx174_1 := (HB.out.cell (World.block_lt_of_cell? w _ hx174_1)).trans hx174_1
        replace hx174_2 := (HB.out.cell (World.block_lt_of_cell? w _ hx174_2)).trans hx174_2
        replace hx174_3 := (HB.out.cell (World.block_lt_of_cell? w _ hx174_3)).trans hx174_3
        replace hx174_4 := (HB.out.cell (World.block_lt_of_cell? w _ hx174_4)).trans hx174_4
        replace p174 := eq_true p174
        replace q174 := eq_true q174
        refine start_ (n := 11) (S := fun w' => w'.cell? ad173 = some (.int .i64 ((rd_T51 l2 0).f0)) ∧ w'.cell? ⟨ad173.block, ad173.off + 1, none⟩ = some (.int .i64 ((rd_T51 l2 0).f1)) ∧ w'.cell? ⟨ad173.block, ad173.off + 2, none⟩ = some (.int .i64 ((rd_T51 l2 0).f2)) ∧ w'.cell? ⟨ad173.block, ad173.off + 3, none⟩ = some (.int .i64 ((rd_T51 l2 0).f3)) ∧ w'.cell? ⟨ad173.block, ad173.off + 4, none⟩ = some (.int .i64 ((rd_T51 l2 0).f4)) ∧ w'.cell? ad173 = some (.int .i64 ((rd_T51 l2 0).f0)) ∧ w'.cell? ⟨ad173.block, ad173.off + 1, none⟩ = some (.int .i64 ((rd_T51 l2 0).f1)) ∧ w'.cell? ⟨ad173.block, ad173.off + 2, none⟩ = some (.int .i64 ((rd_T51 l2 0).f2)) ∧ w'.cell? ⟨ad173.block, ad173.off + 3, none⟩ = some (.int .i64 ((rd_T51 l2 0).f3)) ∧ w'.cell? ⟨ad173.block, ad173.off + 4, none⟩ = some (.int .i64 ((rd_T51 l2 0).f4))) (ds := []) #[false,false,false,false,false,false,false,false,false,false,false] (by kernel_rfl) rfl rfl ⟨((HB.out.cell (World.block_lt_of_cell? w _ hw173_0)).trans hw173_0), ((HB.out.cell (World.block_lt_of_cell? w _ hw173_1)).trans hw173_1), ((HB.out.cell (World.block_lt_of_cell? w _ hw173_2)).trans hw173_2), ((HB.out.cell (World.block_lt_of_cell? w _ hw173_3)).trans hw173_3), ((HB.out.cell (World.block_lt_of_cell? w _ hw173_4)).trans hw173_4), ((HB.out.cell (World.block_lt_of_cell? w _ hw174_0)).trans hw174_0), ((HB.out.cell (World.block_lt_of_cell? w _ hw174_1)).trans hw174_1), ((HB.out.cell (World.block_lt_of_cell? w _ hw174_2)).trans hw174_2), ((HB.out.cell (World.block_lt_of_cell? w _ hw174_3)).trans hw174_3), ((HB.out.cell (World.block_lt_of_cell? w _ hw174_4)).trans hw174_4)⟩ (fun hHeld => ?_); refine with_tabW cellarref7_Get.tab17 cellarref7_Get.bits17 (fun HT_ HW_ => ?_)
        generalize wr.drew = w55 at BK168 BK169 HB hx173_0 hx173_1 hx173_2 hx173_3 hx173_4 hx174_0 hx174_1 hx174_2 hx174_3 hx174_4 hHeld ⊢
        refine pure_ (i := 0) (N := some 54) (v := ?_) (a' := ?_) #[true,false,false,false,false,false,false,false,false,false,false] rfl rfl (any_of HT_.out (by kernel_rfl)) (fun _ _ _ h => h) (Or.inl ⟨by rfl, ?_⟩) ?_ ?_
        rotate_left
        ·intro w'
         go_simp
         with_reducible rfl
        rotate_left
        ·simp only [Act.put, List.setIfInBounds_toArray, List.set_cons_zero, List.set_cons_succ, i64_w, i32_w]
         rfl
        refine pure_ (i := 1) (N := some 55) (v := ?_) (a' := ?_) #[true,true,false,false,false,false,false,false,false,false,false] rfl rfl (any_of HT_.out (by kernel_rfl)) (fun _ _ _ h => h) (Or.inl ⟨by rfl, ?_⟩) ?_ ?_
        rotate_left
        ·intro w'
         go_simp
         with_reducible rfl
        rotate_left
        ·simp only [Act.put, List.setIfInBounds_toArray, List.set_cons_zero, List.set_cons_succ, i64_w, i32_w]
         rfl
        refine pure_ (i := 2) (N := some 56) (v := ?_) (a' := ?_) #[true,true,true,false,false,false,false,false,false,false,false] rfl rfl (any_of HT_.out (by kernel_rfl)) (fun _ _ _ h => h) (Or.inl ⟨by rfl, ?_⟩) ?_ ?_
        rotate_left
        ·intro w'
         go_simp
         with_reducible rfl
        rotate_left
        ·simp only [Act.put, List.setIfInBounds_toArray, List.set_cons_zero, List.set_cons_succ, i64_w, i32_w]
         rfl
        refine pure_ (i := 4) (N := some 58) (v := ?_) (a' := ?_) #[true,true,true,false,true,false,false,false,false,false,false] rfl rfl (any_of HT_.out (by kernel_rfl)) (fun _ _ _ h => h) (Or.inl ⟨by rfl, ?_⟩) ?_ ?_
        rotate_left
        ·intro w'
         go_simp
         with_reducible rfl
        rotate_left
        ·simp only [Act.put, List.setIfInBounds_toArray, List.set_cons_zero, List.set_cons_succ, i64_w, i32_w]
         rfl
        refine pure_ (i := 5) (N := some 59) (v := ?_) (a' := ?_) #[true,true,true,false,true,true,false,false,false,false,false] rfl rfl (any_of HT_.out (by kernel_rfl)) (fun _ _ _ h => h) (Or.inl ⟨by rfl, ?_⟩) ?_ ?_
        rotate_left
        ·intro w'
         go_simp
         with_reducible rfl
        rotate_left
        ·simp only [Act.put, List.setIfInBounds_toArray, List.set_cons_zero, List.set_cons_succ, i64_w, i32_w]
         rfl
        refine pure_ (i := 6) (N := some 60) (v := ?_) (a' := ?_) #[true,true,true,false,true,true,true,false,false,false,false] rfl rfl (any_of HT_.out (by kernel_rfl)) (fun _ _ _ h => h) (Or.inl ⟨by rfl, ?_⟩) ?_ ?_
        rotate_left
        ·intro w'
         go_simp
         with_reducible rfl
        rotate_left
        ·simp only [Act.put, List.setIfInBounds_toArray, List.set_cons_zero, List.set_cons_succ, i64_w, i32_w]
         rfl
        refine take_ (i := 3) (N := some 57) (v := ?_) (a' := ?_) #[true,true,true,true,true,true,true,false,false,false,false] rfl rfl (take_ofW HT_.out HW_.out (by kernel_rfl)) (fun _ _ _ h => h) (Or.inl ⟨by rfl, ?_⟩) hHeld ?_ ?_
        rotate_left
        ·rintro w' ⟨s0, s1, s2, s3, s4, s5, s6, s7, s8, s9⟩
         go_simp
         with_reducible rfl
        rotate_left
        ·simp only [Act.put, List.setIfInBounds_toArray, List.set_cons_zero, List.set_cons_succ, i64_w, i32_w]
         rfl
        refine take_ (i := 7) (N := some 61) (v := ?_) (a' := ?_) #[true,true,true,true,true,true,true,true,false,false,false] rfl rfl (take_ofW HT_.out HW_.out (by kernel_rfl)) (fun _ _ _ h => h) (Or.inl ⟨by rfl, ?_⟩) hHeld ?_ ?_
        rotate_left
        ·rintro w' ⟨s0, s1, s2, s3, s4, s5, s6, s7, s8, s9⟩
         go_simp
         with_reducible rfl
        rotate_left
        ·simp only [Act.put, List.setIfInBounds_toArray, List.set_cons_zero, List.set_cons_succ, i64_w, i32_w]
         rfl
        refine pure_ (i := 8) (N := some 62) (v := ?_) (a' := ?_) #[true,true,true,true,true,true,true,true,true,false,false] rfl rfl (any_of HT_.out (by kernel_rfl)) (fun _ _ _ h => h) (Or.inl ⟨by rfl, ?_⟩) ?_ ?_
        rotate_left
        ·intro w'
         go_simp
         with_reducible rfl
        rotate_left
        ·simp only [Act.put, List.setIfInBounds_toArray, List.set_cons_zero, List.set_cons_succ, i64_w, i32_w]
         rfl
        refine one_ (i := 9) (N := some 11) #[true,true,true,true,true,true,true,true,true,true,false] rfl rfl (one_of HT_.out (by kernel_rfl)) (by decide) (fun K hK => ?_)
        refine box_step ?hg (N := 11) ?hd (cs := #[.bool false, .int .i64 0, .int .i64 0, .int .i64 0]) (t := 33) ?hr ?_; (case hd => rfl); (case hg => rfl); (case hr => first | (go_simp; done) | (go_simp; rfl))
        intro gb175 hg w56 hbox hb
        have n0_ := Aside0.mk (blk_below (g := gb168) (o := .cells #[.bool a0_0, .int .i64 a0_1] 38 (0, 0)) (zb BK168.out) hb)
        have n1_ := Aside0.mk (blk_below (g := gb169) (o := .cells #[.bool x170000_1, .int .i64 x170001_1, .int .i64 x170002_1, .int .i64 x170003_1] 33 (0, 0)) (zb BK169.out) hb)
        have n2_ := Aside0.mk (below_step (zw2 HB.out GE168.out GE169.out) hb)
        have n3_ := Aside0.mk (hbox)
        have n4_ := Aside0.mk ((by rw [hg]; exact (below_size (zw2 HB.out GE168.out GE169.out)) : w.heap.size ≤ gb175))
        have n5_ := Aside0.mk ((by rw [hg]; exact (below_size (zw2 HB.out GE168.out GE169.out)) : w.heap.size ≤ gb175))
        have n6_ := Aside0.mk ((by rw [hg]; exact Nat.ne_of_lt (blk_lt (g := gb168) (o := .cells #[.bool a0_0, .int .i64 a0_1] 38 (0, 0)) (zb BK168.out)) : gb168 ≠ gb175))
        have n7_ := Aside0.mk ((by rw [hg]; exact Nat.ne_of_gt (blk_lt (g := gb168) (o := .cells #[.bool a0_0, .int .i64 a0_1] 38 (0, 0)) (zb BK168.out)) : gb175 ≠ gb168))
        have n8_ := Aside0.mk ((by rw [hg]; exact Nat.ne_of_lt (blk_lt (g := gb169) (o := .cells #[.bool x170000_1, .int .i64 x170001_1, .int .i64 x170002_1, .int .i64 x170003_1] 33 (0, 0)) (zb BK169.out)) : gb169 ≠ gb175))
        have n9_ := Aside0.mk ((by rw [hg]; exact Nat.ne_of_gt (blk_lt (g := gb169) (o := .cells #[.bool x170000_1, .int .i64 x170001_1, .int .i64 x170002_1, .int .i64 x170003_1] 33 (0, 0)) (zb BK169.out)) : gb175 ≠ gb169))
        clear BK168
        clear BK169
        clear HB
        have BK168 := n0_
        have BK169 := n1_
        have HB := n2_
        have BK175 := n3_
        have GW175 := n4_
        have GE175 := n5_
        have NB168_175 := n6_
        have NB175_168 := n7_
        have NB169_175 := n8_
        have NB175_169 := n9_
        clear n0_ n1_ n2_ n3_ n4_ n5_ n6_ n7_ n8_ n9_
        clear hb hbox hg
        refine hK.out _ _ ⟨((HB.out.cell (World.block_lt_of_cell? w _ hw173_0)).trans hw173_0), ((HB.out.cell (World.block_lt_of_cell? w _ hw173_1)).trans hw173_1), ((HB.out.cell (World.block_lt_of_cell? w _ hw173_2)).trans hw173_2), ((HB.out.cell (World.block_lt_of_cell? w _ hw173_3)).trans hw173_3), ((HB.out.cell (World.block_lt_of_cell? w _ hw173_4)).trans hw173_4), ((HB.out.cell (World.block_lt_of_cell? w _ hw174_0)).trans hw174_0), ((HB.out.cell (World.block_lt_of_cell? w _ hw174_1)).trans hw174_1), ((HB.out.cell (World.block_lt_of_cell? w _ hw174_2)).trans hw174_2), ((HB.out.cell (World.block_lt_of_cell? w _ hw174_3)).trans hw174_3), ((HB.out.cell (World.block_lt_of_cell? w _ hw174_4)).trans hw174_4)⟩ (fun hHeld => ?_)
        clear hK K
        refine norm_ (a' := ?_) ?_ ?_
        rotate_left
        ·show Act.put _ (some 11) _ = _
         simp only [Act.put, List.setIfInBounds_toArray, List.set_cons_zero, List.set_cons_succ, i64_w, i32_w]
         rfl
        refine one_ (i := 10) (N := none) #[true,true,true,true,true,true,true,true,true,true,true] rfl rfl (one_of HT_.out (by kernel_rfl)) (by decide) (fun K hK => ?_)
        have hs57 : w56.cell? ⟨gb175, 0, none⟩ = some (.bool false) := (blk_cell BK175.out 0).trans rfl
        have hfs57 := blk_frozen BK175.out 0
        have hns57_0 := NB168_175.out
        have hns57_1 := NB169_175.out
        have hms57_0 := NB175_168.out
        have hms57_1 := NB175_169.out
        have hs58 : w56.cell? ⟨gb175, 1, none⟩ = some (.int .i64 0) := (blk_cell BK175.out 1).trans rfl
        have hfs58 := blk_frozen BK175.out 1
        have hns58_0 := NB168_175.out
        have hns58_1 := NB169_175.out
        have hms58_0 := NB175_168.out
        have hms58_1 := NB175_169.out
        have hs59 : w56.cell? ⟨gb175, 2, none⟩ = some (.int .i64 0) := (blk_cell BK175.out 2).trans rfl
        have hfs59 := blk_frozen BK175.out 2
        have hns59_0 := NB168_175.out
        have hns59_1 := NB169_175.out
        have hms59_0 := NB175_168.out
        have hms59_1 := NB175_169.out
        have hs60 : w56.cell? ⟨gb175, 3, none⟩ = some (.int .i64 0) := (blk_cell BK175.out 3).trans rfl
        have hfs60 := blk_frozen BK175.out 3
        have hns60_0 := NB168_175.out
        have hns60_1 := NB169_175.out
        have hms60_0 := NB175_168.out
        have hms60_1 := NB175_169.out
        refine skip_ (w1 := ?_) (by rfl) rfl ?_ ?_
        rotate_left
        ·go_simp
         rfl
        refine hK.out _ _ ⟨((cell_far (p := ⟨gb175, _, none⟩) (zx (zfar hw173_0 GW175.out)) _).trans (((cell_far (p := ⟨gb175, _, none⟩) (zx (zfar hw173_0 GW175.out)) _).trans (((cell_far (p := ⟨gb175, _, none⟩) (zx (zfar hw173_0 GW175.out)) _).trans (((cell_far (p := ⟨gb175, _, none⟩) (zx (zfar hw173_0 GW175.out)) _).trans (hHeld.1)))))))), ((cell_far (p := ⟨gb175, _, none⟩) (zx (zfar hw173_1 GW175.out)) _).trans (((cell_far (p := ⟨gb175, _, none⟩) (zx (zfar hw173_1 GW175.out)) _).trans (((cell_far (p := ⟨gb175, _, none⟩) (zx (zfar hw173_1 GW175.out)) _).trans (((cell_far (p := ⟨gb175, _, none⟩) (zx (zfar hw173_1 GW175.out)) _).trans (hHeld.2.1)))))))), ((cell_far (p := ⟨gb175, _, none⟩) (zx (zfar hw173_2 GW175.out)) _).trans (((cell_far (p := ⟨gb175, _, none⟩) (zx (zfar hw173_2 GW175.out)) _).trans (((cell_far (p := ⟨gb175, _, none⟩) (zx (zfar hw173_2 GW175.out)) _).trans (((cell_far (p := ⟨gb175, _, none⟩) (zx (zfar hw173_2 GW175.out)) _).trans (hHeld.2.2.1)))))))), ((cell_far (p := ⟨gb175, _, none⟩) (zx (zfar hw173_3 GW175.out)) _).trans (((cell_far (p := ⟨gb175, _, none⟩) (zx (zfar hw173_3 GW175.out)) _).trans (((cell_far (p := ⟨gb175, _, none⟩) (zx (zfar hw173_3 GW175.out)) _).trans (((cell_far (p := ⟨gb175, _, none⟩) (zx (zfar hw173_3 GW175.out)) _).trans (hHeld.2.2.2.1)))))))), ((cell_far (p := ⟨gb175, _, none⟩) (zx (zfar hw173_4 GW175.out)) _).trans (((cell_far (p := ⟨gb175, _, none⟩) (zx (zfar hw173_4 GW175.out)) _).trans (((cell_far (p := ⟨gb175, _, none⟩) (zx (zfar hw173_4 GW175.out)) _).trans (((cell_far (p := ⟨gb175, _, none⟩) (zx (zfar hw173_4 GW175.out)) _).trans (hHeld.2.2.2.2.1)))))))), ((cell_far (p := ⟨gb175, _, none⟩) (zx (zfar hw174_0 GW175.out)) _).trans (((cell_far (p := ⟨gb175, _, none⟩) (zx (zfar hw174_0 GW175.out)) _).trans (((cell_far (p := ⟨gb175, _, none⟩) (zx (zfar hw174_0 GW175.out)) _).trans (((cell_far (p := ⟨gb175, _, none⟩) (zx (zfar hw174_0 GW175.out)) _).trans (hHeld.2.2.2.2.2.1)))))))), ((cell_far (p := ⟨gb175, _, none⟩) (zx (zfar hw174_1 GW175.out)) _).trans (((cell_far (p := ⟨gb175, _, none⟩) (zx (zfar hw174_1 GW175.out)) _).trans (((cell_far (p := ⟨gb175, _, none⟩) (zx (zfar hw174_1 GW175.out)) _).trans (((cell_far (p := ⟨gb175, _, none⟩) (zx (zfar hw174_1 GW175.out)) _).trans (hHeld.2.2.2.2.2.2.1)))))))), ((cell_far (p := ⟨gb175, _, none⟩) (zx (zfar hw174_2 GW175.out)) _).trans (((cell_far (p := ⟨gb175, _, none⟩) (zx (zfar hw174_2 GW175.out)) _).trans (((cell_far (p := ⟨gb175, _, none⟩) (zx (zfar hw174_2 GW175.out)) _).trans (((cell_far (p := ⟨gb175, _, none⟩) (zx (zfar hw174_2 GW175.out)) _).trans (hHeld.2.2.2.2.2.2.2.1)))))))), ((cell_far (p := ⟨gb175, _, none⟩) (zx (zfar hw174_3 GW175.out)) _).trans (((cell_far (p := ⟨gb175, _, none⟩) (zx (zfar hw174_3 GW175.out)) _).trans (((cell_far (p := ⟨gb175, _, none⟩) (zx (zfar hw174_3 GW175.out)) _).trans (((cell_far (p := ⟨gb175, _, none⟩) (zx (zfar hw174_3 GW175.out)) _).trans (hHeld.2.2.2.2.2.2.2.2.1)))))))), ((cell_far (p := ⟨gb175, _, none⟩) (zx (zfar hw174_4 GW175.out)) _).trans (((cell_far (p := ⟨gb175, _, none⟩) (zx (zfar hw174_4 GW175.out)) _).trans (((cell_far (p := ⟨gb175, _, none⟩) (zx (zfar hw174_4 GW175.out)) _).trans (((cell_far (p := ⟨gb175, _, none⟩) (zx (zfar hw174_4 GW175.out)) _).trans (hHeld.2.2.2.2.2.2.2.2.2))))))))⟩ (fun hHeld => ?_)
        clear hK K
        refine done_ (done_of HT_.out (by kernel_rfl)) ?_
        have p176 : 0 ≤ (0 : Int) := (by omega)
        have q176 : 0 < (l2.length : Int) := zdec
        obtain ⟨ad176, e176, hx176_0, hx176_1, hx176_2, hx176_3, hx176_4⟩ := at_T51 HR2.out 0 p176 q176
        obtain rfl : ad173 = ad176 := (by injection e176)
        have qi176 : (0 < l2.length) = True := eq_true (by omega)
        (try rw [show ((0 : Int)).toNat = 0 from rfl] at hx176_0)
        (try rw [show 0 * 5 = 0 from rfl] at hx176_0)
        (try rw [Addr.add_zero'] at hx176_0)
        (try rw [show ((0 : Int)).toNat = 0 from rfl] at hx176_1)
        (try rw [show 0 * 5 = 0 from rfl] at hx176_1)
        (try rw [Addr.add_zero'] at hx176_1)
        (try rw [show ((0 : Int)).toNat = 0 from rfl] at hx176_2)
        (try rw [show 0 * 5 = 0 from rfl] at hx176_2)
        (try rw [Addr.add_zero'] at hx176_2)
        (try rw [show ((0 : Int)).toNat = 0 from rfl] at hx176_3)
        (try rw [show 0 * 5 = 0 from rfl] at hx176_3)
        (try rw [Addr.add_zero'] at hx176_3)
        (try rw [show ((0 : Int)).toNat = 0 from rfl] at hx176_4)
        (try rw [show 0 * 5 = 0 from rfl] at hx176_4)
        (try rw [Addr.add_zero'] at hx176_4)
        have hn176_0 : ad173.block ≠ gb175 := zx (zfar hx176_0 GW175.out)
        have hn176_1 : ad173.block ≠ gb175 := zx (zfar hx176_0 GW175.out)
        have hn176_2 : ad173.block ≠ gb175 := zx (zfar hx176_0 GW175.out)
        have hn176_3 : ad173.block ≠ gb175 := zx (zfar hx176_0 GW175.out)
        replace hx176_0 := (HB.out.cell (World.block_lt_of_cell? w _ hx176_0)).trans hx176_0
        replace hx176_1 := (HB.out.cell (World.block_lt_of_cell? w _ hx176_1)).trans hx176_1
        replace hx176_2 := (HB.out.cell (World.block_lt_of_cell? w _ hx176_2)).trans hx176_2
        replace hx176_3 := (HB.out.cell (World.block_lt_of_cell? w _ hx176_3)).trans hx176_3
        replace hx176_4 := (HB.out.cell (World.block_lt_of_cell? w _ hx176_4)).trans hx176_4
        replace hx176_0 := (cell_far (p := ⟨gb175, 0, none⟩) (zy hn176_0) (.bool true)).trans hx176_0
        replace hx176_1 := (cell_far (p := ⟨gb175, 0, none⟩) (zy hn176_0) (.bool true)).trans hx176_1
        replace hx176_2 := (cell_far (p := ⟨gb175, 0, none⟩) (zy hn176_0) (.bool true)).trans hx176_2
        replace hx176_3 := (cell_far (p := ⟨gb175, 0, none⟩) (zy hn176_0) (.bool true)).trans hx176_3
        replace hx176_4 := (cell_far (p := ⟨gb175, 0, none⟩) (zy hn176_0) (.bool true)).trans hx176_4
        replace hx176_0 := (cell_far (p := ⟨gb175, 1, none⟩) (zy hn176_1) (.int .i64 0)).trans hx176_0
        replace hx176_1 := (cell_far (p := ⟨gb175, 1, none⟩) (zy hn176_1) (.int .i64 0)).trans hx176_1
        replace hx176_2 := (cell_far (p := ⟨gb175, 1, none⟩) (zy hn176_1) (.int .i64 0)).trans hx176_2
        replace hx176_3 := (cell_far (p := ⟨gb175, 1, none⟩) (zy hn176_1) (.int .i64 0)).trans hx176_3
        replace hx176_4 := (cell_far (p := ⟨gb175, 1, none⟩) (zy hn176_1) (.int .i64 0)).trans hx176_4
        replace hx176_0 := (cell_far (p := ⟨gb175, 2, none⟩) (zy hn176_2) (.int .i64 ((rd_T51 l2 0).f2))).trans hx176_0
        replace hx176_1 := (cell_far (p := ⟨gb175, 2, none⟩) (zy hn176_2) (.int .i64 ((rd_T51 l2 0).f2))).trans hx176_1
        replace hx176_2 := (cell_far (p := ⟨gb175, 2, none⟩) (zy hn176_2) (.int .i64 ((rd_T51 l2 0).f2))).trans hx176_2
        replace hx176_3 := (cell_far (p := ⟨gb175, 2, none⟩) (zy hn176_2) (.int .i64 ((rd_T51 l2 0).f2))).trans hx176_3
        replace hx176_4 := (cell_far (p := ⟨gb175, 2, none⟩) (zy hn176_2) (.int .i64 ((rd_T51 l2 0).f2))).trans hx176_4
        replace hx176_0 := (cell_far (p := ⟨gb175, 3, none⟩) (zy hn176_3) (.int .i64 ((rd_T51 l2 0).f3))).trans hx176_0
        replace hx176_1 := (cell_far (p := ⟨gb175, 3, none⟩) (zy hn176_3) (.int .i64 ((rd_T51 l2 0).f3))).trans hx176_1
        replace hx176_2 := (cell_far (p := ⟨gb175, 3, none⟩) (zy hn176_3) (.int .i64 ((rd_T51 l2 0).f3))).trans hx176_2
        replace hx176_3 := (cell_far (p := ⟨gb175, 3, none⟩) (zy hn176_3) (.int .i64 ((rd_T51 l2 0).f3))).trans hx176_3
        replace hx176_4 := (cell_far (p := ⟨gb175, 3, none⟩) (zy hn176_3) (.int .i64 ((rd_T51 l2 0).f3))).trans hx176_4
        clear hn176_0
        clear hn176_1
        clear hn176_2
        clear hn176_3
        replace p176 := eq_true p176
        replace q176 := eq_true q176
        have hnb61 := NB169_168.out
        have hnc61 := NB168_169.out
        have hnb62 := NB169_175.out
        have hnc62 := NB175_169.out
        have hcz63_0 : w56.cell? ⟨gb169, 0, none⟩ = some (.bool x170000_1) := (blk_cell BK169.out 0).trans rfl
        have hcz63_1 : w56.cell? ⟨gb169, 1, none⟩ = some (.int .i64 x170001_1) := (blk_cell BK169.out 1).trans rfl
        have hcz63_2 : w56.cell? ⟨gb169, 2, none⟩ = some (.int .i64 x170002_1) := (blk_cell BK169.out 2).trans rfl
        have hcz63_3 : w56.cell? ⟨gb169, 3, none⟩ = some (.int .i64 x170003_1) := (blk_cell BK169.out 3).trans rfl
        have hfz63_0 := blk_frozen BK169.out 0
        have hfz63_1 := blk_frozen BK169.out 1
        have hfz63_2 := blk_frozen BK169.out 2
        have hfz63_3 := blk_frozen BK169.out 3
        try go_wp2
        refine bodyPost_ret (results_ct rfl _ _ gb169 33 #[.bool false, .int .i64 0, .int .i64 0, .int .i64 0] (0, 0) _ rfl (by (with_reducible repeat (first | refine blk_drewN ?_ _ | refine blk_drew ?_ | refine blk_alloc ?_ _)); refine blk_put (cs := #[.bool false, .int .i64 0, .int .i64 0, .int .i64 x170003_1]) ?_ 3 _ rfl; (with_reducible repeat (first | refine blk_drewN ?_ _ | refine blk_drew ?_ | refine blk_alloc ?_ _)); refine blk_put (cs := #[.bool false, .int .i64 0, .int .i64 x170002_1, .int .i64 x170003_1]) ?_ 2 _ rfl; (with_reducible repeat (first | refine blk_drewN ?_ _ | refine blk_drew ?_ | refine blk_alloc ?_ _)); refine blk_put (cs := #[.bool false, .int .i64 x170001_1, .int .i64 x170002_1, .int .i64 x170003_1]) ?_ 1 _ rfl; (with_reducible repeat (first | refine blk_drewN ?_ _ | refine blk_drew ?_ | refine blk_alloc ?_ _)); refine blk_put (cs := #[.bool x170000_1, .int .i64 x170001_1, .int .i64 x170002_1, .int .i64 x170003_1]) ?_ 0 _ rfl; (with_reducible repeat (first | refine blk_drewN ?_ _ | refine blk_drew ?_ | refine blk_alloc ?_ _)); refine blk_far ?_ NB169_175.out _; (with_reducible repeat (first | refine blk_drewN ?_ _ | refine blk_drew ?_ | refine blk_alloc ?_ _)); refine blk_far ?_ NB169_175.out _; (with_reducible repeat (first | refine blk_drewN ?_ _ | refine blk_drew ?_ | refine blk_alloc ?_ _)); refine blk_far ?_ NB169_175.out _; (with_reducible repeat (first | refine blk_drewN ?_ _ | refine blk_drew ?_ | refine blk_alloc ?_ _)); refine blk_far ?_ NB169_175.out _; (with_reducible repeat (first | refine blk_drewN ?_ _ | refine blk_drew ?_ | refine blk_alloc ?_ _)); exact BK169.out) Try.underlying33 rfl (by kernel_rfl)) rfl ?_
        exact ⟨by first | rfl | (simp [errW_none, errW_some] <;> rfl) | (simp [*, errW_none, errW_some] <;> rfl), zw3 HB.out GE168.out GE169.out GE175.out⟩
      ·rw [if_neg c21] at H
       exact absurd H (by simp)
    ·rw [if_neg c12] at H
     have c12b0 : (a1 == 7) = false := beq_eq_false_iff_ne.mpr c12
     have c12b1 : (a1 != 7) = true := bne_iff_ne.mpr c12
     by_cases c64 : x8_1 > 0
     ·rw [if_pos c64] at H
      have c64b0 : decide (0 < x8_1) = true := decide_eq_true c64
      clear c64
      simp only [Option.some.injEq, Prod.mk.injEq] at H
      obtain ⟨rfl, rfl, rfl, rfl, rfl⟩ := H
      have hnb65 := NB169_168.out
      have hnc65 := NB168_169.out
      have hcz66_0 : wr.cell? ⟨gb169, 0, none⟩ = some (.bool x170000_1) := (blk_cell BK169.out 0).trans rfl
      have hcz66_1 : wr.cell? ⟨gb169, 1, none⟩ = some (.int .i64 x170001_1) := (blk_cell BK169.out 1).trans rfl
      have hcz66_2 : wr.cell? ⟨gb169, 2, none⟩ = some (.int .i64 x170002_1) := (blk_cell BK169.out 2).trans rfl
      have hcz66_3 : wr.cell? ⟨gb169, 3, none⟩ = some (.int .i64 x170003_1) := (blk_cell BK169.out 3).trans rfl
      have hfz66_0 := blk_frozen BK169.out 0
      have hfz66_1 := blk_frozen BK169.out 1
      have hfz66_2 := blk_frozen BK169.out 2
      have hfz66_3 := blk_frozen BK169.out 3
      go_wp2
      refine bodyPost_ret (results_ct rfl _ _ gb169 33 #[.bool false, .int .i64 0, .int .i64 0, .int .i64 0] (0, 0) _ rfl (by (with_reducible repeat (first | refine blk_drewN ?_ _ | refine blk_drew ?_ | refine blk_alloc ?_ _)); refine blk_put (cs := #[.bool false, .int .i64 0, .int .i64 0, .int .i64 x170003_1]) ?_ 3 _ rfl; (with_reducible repeat (first | refine blk_drewN ?_ _ | refine blk_drew ?_ | refine blk_alloc ?_ _)); refine blk_put (cs := #[.bool false, .int .i64 0, .int .i64 x170002_1, .int .i64 x170003_1]) ?_ 2 _ rfl; (with_reducible repeat (first | refine blk_drewN ?_ _ | refine blk_drew ?_ | refine blk_alloc ?_ _)); refine blk_put (cs := #[.bool false, .int .i64 x170001_1, .int .i64 x170002_1, .int .i64 x170003_1]) ?_ 1 _ rfl; (with_reducible repeat (first | refine blk_drewN ?_ _ | refine blk_drew ?_ | refine blk_alloc ?_ _)); refine blk_put (cs := #[.bool x170000_1, .int .i64 x170001_1, .int .i64 x170002_1, .int .i64 x170003_1]) ?_ 0 _ rfl; (with_reducible repeat (first | refine blk_drewN ?_ _ | refine blk_drew ?_ | refine blk_alloc ?_ _)); exact BK169.out) Try.underlying33 rfl (by kernel_rfl)) rfl ?_
      exact ⟨by first | rfl | (simp [errW_none, errW_some] <;> rfl) | (simp [*, errW_none, errW_some] <;> rfl), zw2 HB.out GE168.out GE169.out⟩
     ·rw [if_neg c64] at H
      have c64b0 : decide (0 < x8_1) = false := decide_eq_false c64
      clear c64
      have H' := Aside0.mk H
      clear H
      go_wp2
      go_loopg [12, 13] k1 (fun kq v12 v13 w' => ∃ (x12_2 : Int) (x13_2 : Int), v12 = .int .i64 x12_2 ∧ v13 = .int .i64 x13_2 ∧ Aside0 (cellarref7_Get.l2 kq l2 x12_2 x13_2 a0_0 a0_1 = some (r1, r2, r3, r4, r5)) ∧ Aside0 (kq ≤ k1) ∧ Aside0 (w'.heap[gb168]? = some (.cells #[.bool a0_0, .int .i64 a0_1] 38 (0, 0))) ∧ Aside0 (w'.heap[gb169]? = some (.cells #[.bool x170000_1, .int .i64 x170001_1, .int .i64 x170002_1, .int .i64 x170003_1] 33 (0, 0))) ∧ Aside0 (Below w.heap.size w w'))
      case atStart => exact ⟨(0), (0), (by first | rfl | (simp; done) | (simp [*]; done)), (by first | rfl | (simp; done) | (simp [*]; done)), H', ⟨Nat.le_refl _⟩, ⟨zb BK168.out⟩, ⟨zb BK169.out⟩, ⟨zw2 HB.out GE168.out GE169.out⟩⟩
      case round =>
       clear H'
       try clear c1
       try clear p1
       try clear q1
       try clear hx1
       try clear qi1
       try clear c2
       try clear p2
       try clear c4
       try clear c5
       try clear c6
       try clear c12
       try clear c12b0
       try clear c12b1
       try clear p17
       try clear q17
       try clear hx17
       try clear qi17
       try clear c21
       try clear c22
       try clear c22b0
       try clear c22b1
       try clear c47
       try clear c48
       try clear c50
       try clear c61
       try clear c62
       try clear c64
       try clear c64b0
       try clear c65
       try clear hcz49_0
       try clear hcz49_1
       try clear hcz51_0
       try clear hcz51_1
       try clear hcz51_2
       try clear hcz51_3
       try clear hcz54_0
       try clear hcz54_1
       try clear hcz54_2
       try clear hcz54_3
       try clear hcz63_0
       try clear hcz63_1
       try clear hcz63_2
       try clear hcz63_3
       try clear hcz66_0
       try clear hcz66_1
       try clear hcz66_2
       try clear hcz66_3
       try clear hfz49_0
       try clear hfz49_1
       try clear hfz51_0
       try clear hfz51_1
       try clear hfz51_2
       try clear hfz51_3
       try clear hfz54_0
       try clear hfz54_1
       try clear hfz54_2
       try clear hfz54_3
       try clear hfz63_0
       try clear hfz63_1
       try clear hfz63_2
       try clear hfz63_3
       try clear hfz66_0
       try clear hfz66_1
       try clear hfz66_2
       try clear hfz66_3
       try clear hx173_0
       try clear hx173_1
       try clear hx173_2
       try clear hx173_3
       try clear hx173_4
       try clear hx174_0
       try clear hx174_1
       try clear hx174_2
       try clear hx174_3
       try clear hx174_4
       try clear hx176_0
       try clear hx176_1
       try clear hx176_2
       try clear hx176_3
       try clear hx176_4
       try clear p173
       try clear p174
       try clear p176
       try clear q173
       try clear q174
       try clear q176
       obtain ⟨x12_2, x13_2, rfl, rfl, HA, HK2, BK168, BK169, HB⟩ := hrel
       cases gk with
       | zero => exact absurd HA.out (by simp [cellarref7_Get.l2])
       | succ k2 =>
        have H := HA.out
        clear HA
        simp only [cellarref7_Get.l2] at H
        by_cases c67 : x13_2 < (l2.length : Int)
        ·rw [if_pos c67] at H
         have c67b0 : decide (x13_2 < (l2.length : Int)) = true := decide_eq_true c67
         clear c67
         by_cases c68 : a0_0 = true
         ·subst c68
          have H1 : (if 0 ≤ x13_2 then (cellarref7_Get.l2 k2 l2 (Go.bits .or .i64 (wrap64 (x12_2 * 256)) ((rd_T51 l2 x13_2).f1)) (wrap64 (x13_2 + 1)) true a0_1) else (none)) = some (r1, r2, r3, r4, r5) := by rw [if_pos rfl] at H; exact H
          clear H
          have H := H1
          clear H1
          by_cases c69 : 0 ≤ x13_2
          ·rw [if_pos c69] at H
           have c69b0 : decide (0 ≤ x13_2) = true := decide_eq_true c69
           clear c69
           have H' := Aside0.mk H
           clear H
           have hnb70 := NB168_169.out
           have hnc70 := NB169_168.out
           have hcz71_0 : wr.cell? ⟨gb168, 0, none⟩ = some (.bool true) := (blk_cell BK168.out 0).trans rfl
           have hcz71_1 : wr.cell? ⟨gb168, 1, none⟩ = some (.int .i64 a0_1) := (blk_cell BK168.out 1).trans rfl
           have hfz71_0 := blk_frozen BK168.out 0
           have hfz71_1 := blk_frozen BK168.out 1
           have p181 : 0 ≤ (x13_2 : Int) := zdec
           have q181 : x13_2 < (l2.length : Int) := zdec
           obtain ⟨ad181, e181, hx181_0, hx181_1, hx181_2, hx181_3, hx181_4⟩ := at_T51 HR2.out x13_2 p181 q181
           cases e181
           replace hx181_0 := (HB.out.cell (World.block_lt_of_cell? w _ hx181_0)).trans hx181_0
           replace hx181_1 := (HB.out.cell (World.block_lt_of_cell? w _ hx181_1)).trans hx181_1
           replace hx181_2 := (HB.out.cell (World.block_lt_of_cell? w _ hx181_2)).trans hx181_2
           replace hx181_3 := (HB.out.cell (World.block_lt_of_cell? w _ hx181_3)).trans hx181_3
           replace hx181_4 := (HB.out.cell (World.block_lt_of_cell? w _ hx181_4)).trans hx181_4
           replace p181 := eq_true p181
           replace q181 := eq_true q181
           go_wp2
           go_roundg k2
           case measure => have := HK1.out; have := HK2.out; omega
           case rel => exact ⟨(Go.bits .or .i64 (wrap64 (x12_2 * 256)) ((rd_T51 l2 x13_2).f1)), (wrap64 (x13_2 + 1)), (by first | rfl | (simp; done) | (simp [*]; done)), (by first | rfl | (simp; done) | (simp [*]; done)), H', ⟨by have := HK1.out; have := HK2.out; omega⟩, ⟨zb BK168.out⟩, ⟨zb BK169.out⟩, ⟨zw2 HB.out GE168.out GE169.out⟩⟩
          ·rw [if_neg c69] at H
           exact absurd H (by simp)
         ·replace c68 := Bool.eq_false_iff.mpr c68
          subst c68
          have H1 : (if 0 ≤ (wrap64 ((wrap64 ((l2.length : Int) - 1)) - x13_2)) then (if (wrap64 ((wrap64 ((l2.length : Int) - 1)) - x13_2)) < (l2.length : Int) then (cellarref7_Get.l2 k2 l2 (Go.bits .or .i64 (wrap64 (x12_2 * 256)) ((rd_T51 l2 (wrap64 ((wrap64 ((l2.length : Int) - 1)) - x13_2))).f1)) (wrap64 (x13_2 + 1)) false a0_1) else (none)) else (none)) = some (r1, r2, r3, r4, r5) := by rw [if_neg (show ¬ (false = true) by decide)] at H; exact H
          clear H
          have H := H1
          clear H1
          obtain ⟨ji72, hji72⟩ : ∃ j_ : Int, (wrap64 ((wrap64 ((l2.length : Int) - 1)) - x13_2)) = j_ := ⟨_, rfl⟩
          replace H : (if 0 ≤ (ji72) then (if (ji72) < (l2.length : Int) then (cellarref7_Get.l2 k2 l2 (Go.bits .or .i64 (wrap64 (x12_2 * 256)) ((rd_T51 l2 (ji72)).f1)) (wrap64 (x13_2 + 1)) false a0_1) else (none)) else (none)) = some (r1, r2, r3, r4, r5) := by first | (rw [hji72] at H; exact H) | (simp only [hji72] at H ⊢; exact H)
          have hji72w : (IntKind.i64.wrap ((wrap64 ((l2.length : Int) - 1)) - x13_2)) = ji72 := (i64_w _).trans hji72
          by_cases c73 : 0 ≤ (ji72)
          ·rw [if_pos c73] at H
           have c73b0 : decide (0 ≤ (ji72)) = true := decide_eq_true c73
           clear c73
           by_cases c74 : (ji72) < (l2.length : Int)
           ·rw [if_pos c74] at H
            have c74b0 : decide ((ji72) < (l2.length : Int)) = true := decide_eq_true c74
            clear c74
            have H' := Aside0.mk H
            clear H
            have hnb75 := NB168_169.out
            have hnc75 := NB169_168.out
            have hcz76_0 : wr.cell? ⟨gb168, 0, none⟩ = some (.bool false) := (blk_cell BK168.out 0).trans rfl
            have hcz76_1 : wr.cell? ⟨gb168, 1, none⟩ = some (.int .i64 a0_1) := (blk_cell BK168.out 1).trans rfl
            have hfz76_0 := blk_frozen BK168.out 0
            have hfz76_1 := blk_frozen BK168.out 1
            have p182 : 0 ≤ ((ji72) : Int) := zdec
            have q182 : (ji72) < (l2.length : Int) := zdec
            obtain ⟨ad182, e182, hx182_0, hx182_1, hx182_2, hx182_3, hx182_4⟩ := at_T51 HR2.out (ji72) p182 q182
            cases e182
            replace hx182_0 := (HB.out.cell (World.block_lt_of_cell? w _ hx182_0)).trans hx182_0
            replace hx182_1 := (HB.out.cell (World.block_lt_of_cell? w _ hx182_1)).trans hx182_1
            replace hx182_2 := (HB.out.cell (World.block_lt_of_cell? w _ hx182_2)).trans hx182_2
            replace hx182_3 := (HB.out.cell (World.block_lt_of_cell? w _ hx182_3)).trans hx182_3
            replace hx182_4 := (HB.out.cell (World.block_lt_of_cell? w _ hx182_4)).trans hx182_4
            replace p182 := eq_true p182
            replace q182 := eq_true q182
            go_wp2
            go_roundg k2
            case measure => have := HK1.out; have := HK2.out; omega
            case rel => exact ⟨(Go.bits .or .i64 (wrap64 (x12_2 * 256)) ((rd_T51 l2 (ji72)).f1)), (wrap64 (x13_2 + 1)), (by first | rfl | (simp; done) | (simp only [← hji72] <;> (first | rfl | simp)) | (simp [*]; done)), (by first | rfl | (simp; done) | (simp [*]; done)), H', ⟨by have := HK1.out; have := HK2.out; omega⟩, ⟨zb BK168.out⟩, ⟨zb BK169.out⟩, ⟨zw2 HB.out GE168.out GE169.out⟩⟩
           ·rw [if_neg c74] at H
            exact absurd H (by simp)
          ·rw [if_neg c73] at H
           exact absurd H (by simp)
        ·rw [if_neg c67] at H
         have c67b0 : decide (x13_2 < (l2.length : Int)) = false := decide_eq_false c67
         clear c67
         simp only [Option.some.injEq, Prod.mk.injEq] at H
         obtain ⟨rfl, rfl, rfl, rfl, rfl⟩ := H
         have hnb77 := NB169_168.out
         have hnc77 := NB168_169.out
         have hcz78_0 : wr.cell? ⟨gb169, 0, none⟩ = some (.bool x170000_1) := (blk_cell BK169.out 0).trans rfl
         have hcz78_1 : wr.cell? ⟨gb169, 1, none⟩ = some (.int .i64 x170001_1) := (blk_cell BK169.out 1).trans rfl
         have hcz78_2 : wr.cell? ⟨gb169, 2, none⟩ = some (.int .i64 x170002_1) := (blk_cell BK169.out 2).trans rfl
         have hcz78_3 : wr.cell? ⟨gb169, 3, none⟩ = some (.int .i64 x170003_1) := (blk_cell BK169.out 3).trans rfl
         have hfz78_0 := blk_frozen BK169.out 0
         have hfz78_1 := blk_frozen BK169.out 1
         have hfz78_2 := blk_frozen BK169.out 2
         have hfz78_3 := blk_frozen BK169.out 3
         go_wp2
         refine bodyPost_ret (results_ct rfl _ _ gb169 33 #[.bool false, .int .i64 x12_2, .int .i64 0, .int .i64 0] (0, 0) _ rfl (by (with_reducible repeat (first | refine blk_drewN ?_ _ | refine blk_drew ?_ | refine blk_alloc ?_ _)); refine blk_put (cs := #[.bool false, .int .i64 x12_2, .int .i64 0, .int .i64 x170003_1]) ?_ 3 _ rfl; (with_reducible repeat (first | refine blk_drewN ?_ _ | refine blk_drew ?_ | refine blk_alloc ?_ _)); refine blk_put (cs := #[.bool false, .int .i64 x12_2, .int .i64 x170002_1, .int .i64 x170003_1]) ?_ 2 _ rfl; (with_reducible repeat (first | refine blk_drewN ?_ _ | refine blk_drew ?_ | refine blk_alloc ?_ _)); refine blk_put (cs := #[.bool false, .int .i64 x170001_1, .int .i64 x170002_1, .int .i64 x170003_1]) ?_ 1 _ rfl; (with_reducible repeat (first | refine blk_drewN ?_ _ | refine blk_drew ?_ | refine blk_alloc ?_ _)); refine blk_put (cs := #[.bool x170000_1, .int .i64 x170001_1, .int .i64 x170002_1, .int .i64 x170003_1]) ?_ 0 _ rfl; (with_reducible repeat (first | refine blk_drewN ?_ _ | refine blk_drew ?_ | refine blk_alloc ?_ _)); exact BK169.out) Try.underlying33 rfl (by kernel_rfl)) rfl ?_
         exact ⟨by first | rfl | (simp [errW_none, errW_some] <;> rfl) | (simp [*, errW_none, errW_some] <;> rfl), zw2 HB.out GE168.out GE169.out⟩

end Go.Proofs.Ythhdmanpjeminaa.D
