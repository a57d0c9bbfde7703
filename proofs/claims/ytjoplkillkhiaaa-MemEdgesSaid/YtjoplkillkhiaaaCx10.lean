-- Written by this session's own edition of the print.
import Derived.Test.YtjoplkillkhiaaaCx0
import Derived.Test.YtjoplkillkhiaaaCx9
import Derived.Test.YtjoplkillkhiaaaSq
namespace Go.Proofs.Ytjoplkillkhiaaa.C
open Go.RowKit Go.Proofs.Ytjoplkillkhiaaa.Fn Go.Proofs.YtjoplkillkhiaaaW.PrintWords Go.Proofs.YtjoplkillkhiaaaW.PrintLast Go.Proofs.YtjoplkillkhiaaaW.PrintMore
attribute [local go_sem] max2_int min2_int max_two min_two max_three min_three max_four min_four   -- for this text's walks alone
set_option linter.unusedVariables false
set_option linter.unusedSimpArgs false

/-! ### cellarref7_Get: function 76 -/
mutual
def cellarref7_Get.l0 : Nat → Int → List (S74) → Int → Int → Bool → Int → Option (Bool × Int × Int × Int × Int)
 | 0, _, _, _, _, _, _ => none
 | k + 1, x1, x2, x8, x9, x240000, x240001 => if x9 < (x2.length : Int) then (if 0 ≤ x9 then (if ((rd_T74 x2 x9).f0) = 0 then (some (false, 0, 0, 0, 7)) else (if ((rd_T74 x2 x9).f0) = 2 then (cellarref7_Get.l0 k x1 x2 (wrap64 (x8 + 1)) (wrap64 (x9 + 1)) x240000 x240001) else (cellarref7_Get.l0 k x1 x2 x8 (wrap64 (x9 + 1)) x240000 x240001))) else (none)) else (if x1 = 7 then (if x8 = 0 then (cellarref7_Get.l1 k x2 0) else (if 0 < (x2.length : Int) then (if ((rd_T74 x2 0).f0) = 2 then ((cellarref7_Put.f k x240000 x240001 x1 true 0 ((rd_T74 x2 0).f2) ((rd_T74 x2 0).f3)).bind fun t248 => ((cellarref0_EqBytes.f k t248 x2).bind fun t251 => (if t251 = true then (some (true, 0, (rd_T74 x2 0).f2, (rd_T74 x2 0).f3, 0)) else (some (false, 0, 0, 0, 8))))) else (some (false, 0, 0, 0, 8))) else (none))) else (if x8 > 0 then (some (false, 0, 0, 0, 8)) else (cellarref7_Get.l2 k x2 0 0 x240000 x240001)))
def cellarref7_Get.l1 : Nat → List (S74) → Int → Option (Bool × Int × Int × Int × Int)
 | 0, _, _ => none
 | k + 1, x2, x10 => if x10 < (x2.length : Int) then (if 0 ≤ x10 then (if ((rd_T74 x2 x10).f1) = 0 then (cellarref7_Get.l1 k x2 (wrap64 (x10 + 1))) else (some (false, 0, 0, 0, 8))) else (none)) else (some (true, 0, 0, 0, 0))
def cellarref7_Get.l2 : Nat → List (S74) → Int → Int → Bool → Int → Option (Bool × Int × Int × Int × Int)
 | 0, _, _, _, _, _ => none
 | k + 1, x2, x12, x13, x240000, x240001 => if x13 < (x2.length : Int) then (if x240000 = true then (if 0 ≤ x13 then (cellarref7_Get.l2 k x2 (Go.bits .or .i64 (wrap64 (x12 * 256)) ((rd_T74 x2 x13).f1)) (wrap64 (x13 + 1)) x240000 x240001) else (none)) else (if 0 ≤ (wrap64 ((wrap64 ((x2.length : Int) - 1)) - x13)) then (if (wrap64 ((wrap64 ((x2.length : Int) - 1)) - x13)) < (x2.length : Int) then (cellarref7_Get.l2 k x2 (Go.bits .or .i64 (wrap64 (x12 * 256)) ((rd_T74 x2 (wrap64 ((wrap64 ((x2.length : Int) - 1)) - x13))).f1)) (wrap64 (x13 + 1)) x240000 x240001) else (none)) else (none))) else (some (false, x12, 0, 0, 0))
end
def cellarref7_Get.f (k : Nat) (a0_0 : Bool) (a0_1 : Int) (a1 : Int) (l2 : List (S74)) : Option (Bool × Int × Int × Int × Int) := cellarref7_Get.l0 k a1 l2 0 0 a0_0 a0_1
theorem cellarref7_Get.mono_l : ∀ k, (∀ y0 y1 y2 y3 y4 y5, LeO (cellarref7_Get.l0 k y0 y1 y2 y3 y4 y5) (cellarref7_Get.l0 (k + 1) y0 y1 y2 y3 y4 y5)) ∧ (∀ y0 y1, LeO (cellarref7_Get.l1 k y0 y1) (cellarref7_Get.l1 (k + 1) y0 y1)) ∧ (∀ y0 y1 y2 y3 y4, LeO (cellarref7_Get.l2 k y0 y1 y2 y3 y4) (cellarref7_Get.l2 (k + 1) y0 y1 y2 y3 y4))
 | 0 => ⟨fun _ _ _ _ _ _ r h => by simp [cellarref7_Get.l0] at h, fun _ _ r h => by simp [cellarref7_Get.l1] at h, fun _ _ _ _ _ r h => by simp [cellarref7_Get.l2] at h⟩
 | k + 1 => by
  obtain ⟨ih0, ih1, ih2⟩ := cellarref7_Get.mono_l k
  refine ⟨?_, ?_, ?_⟩
  ·intro y0 y1 y2 y3 y4 y5
   unfold cellarref7_Get.l0
   repeat' first
   | (with_reducible exact ih0 _ _ _ _ _ _)
   | (with_reducible exact ih1 _ _)
   | (with_reducible exact ih2 _ _ _ _ _)
   | (with_reducible exact cellarref0_EqBytes.mono _ _ _)
   | (with_reducible exact cellarref7_Put.mono _ _ _ _ _ _ _ _)
   | (with_reducible exact LeO.refl _)
   | (with_reducible exact LeO.none _)
   | (with_reducible refine LeO.ite ?_ ?_)
   | (with_reducible refine LeO.bind ?_ (fun _ => ?_))
   | exact ih0 _ _ _ _ _ _
   | exact ih1 _ _
   | exact ih2 _ _ _ _ _
   | exact cellarref0_EqBytes.mono _ _ _
   | exact cellarref7_Put.mono _ _ _ _ _ _ _ _
   | exact LeO.none _
   | refine LeO.ite ?_ ?_
   | refine LeO.bind ?_ (fun _ => ?_)
  ·intro y0 y1
   unfold cellarref7_Get.l1
   repeat' first
   | (with_reducible exact ih0 _ _ _ _ _ _)
   | (with_reducible exact ih1 _ _)
   | (with_reducible exact ih2 _ _ _ _ _)
   | (with_reducible exact cellarref0_EqBytes.mono _ _ _)
   | (with_reducible exact cellarref7_Put.mono _ _ _ _ _ _ _ _)
   | (with_reducible exact LeO.refl _)
   | (with_reducible exact LeO.none _)
   | (with_reducible refine LeO.ite ?_ ?_)
   | (with_reducible refine LeO.bind ?_ (fun _ => ?_))
   | exact ih0 _ _ _ _ _ _
   | exact ih1 _ _
   | exact ih2 _ _ _ _ _
   | exact cellarref0_EqBytes.mono _ _ _
   | exact cellarref7_Put.mono _ _ _ _ _ _ _ _
   | exact LeO.none _
   | refine LeO.ite ?_ ?_
   | refine LeO.bind ?_ (fun _ => ?_)
  ·intro y0 y1 y2 y3 y4
   unfold cellarref7_Get.l2
   repeat' first
   | (with_reducible exact ih0 _ _ _ _ _ _)
   | (with_reducible exact ih1 _ _)
   | (with_reducible exact ih2 _ _ _ _ _)
   | (with_reducible exact cellarref0_EqBytes.mono _ _ _)
   | (with_reducible exact cellarref7_Put.mono _ _ _ _ _ _ _ _)
   | (with_reducible exact LeO.refl _)
   | (with_reducible exact LeO.none _)
   | (with_reducible refine LeO.ite ?_ ?_)
   | (with_reducible refine LeO.bind ?_ (fun _ => ?_))
   | exact ih0 _ _ _ _ _ _
   | exact ih1 _ _
   | exact ih2 _ _ _ _ _
   | exact cellarref0_EqBytes.mono _ _ _
   | exact cellarref7_Put.mono _ _ _ _ _ _ _ _
   | exact LeO.none _
   | refine LeO.ite ?_ ?_
   | refine LeO.bind ?_ (fun _ => ?_)
theorem cellarref7_Get.mono : ∀ a0 a1 a2 a3 k, LeO (cellarref7_Get.f k a0 a1 a2 a3) (cellarref7_Get.f (k + 1) a0 a1 a2 a3) := by
 intro a0 a1 a2 a3 k
 obtain ⟨ih0, ih1, ih2⟩ := cellarref7_Get.mono_l k
 unfold cellarref7_Get.f
 repeat' first
   | (with_reducible exact ih0 _ _ _ _ _ _)
   | (with_reducible exact ih1 _ _)
   | (with_reducible exact ih2 _ _ _ _ _)
   | (with_reducible exact cellarref0_EqBytes.mono _ _ _)
   | (with_reducible exact cellarref7_Put.mono _ _ _ _ _ _ _ _)
   | (with_reducible exact LeO.refl _)
   | (with_reducible exact LeO.none _)
   | (with_reducible refine LeO.ite ?_ ?_)
   | (with_reducible refine LeO.bind ?_ (fun _ => ?_))
   | exact ih0 _ _ _ _ _ _
   | exact ih1 _ _
   | exact ih2 _ _ _ _ _
   | exact cellarref0_EqBytes.mono _ _ _
   | exact cellarref7_Put.mono _ _ _ _ _ _ _ _
   | exact LeO.none _
   | refine LeO.ite ?_ ?_
   | refine LeO.bind ?_ (fun _ => ?_)
def cellarref7_Get.T17 : Bool × List (List Nat × List Nat) := (true, [([], []), ([0], [0]), ([1], [1]), ([2], [2]), ([], []), ([4], [4]), ([5], [5]), ([6], [6]), ([3, 7], [3, 7]), ([], []), ([9, 8, 0, 1, 2, 3, 4, 5, 6, 7, 8, 9], [8, 9])])
def cellarref7_Get.B17 : List Nat := [0, 1, 3, 7, 0, 16, 48, 112, 255, 0, 1023]
theorem cellarref7_Get.tab17 : rtab .any (opsOf Try.f76 17) = cellarref7_Get.T17 := by kernel_rfl
theorem cellarref7_Get.bits17 : waitsOk cellarref7_Get.T17.2 cellarref7_Get.B17 = true := by kernel_rfl
set_option maxHeartbeats 8000000 in
set_option maxRecDepth 100000 in
theorem cellarref7_Get.calls (k : Nat) (a0_0 : Bool) (a0_1 : Int) (a1 : Int) (A2 : Option Addr) (c2 : Nat) (l2 : List (S74)) (r1 : Bool) (r2 : Int) (r3 : Int) (r4 : Int) (r5 : Int) (w : World) (hr2 : Kd.C k74 w A2 l2.length l2) (hc2 : l2.length ≤ c2) (h : cellarref7_Get.f k a0_0 a0_1 a1 l2 = some (r1, r2, r3, r4, r5)) :
  Calls Try.prog 76 #[.agg #[.bool a0_0, .int .i64 a0_1], .int .i64 a1, .slice A2 l2.length c2] w fun e w' => e = .returned (.tuple #[.agg #[.bool r1, .int .i64 r2, .int .i64 r3, .int .i64 r4], .int .i64 r5]) ∧ Below w.heap.size w w' := by
 have hu29 := Try.underlying29
 have hu62 := Try.underlying62
 have HR2 := Aside0.mk hr2
 have HC2 := Aside0.mk hc2
 clear hr2 hc2
 have HB := Aside0.mk (Below.refl w.heap.size w)
 have H : (cellarref7_Get.l0 k a1 l2 0 0 a0_0 a0_1) = some (r1, r2, r3, r4, r5) := h
 clear h
 have H' := Aside0.mk H
 clear H
 go_enter Try.func76, Try.ntmps76
 go_wp2_with (first | ((with_reducible refine gate_dst (N := 3) rfl ?_); refine box_event ?hg (N := 3) ?hd (cs := #[.bool a0_0, .int .i64 a0_1]) (t := 29) ?hr ?_; (case hd => rfl); (case hg => rfl); (case hr => first | (go_simp; done) | (go_simp; rfl)); intro gb239 hg w4 hbox hb; have n0_ := Aside0.mk (below_step (zw0 HB.out) hb); have n1_ := Aside0.mk (hbox); have n2_ := Aside0.mk ((by rw [hg]; exact (below_size (zw0 HB.out)) : w.heap.size ≤ gb239)); have n3_ := Aside0.mk ((by rw [hg]; exact (below_size (zw0 HB.out)) : w.heap.size ≤ gb239)); clear HB; have HB := n0_; have BK239 := n1_; have GW239 := n2_; have GE239 := n3_; clear n0_ n1_ n2_ n3_; clear hb hbox hg) | ((with_reducible refine gate_dst (N := 6) rfl ?_); refine box_event ?hg (N := 6) ?hd (cs := #[.bool false, .int .i64 0, .int .i64 0, .int .i64 0]) (t := 62) ?hr ?_; (case hd => rfl); (case hg => rfl); (case hr => first | (go_simp; done) | (go_simp; rfl)); intro gb240 hg w5 hbox hb; have n0_ := Aside0.mk (blk_below (g := gb239) (o := .cells #[.bool a0_0, .int .i64 a0_1] 29 (0, 0)) (zb BK239.out) hb); have n1_ := Aside0.mk (below_step (zw1 HB.out GE239.out) hb); have n2_ := Aside0.mk (hbox); have n3_ := Aside0.mk ((by rw [hg]; exact (below_size (zw1 HB.out GE239.out)) : w.heap.size ≤ gb240)); have n4_ := Aside0.mk ((by rw [hg]; exact (below_size (zw1 HB.out GE239.out)) : w.heap.size ≤ gb240)); have n5_ := Aside0.mk ((by rw [hg]; exact Nat.ne_of_lt (blk_lt (g := gb239) (o := .cells #[.bool a0_0, .int .i64 a0_1] 29 (0, 0)) (zb BK239.out)) : gb239 ≠ gb240)); have n6_ := Aside0.mk ((by rw [hg]; exact Nat.ne_of_gt (blk_lt (g := gb239) (o := .cells #[.bool a0_0, .int .i64 a0_1] 29 (0, 0)) (zb BK239.out)) : gb240 ≠ gb239)); clear BK239; clear HB; have BK239 := n0_; have HB := n1_; have BK240 := n2_; have GW240 := n3_; have GE240 := n4_; have NB239_240 := n5_; have NB240_239 := n6_; clear n0_ n1_ n2_ n3_ n4_ n5_ n6_; clear hb hbox hg))
 go_loopg [8, 9] k (fun kq v8 v9 w' => ∃ (x8_1 : Int) (x9_1 : Int) (x241000_1 : Bool) (x241001_1 : Int) (x241002_1 : Int) (x241003_1 : Int), v8 = .int .i64 x8_1 ∧ v9 = .int .i64 x9_1 ∧ Aside0 (cellarref7_Get.l0 kq a1 l2 x8_1 x9_1 a0_0 a0_1 = some (r1, r2, r3, r4, r5)) ∧ Aside0 (kq ≤ k) ∧ Aside0 (w'.heap[gb239]? = some (.cells #[.bool a0_0, .int .i64 a0_1] 29 (0, 0))) ∧ Aside0 (w'.heap[gb240]? = some (.cells #[.bool x241000_1, .int .i64 x241001_1, .int .i64 x241002_1, .int .i64 x241003_1] 62 (0, 0))) ∧ Aside0 (Below w.heap.size w w'))
 case atStart => exact ⟨(0), (0), (false), (0), (0), (0), (by first | rfl | (simp; done) | (simp [*]; done)), (by first | rfl | (simp; done) | (simp [*]; done)), H', ⟨Nat.le_refl _⟩, ⟨zb BK239.out⟩, ⟨zb BK240.out⟩, ⟨zw2 HB.out GE239.out GE240.out⟩⟩
 case round =>
  clear H'
  try clear c2
  try clear p2
  obtain ⟨x8_1, x9_1, x241000_1, x241001_1, x241002_1, x241003_1, rfl, rfl, HA, HK1, BK239, BK240, HB⟩ := hrel
  cases gk with
  | zero => exact absurd HA.out (by simp [cellarref7_Get.l0])
  | succ k1 =>
   have H := HA.out
   clear HA
   simp only [cellarref7_Get.l0] at H
   by_cases c6 : x9_1 < (l2.length : Int)
   ·rw [if_pos c6] at H
    have c6b0 : decide (x9_1 < (l2.length : Int)) = true := decide_eq_true c6
    clear c6
    by_cases c7 : 0 ≤ x9_1
    ·rw [if_pos c7] at H
     have c7b0 : decide (0 ≤ x9_1) = true := decide_eq_true c7
     clear c7
     by_cases c8 : ((rd_T74 l2 x9_1).f0) = 0
     ·rw [if_pos c8] at H
      have c8b0 : (((rd_T74 l2 x9_1).f0) == 0) = true := beq_iff_eq.mpr c8
      have c8b1 : (((rd_T74 l2 x9_1).f0) != 0) = false := bne_eq_false_iff_eq.mpr c8
      clear c8
      simp only [Option.some.injEq, Prod.mk.injEq] at H
      obtain ⟨rfl, rfl, rfl, rfl, rfl⟩ := H
      have p241 : 0 ≤ (x9_1 : Int) := zdec
      have q241 : x9_1 < (l2.length : Int) := zdec
      obtain ⟨ad241, e241, hx241_0, hx241_1, hx241_2, hx241_3, hx241_4⟩ := at_T74 HR2.out x9_1 p241 q241
      cases e241
      replace hx241_0 := (HB.out.cell (World.block_lt_of_cell? w _ hx241_0)).trans hx241_0
      replace hx241_1 := (HB.out.cell (World.block_lt_of_cell? w _ hx241_1)).trans hx241_1
      replace hx241_2 := (HB.out.cell (World.block_lt_of_cell? w _ hx241_2)).trans hx241_2
      replace hx241_3 := (HB.out.cell (World.block_lt_of_cell? w _ hx241_3)).trans hx241_3
      replace hx241_4 := (HB.out.cell (World.block_lt_of_cell? w _ hx241_4)).trans hx241_4
      replace p241 := eq_true p241
      replace q241 := eq_true q241
      have hnb9 := NB240_239.out
      have hnc9 := NB239_240.out
      have hcz10_0 : wr.cell? ⟨gb240, 0, none⟩ = some (.bool x241000_1) := (blk_cell BK240.out 0).trans rfl
      have hcz10_1 : wr.cell? ⟨gb240, 1, none⟩ = some (.int .i64 x241001_1) := (blk_cell BK240.out 1).trans rfl
      have hcz10_2 : wr.cell? ⟨gb240, 2, none⟩ = some (.int .i64 x241002_1) := (blk_cell BK240.out 2).trans rfl
      have hcz10_3 : wr.cell? ⟨gb240, 3, none⟩ = some (.int .i64 x241003_1) := (blk_cell BK240.out 3).trans rfl
      have hfz10_0 := blk_frozen BK240.out 0
      have hfz10_1 := blk_frozen BK240.out 1
      have hfz10_2 := blk_frozen BK240.out 2
      have hfz10_3 := blk_frozen BK240.out 3
      go_wp2
      refine bodyPost_ret (results_ct rfl _ _ gb240 62 #[.bool false, .int .i64 0, .int .i64 0, .int .i64 0] (0, 0) _ rfl (by (with_reducible repeat (first | refine blk_drewN ?_ _ | refine blk_drew ?_ | refine blk_alloc ?_ _)); refine blk_put (cs := #[.bool false, .int .i64 0, .int .i64 0, .int .i64 x241003_1]) ?_ 3 _ rfl; (with_reducible repeat (first | refine blk_drewN ?_ _ | refine blk_drew ?_ | refine blk_alloc ?_ _)); refine blk_put (cs := #[.bool false, .int .i64 0, .int .i64 x241002_1, .int .i64 x241003_1]) ?_ 2 _ rfl; (with_reducible repeat (first | refine blk_drewN ?_ _ | refine blk_drew ?_ | refine blk_alloc ?_ _)); refine blk_put (cs := #[.bool false, .int .i64 x241001_1, .int .i64 x241002_1, .int .i64 x241003_1]) ?_ 1 _ rfl; (with_reducible repeat (first | refine blk_drewN ?_ _ | refine blk_drew ?_ | refine blk_alloc ?_ _)); refine blk_put (cs := #[.bool x241000_1, .int .i64 x241001_1, .int .i64 x241002_1, .int .i64 x241003_1]) ?_ 0 _ rfl; (with_reducible repeat (first | refine blk_drewN ?_ _ | refine blk_drew ?_ | refine blk_alloc ?_ _)); exact BK240.out) Try.underlying62 rfl (by kernel_rfl)) rfl ?_
      exact ⟨by first | rfl | (simp [errW_none, errW_some] <;> rfl) | (simp [*, errW_none, errW_some] <;> rfl), zw2 HB.out GE239.out GE240.out⟩
     ·rw [if_neg c8] at H
      have c8b0 : (((rd_T74 l2 x9_1).f0) == 0) = false := beq_eq_false_iff_ne.mpr c8
      have c8b1 : (((rd_T74 l2 x9_1).f0) != 0) = true := bne_iff_ne.mpr c8
      by_cases c11 : ((rd_T74 l2 x9_1).f0) = 2
      ·rw [if_pos c11] at H
       have c11b0 : (((rd_T74 l2 x9_1).f0) == 2) = true := beq_iff_eq.mpr c11
       have c11b1 : (((rd_T74 l2 x9_1).f0) != 2) = false := bne_eq_false_iff_eq.mpr c11
       clear c11
       have H' := Aside0.mk H
       clear H
       have p241 : 0 ≤ (x9_1 : Int) := zdec
       have q241 : x9_1 < (l2.length : Int) := zdec
       obtain ⟨ad241, e241, hx241_0, hx241_1, hx241_2, hx241_3, hx241_4⟩ := at_T74 HR2.out x9_1 p241 q241
       cases e241
       replace hx241_0 := (HB.out.cell (World.block_lt_of_cell? w _ hx241_0)).trans hx241_0
       replace hx241_1 := (HB.out.cell (World.block_lt_of_cell? w _ hx241_1)).trans hx241_1
       replace hx241_2 := (HB.out.cell (World.block_lt_of_cell? w _ hx241_2)).trans hx241_2
       replace hx241_3 := (HB.out.cell (World.block_lt_of_cell? w _ hx241_3)).trans hx241_3
       replace hx241_4 := (HB.out.cell (World.block_lt_of_cell? w _ hx241_4)).trans hx241_4
       replace p241 := eq_true p241
       replace q241 := eq_true q241
       have p242 : 0 ≤ (x9_1 : Int) := zdec
       have q242 : x9_1 < (l2.length : Int) := zdec
       obtain ⟨ad242, e242, hx242_0, hx242_1, hx242_2, hx242_3, hx242_4⟩ := at_T74 HR2.out x9_1 p242 q242
       obtain rfl : ad241 = ad242 := (by injection e242)
       replace hx242_0 := (HB.out.cell (World.block_lt_of_cell? w _ hx242_0)).trans hx242_0
       replace hx242_1 := (HB.out.cell (World.block_lt_of_cell? w _ hx242_1)).trans hx242_1
       replace hx242_2 := (HB.out.cell (World.block_lt_of_cell? w _ hx242_2)).trans hx242_2
       replace hx242_3 := (HB.out.cell (World.block_lt_of_cell? w _ hx242_3)).trans hx242_3
       replace hx242_4 := (HB.out.cell (World.block_lt_of_cell? w _ hx242_4)).trans hx242_4
       replace p242 := eq_true p242
       replace q242 := eq_true q242
       go_wp2
       go_roundg k1
       case measure => have := HK1.out; omega
       case rel => exact ⟨(wrap64 (x8_1 + 1)), (wrap64 (x9_1 + 1)), (x241000_1), (x241001_1), (x241002_1), (x241003_1), (by first | rfl | (simp; done) | (simp [*]; done)), (by first | rfl | (simp; done) | (simp [*]; done)), H', ⟨by have := HK1.out; omega⟩, ⟨zb BK239.out⟩, ⟨zb BK240.out⟩, ⟨zw2 HB.out GE239.out GE240.out⟩⟩
      ·rw [if_neg c11] at H
       have c11b0 : (((rd_T74 l2 x9_1).f0) == 2) = false := beq_eq_false_iff_ne.mpr c11
       have c11b1 : (((rd_T74 l2 x9_1).f0) != 2) = true := bne_iff_ne.mpr c11
       have H' := Aside0.mk H
       clear H
       have p241 : 0 ≤ (x9_1 : Int) := zdec
       have q241 : x9_1 < (l2.length : Int) := zdec
       obtain ⟨ad241, e241, hx241_0, hx241_1, hx241_2, hx241_3, hx241_4⟩ := at_T74 HR2.out x9_1 p241 q241
       cases e241
       replace hx241_0 := (HB.out.cell (World.block_lt_of_cell? w _ hx241_0)).trans hx241_0
       replace hx241_1 := (HB.out.cell (World.block_lt_of_cell? w _ hx241_1)).trans hx241_1
       replace hx241_2 := (HB.out.cell (World.block_lt_of_cell? w _ hx241_2)).trans hx241_2
       replace hx241_3 := (HB.out.cell (World.block_lt_of_cell? w _ hx241_3)).trans hx241_3
       replace hx241_4 := (HB.out.cell (World.block_lt_of_cell? w _ hx241_4)).trans hx241_4
       replace p241 := eq_true p241
       replace q241 := eq_true q241
       have p242 : 0 ≤ (x9_1 : Int) := zdec
       have q242 : x9_1 < (l2.length : Int) := zdec
       obtain ⟨ad242, e242, hx242_0, hx242_1, hx242_2, hx242_3, hx242_4⟩ := at_T74 HR2.out x9_1 p242 q242
       obtain rfl : ad241 = ad242 := (by injection e242)
       replace hx242_0 := (HB.out.cell (World.block_lt_of_cell? w _ hx242_0)).trans hx242_0
       replace hx242_1 := (HB.out.cell (World.block_lt_of_cell? w _ hx242_1)).trans hx242_1
       replace hx242_2 := (HB.out.cell (World.block_lt_of_cell? w _ hx242_2)).trans hx242_2
       replace hx242_3 := (HB.out.cell (World.block_lt_of_cell? w _ hx242_3)).trans hx242_3
       replace hx242_4 := (HB.out.cell (World.block_lt_of_cell? w _ hx242_4)).trans hx242_4
       replace p242 := eq_true p242
       replace q242 := eq_true q242
       go_wp2
       go_roundg k1
       case measure => have := HK1.out; omega
       case rel => exact ⟨(x8_1), (wrap64 (x9_1 + 1)), (x241000_1), (x241001_1), (x241002_1), (x241003_1), (by first | rfl | (simp; done) | (simp [*]; done)), (by first | rfl | (simp; done) | (simp [*]; done)), H', ⟨by have := HK1.out; omega⟩, ⟨zb BK239.out⟩, ⟨zb BK240.out⟩, ⟨zw2 HB.out GE239.out GE240.out⟩⟩
    ·rw [if_neg c7] at H
     exact absurd H (by simp)
   ·rw [if_neg c6] at H
    have c6b0 : decide (x9_1 < (l2.length : Int)) = false := decide_eq_false c6
    clear c6
    by_cases c12 : a1 = 7
    ·rw [if_pos c12] at H
     have c12b0 : (a1 == 7) = true := beq_iff_eq.mpr c12
     have c12b1 : (a1 != 7) = false := bne_eq_false_iff_eq.mpr c12
     clear c12
     by_cases c13 : x8_1 = 0
     ·rw [if_pos c13] at H
      have c13b0 : (x8_1 == 0) = true := beq_iff_eq.mpr c13
      have c13b1 : (x8_1 != 0) = false := bne_eq_false_iff_eq.mpr c13
      clear c13
      have H' := Aside0.mk H
      clear H
      go_wp2
      go_loopg [10] k1 (fun kq v10 w' => ∃ (x10_2 : Int) (x241000_2 : Bool) (x241001_2 : Int) (x241002_2 : Int) (x241003_2 : Int), v10 = .int .i64 x10_2 ∧ Aside0 (cellarref7_Get.l1 kq l2 x10_2 = some (r1, r2, r3, r4, r5)) ∧ Aside0 (kq ≤ k1) ∧ Aside0 (w'.heap[gb239]? = some (.cells #[.bool a0_0, .int .i64 a0_1] 29 (0, 0))) ∧ Aside0 (w'.heap[gb240]? = some (.cells #[.bool x241000_2, .int .i64 x241001_2, .int .i64 x241002_2, .int .i64 x241003_2] 62 (0, 0))) ∧ Aside0 (Below w.heap.size w w'))
      case atStart => exact ⟨(0), (x241000_1), (x241001_1), (x241002_1), (x241003_1), (by first | rfl | (simp; done) | (simp [*]; done)), H', ⟨Nat.le_refl _⟩, ⟨zb BK239.out⟩, ⟨zb BK240.out⟩, ⟨zw2 HB.out GE239.out GE240.out⟩⟩
      case round =>
       clear H'
       try clear c1
       try clear c2
       try clear p2
       try clear q2
       try clear hx2
       try clear c6
       try clear c6b0
       try clear p6
       try clear c7
       try clear c7b0
       try clear c8
       try clear c8b0
       try clear c8b1
       try clear c9
       try clear c11
       try clear c11b0
       try clear c11b1
       try clear c12
       try clear c12b0
       try clear c12b1
       try clear c13
       try clear c13b0
       try clear c13b1
       try clear hcz10_0
       try clear hcz10_1
       try clear hcz10_2
       try clear hcz10_3
       try clear hfz10_0
       try clear hfz10_1
       try clear hfz10_2
       try clear hfz10_3
       try clear hx241_0
       try clear hx241_1
       try clear hx241_2
       try clear hx241_3
       try clear hx241_4
       try clear hx242_0
       try clear hx242_1
       try clear hx242_2
       try clear hx242_3
       try clear hx242_4
       try clear p2
       try clear p241
       try clear p242
       try clear q241
       try clear q242
       obtain ⟨x10_2, x241000_2, x241001_2, x241002_2, x241003_2, rfl, HA, HK2, BK239, BK240, HB⟩ := hrel
       cases gk with
       | zero => exact absurd HA.out (by simp [cellarref7_Get.l1])
       | succ k2 =>
        have H := HA.out
        clear HA
        simp only [cellarref7_Get.l1] at H
        by_cases c14 : x10_2 < (l2.length : Int)
        ·rw [if_pos c14] at H
         have c14b0 : decide (x10_2 < (l2.length : Int)) = true := decide_eq_true c14
         clear c14
         by_cases c15 : 0 ≤ x10_2
         ·rw [if_pos c15] at H
          have c15b0 : decide (0 ≤ x10_2) = true := decide_eq_true c15
          clear c15
          by_cases c16 : ((rd_T74 l2 x10_2).f1) = 0
          ·rw [if_pos c16] at H
           have c16b0 : (((rd_T74 l2 x10_2).f1) == 0) = true := beq_iff_eq.mpr c16
           have c16b1 : (((rd_T74 l2 x10_2).f1) != 0) = false := bne_eq_false_iff_eq.mpr c16
           clear c16
           have H' := Aside0.mk H
           clear H
           have p243 : 0 ≤ (x10_2 : Int) := zdec
           have q243 : x10_2 < (l2.length : Int) := zdec
           obtain ⟨ad243, e243, hx243_0, hx243_1, hx243_2, hx243_3, hx243_4⟩ := at_T74 HR2.out x10_2 p243 q243
           cases e243
           replace hx243_0 := (HB.out.cell (World.block_lt_of_cell? w _ hx243_0)).trans hx243_0
           replace hx243_1 := (HB.out.cell (World.block_lt_of_cell? w _ hx243_1)).trans hx243_1
           replace hx243_2 := (HB.out.cell (World.block_lt_of_cell? w _ hx243_2)).trans hx243_2
           replace hx243_3 := (HB.out.cell (World.block_lt_of_cell? w _ hx243_3)).trans hx243_3
           replace hx243_4 := (HB.out.cell (World.block_lt_of_cell? w _ hx243_4)).trans hx243_4
           replace p243 := eq_true p243
           replace q243 := eq_true q243
           go_wp2
           go_roundg k2
           case measure => have := HK1.out; have := HK2.out; omega
           case rel => exact ⟨(wrap64 (x10_2 + 1)), (x241000_2), (x241001_2), (x241002_2), (x241003_2), (by first | rfl | (simp; done) | (simp [*]; done)), H', ⟨by have := HK1.out; have := HK2.out; omega⟩, ⟨zb BK239.out⟩, ⟨zb BK240.out⟩, ⟨zw2 HB.out GE239.out GE240.out⟩⟩
          ·rw [if_neg c16] at H
           have c16b0 : (((rd_T74 l2 x10_2).f1) == 0) = false := beq_eq_false_iff_ne.mpr c16
           have c16b1 : (((rd_T74 l2 x10_2).f1) != 0) = true := bne_iff_ne.mpr c16
           simp only [Option.some.injEq, Prod.mk.injEq] at H
           obtain ⟨rfl, rfl, rfl, rfl, rfl⟩ := H
           have p243 : 0 ≤ (x10_2 : Int) := zdec
           have q243 : x10_2 < (l2.length : Int) := zdec
           obtain ⟨ad243, e243, hx243_0, hx243_1, hx243_2, hx243_3, hx243_4⟩ := at_T74 HR2.out x10_2 p243 q243
           cases e243
           replace hx243_0 := (HB.out.cell (World.block_lt_of_cell? w _ hx243_0)).trans hx243_0
           replace hx243_1 := (HB.out.cell (World.block_lt_of_cell? w _ hx243_1)).trans hx243_1
           replace hx243_2 := (HB.out.cell (World.block_lt_of_cell? w _ hx243_2)).trans hx243_2
           replace hx243_3 := (HB.out.cell (World.block_lt_of_cell? w _ hx243_3)).trans hx243_3
           replace hx243_4 := (HB.out.cell (World.block_lt_of_cell? w _ hx243_4)).trans hx243_4
           replace p243 := eq_true p243
           replace q243 := eq_true q243
           have hnb17 := NB240_239.out
           have hnc17 := NB239_240.out
           have hcz18_0 : wr.cell? ⟨gb240, 0, none⟩ = some (.bool x241000_2) := (blk_cell BK240.out 0).trans rfl
           have hcz18_1 : wr.cell? ⟨gb240, 1, none⟩ = some (.int .i64 x241001_2) := (blk_cell BK240.out 1).trans rfl
           have hcz18_2 : wr.cell? ⟨gb240, 2, none⟩ = some (.int .i64 x241002_2) := (blk_cell BK240.out 2).trans rfl
           have hcz18_3 : wr.cell? ⟨gb240, 3, none⟩ = some (.int .i64 x241003_2) := (blk_cell BK240.out 3).trans rfl
           have hfz18_0 := blk_frozen BK240.out 0
           have hfz18_1 := blk_frozen BK240.out 1
           have hfz18_2 := blk_frozen BK240.out 2
           have hfz18_3 := blk_frozen BK240.out 3
           go_wp2
           refine bodyPost_ret (results_ct rfl _ _ gb240 62 #[.bool false, .int .i64 0, .int .i64 0, .int .i64 0] (0, 0) _ rfl (by (with_reducible repeat (first | refine blk_drewN ?_ _ | refine blk_drew ?_ | refine blk_alloc ?_ _)); refine blk_put (cs := #[.bool false, .int .i64 0, .int .i64 0, .int .i64 x241003_2]) ?_ 3 _ rfl; (with_reducible repeat (first | refine blk_drewN ?_ _ | refine blk_drew ?_ | refine blk_alloc ?_ _)); refine blk_put (cs := #[.bool false, .int .i64 0, .int .i64 x241002_2, .int .i64 x241003_2]) ?_ 2 _ rfl; (with_reducible repeat (first | refine blk_drewN ?_ _ | refine blk_drew ?_ | refine blk_alloc ?_ _)); refine blk_put (cs := #[.bool false, .int .i64 x241001_2, .int .i64 x241002_2, .int .i64 x241003_2]) ?_ 1 _ rfl; (with_reducible repeat (first | refine blk_drewN ?_ _ | refine blk_drew ?_ | refine blk_alloc ?_ _)); refine blk_put (cs := #[.bool x241000_2, .int .i64 x241001_2, .int .i64 x241002_2, .int .i64 x241003_2]) ?_ 0 _ rfl; (with_reducible repeat (first | refine blk_drewN ?_ _ | refine blk_drew ?_ | refine blk_alloc ?_ _)); exact BK240.out) Try.underlying62 rfl (by kernel_rfl)) rfl ?_
           exact ⟨by first | rfl | (simp [errW_none, errW_some] <;> rfl) | (simp [*, errW_none, errW_some] <;> rfl), zw2 HB.out GE239.out GE240.out⟩
         ·rw [if_neg c15] at H
          exact absurd H (by simp)
        ·rw [if_neg c14] at H
         have c14b0 : decide (x10_2 < (l2.length : Int)) = false := decide_eq_false c14
         clear c14
         simp only [Option.some.injEq, Prod.mk.injEq] at H
         obtain ⟨rfl, rfl, rfl, rfl, rfl⟩ := H
         have hnb19 := NB240_239.out
         have hnc19 := NB239_240.out
         have hcz20_0 : wr.cell? ⟨gb240, 0, none⟩ = some (.bool x241000_2) := (blk_cell BK240.out 0).trans rfl
         have hcz20_1 : wr.cell? ⟨gb240, 1, none⟩ = some (.int .i64 x241001_2) := (blk_cell BK240.out 1).trans rfl
         have hcz20_2 : wr.cell? ⟨gb240, 2, none⟩ = some (.int .i64 x241002_2) := (blk_cell BK240.out 2).trans rfl
         have hcz20_3 : wr.cell? ⟨gb240, 3, none⟩ = some (.int .i64 x241003_2) := (blk_cell BK240.out 3).trans rfl
         have hfz20_0 := blk_frozen BK240.out 0
         have hfz20_1 := blk_frozen BK240.out 1
         have hfz20_2 := blk_frozen BK240.out 2
         have hfz20_3 := blk_frozen BK240.out 3
         go_wp2
         refine bodyPost_ret (results_ct rfl _ _ gb240 62 #[.bool true, .int .i64 0, .int .i64 0, .int .i64 0] (0, 0) _ rfl (by (with_reducible repeat (first | refine blk_drewN ?_ _ | refine blk_drew ?_ | refine blk_alloc ?_ _)); refine blk_put (cs := #[.bool true, .int .i64 0, .int .i64 0, .int .i64 x241003_2]) ?_ 3 _ rfl; (with_reducible repeat (first | refine blk_drewN ?_ _ | refine blk_drew ?_ | refine blk_alloc ?_ _)); refine blk_put (cs := #[.bool true, .int .i64 0, .int .i64 x241002_2, .int .i64 x241003_2]) ?_ 2 _ rfl; (with_reducible repeat (first | refine blk_drewN ?_ _ | refine blk_drew ?_ | refine blk_alloc ?_ _)); refine blk_put (cs := #[.bool true, .int .i64 x241001_2, .int .i64 x241002_2, .int .i64 x241003_2]) ?_ 1 _ rfl; (with_reducible repeat (first | refine blk_drewN ?_ _ | refine blk_drew ?_ | refine blk_alloc ?_ _)); refine blk_put (cs := #[.bool x241000_2, .int .i64 x241001_2, .int .i64 x241002_2, .int .i64 x241003_2]) ?_ 0 _ rfl; (with_reducible repeat (first | refine blk_drewN ?_ _ | refine blk_drew ?_ | refine blk_alloc ?_ _)); exact BK240.out) Try.underlying62 rfl (by kernel_rfl)) rfl ?_
         exact ⟨by first | rfl | (simp [errW_none, errW_some] <;> rfl) | (simp [*, errW_none, errW_some] <;> rfl), zw2 HB.out GE239.out GE240.out⟩
     ·rw [if_neg c13] at H
      have c13b0 : (x8_1 == 0) = false := beq_eq_false_iff_ne.mpr c13
      have c13b1 : (x8_1 != 0) = true := bne_iff_ne.mpr c13
      by_cases c21 : 0 < (l2.length : Int)
      ·rw [if_pos c21] at H
       have c21b0 : decide (0 < (l2.length : Int)) = true := decide_eq_true c21
       have c21b1 : decide (0 < l2.length) = true := decide_eq_true (by omega)
       clear c21
       by_cases c22 : ((rd_T74 l2 0).f0) = 2
       ·rw [if_pos c22] at H
        have c22b0 : (((rd_T74 l2 0).f0) == 2) = true := beq_iff_eq.mpr c22
        have c22b1 : (((rd_T74 l2 0).f0) != 2) = false := bne_eq_false_iff_eq.mpr c22
        clear c22
        replace H := Option.bind_eq_some_iff.mp H
        obtain ⟨t248, A230, H⟩ := H
        replace H : ((cellarref0_EqBytes.f k1 t248 l2).bind fun t251 => (if t251 = true then (some (true, 0, (rd_T74 l2 0).f2, (rd_T74 l2 0).f3, 0)) else (some (false, 0, 0, 0, 8)))) = some (r1, r2, r3, r4, r5) := H
        have A23 := Aside0.mk A230
        clear A230
        replace H := Option.bind_eq_some_iff.mp H
        obtain ⟨t251, A240, H⟩ := H
        replace H : (if t251 = true then (some (true, 0, (rd_T74 l2 0).f2, (rd_T74 l2 0).f3, 0)) else (some (false, 0, 0, 0, 8))) = some (r1, r2, r3, r4, r5) := H
        have A24 := Aside0.mk A240
        clear A240
        by_cases c25 : t251 = true
        ·subst c25
         have H1 : (some (true, 0, (rd_T74 l2 0).f2, (rd_T74 l2 0).f3, 0)) = some (r1, r2, r3, r4, r5) := by rw [if_pos rfl] at H; exact H
         clear H
         have H := H1
         clear H1
         simp only [Option.some.injEq, Prod.mk.injEq] at H
         obtain ⟨rfl, rfl, rfl, rfl, rfl⟩ := H
         try go_wp2
         have n0_ := Aside0.mk (blk_drew BK239.out)
         have n1_ := Aside0.mk (blk_drew BK240.out)
         have n2_ := Aside0.mk (below_drew1 HB.out)
         clear BK239
         clear BK240
         clear HB
         have BK239 := n0_
         have BK240 := n1_
         have HB := n2_
         clear n0_ n1_ n2_
         have p244 : 0 ≤ (0 : Int) := (by omega)
         have q244 : 0 < (l2.length : Int) := zdec
         obtain ⟨ad244, e244, hx244_0, hx244_1, hx244_2, hx244_3, hx244_4⟩ := at_T74 HR2.out 0 p244 q244
         have hw244_4 := hx244_4
         (try rw [show ((0 : Int)).toNat = 0 from rfl] at hw244_4)
         (try rw [show 0 * 5 = 0 from rfl] at hw244_4)
         (try rw [Addr.add_zero'] at hw244_4)
         have hw244_3 := hx244_3
         (try rw [show ((0 : Int)).toNat = 0 from rfl] at hw244_3)
         (try rw [show 0 * 5 = 0 from rfl] at hw244_3)
         (try rw [Addr.add_zero'] at hw244_3)
         have hw244_2 := hx244_2
         (try rw [show ((0 : Int)).toNat = 0 from rfl] at hw244_2)
         (try rw [show 0 * 5 = 0 from rfl] at hw244_2)
         (try rw [Addr.add_zero'] at hw244_2)
         have hw244_1 := hx244_1
         (try rw [show ((0 : Int)).toNat = 0 from rfl] at hw244_1)
         (try rw [show 0 * 5 = 0 from rfl] at hw244_1)
         (try rw [Addr.add_zero'] at hw244_1)
         have hw244_0 := hx244_0
         (try rw [show ((0 : Int)).toNat = 0 from rfl] at hw244_0)
         (try rw [show 0 * 5 = 0 from rfl] at hw244_0)
         (try rw [Addr.add_zero'] at hw244_0)
         cases e244
         have qi244 : (0 < l2.length) = True := eq_true (by omega)
         (try rw [show ((0 : Int)).toNat = 0 from rfl] at hx244_0)
         (try rw [show 0 * 5 = 0 from rfl] at hx244_0)
         (try rw [Addr.add_zero'] at hx244_0)
         (try rw [show ((0 : Int)).toNat = 0 from rfl] at hx244_1)
         (try rw [show 0 * 5 = 0 from rfl] at hx244_1)
         (try rw [Addr.add_zero'] at hx244_1)
         (try rw [show ((0 : Int)).toNat = 0 from rfl] at hx244_2)
         (try rw [show 0 * 5 = 0 from rfl] at hx244_2)
         (try rw [Addr.add_zero'] at hx244_2)
         (try rw [show ((0 : Int)).toNat = 0 from rfl] at hx244_3)
         (try rw [show 0 * 5 = 0 from rfl] at hx244_3)
         (try rw [Addr.add_zero'] at hx244_3)
         (try rw [show ((0 : Int)).toNat = 0 from rfl] at hx244_4)
         (try rw [show 0 * 5 = 0 from rfl] at hx244_4)
         (try rw [Addr.add_zero'] at hx244_4)
         replace hx244_0 := (HB.out.cell (World.block_lt_of_cell? w _ hx244_0)).trans hx244_0
         replace hx244_1 := (HB.out.cell (World.block_lt_of_cell? w _ hx244_1)).trans hx244_1
         replace hx244_2 := (HB.out.cell (World.block_lt_of_cell? w _ hx244_2)).trans hx244_2
         replace hx244_3 := (HB.out.cell (World.block_lt_of_cell? w _ hx244_3)).trans hx244_3
         replace hx244_4 := (HB.out.cell (World.block_lt_of_cell? w _ hx244_4)).trans hx244_4
         replace p244 := eq_true p244
         replace q244 := eq_true q244
         have p245 : 0 ≤ (0 : Int) := (by omega)
         have q245 : 0 < (l2.length : Int) := zdec
         obtain ⟨ad245, e245, hx245_0, hx245_1, hx245_2, hx245_3, hx245_4⟩ := at_T74 HR2.out 0 p245 q245
         have hw245_4 := hx245_4
         (try rw [show ((0 : Int)).toNat = 0 from rfl] at hw245_4)
         (try rw [show 0 * 5 = 0 from rfl] at hw245_4)
         (try rw [Addr.add_zero'] at hw245_4)
         have hw245_3 := hx245_3
         (try rw [show ((0 : Int)).toNat = 0 from rfl] at hw245_3)
         (try rw [show 0 * 5 = 0 from rfl] at hw245_3)
         (try rw [Addr.add_zero'] at hw245_3)
         have hw245_2 := hx245_2
         (try rw [show ((0 : Int)).toNat = 0 from rfl] at hw245_2)
         (try rw [show 0 * 5 = 0 from rfl] at hw245_2)
         (try rw [Addr.add_zero'] at hw245_2)
         have hw245_1 := hx245_1
         (try rw [show ((0 : Int)).toNat = 0 from rfl] at hw245_1)
         (try rw [show 0 * 5 = 0 from rfl] at hw245_1)
         (try rw [Addr.add_zero'] at hw245_1)
         have hw245_0 := hx245_0
         (try rw [show ((0 : Int)).toNat = 0 from rfl] at hw245_0)
         (try rw [show 0 * 5 = 0 from rfl] at hw245_0)
         (try rw [Addr.add_zero'] at hw245_0)
         obtain rfl : ad244 = ad245 := (by injection e245)
         have qi245 : (0 < l2.length) = True := eq_true (by omega)
         (try rw [show ((0 : Int)).toNat = 0 from rfl] at hx245_0)
         (try rw [show 0 * 5 = 0 from rfl] at hx245_0)
         (try rw [Addr.add_zero'] at hx245_0)
         (try rw [show ((0 : Int)).toNat = 0 from rfl] at hx245_1)
         (try rw [show 0 * 5 = 0 from rfl] at hx245_1)
         (try rw [Addr.add_zero'] at hx245_1)
         (try rw [show ((0 : Int)).toNat = 0 from rfl] at hx245_2)
         (try rw [show 0 * 5 = 0 from rfl] at hx245_2)
         (try rw [Addr.add_zero'] at hx245_2)
         (try rw [show ((0 : Int)).toNat = 0 from rfl] at hx245_3)
         (try rw [show 0 * 5 = 0 from rfl] at hx245_3)
         (try rw [Addr.add_zero'] at hx245_3)
         (try rw [show ((0 : Int)).toNat = 0 from rfl] at hx245_4)
         (try rw [show 0 * 5 = 0 from rfl] at hx245_4)
         (try rw [Addr.add_zero'] at hx245_4)
         replace hx245_0 := (HB.out.cell (World.block_lt_of_cell? w _ hx245_0)).trans hx245_0
         replace hx245_1 := (HB.out.cell (World.block_lt_of_cell? w _ hx245_1)).trans hx245_1
         replace hx245_2 := (HB.out.cell (World.block_lt_of_cell? w _ hx245_2)).trans hx245_2
         replace hx245_3 := (HB.out.cell (World.block_lt_of_cell? w _ hx245_3)).trans hx245_3
         replace hx245_4 := (HB.out.cell (World.block_lt_of_cell? w _ hx245_4)).trans hx245_4
         replace p245 := eq_true p245
         replace q245 := eq_true q245
         refine start_ (n := 11) (S := fun w' => w'.cell? ad244 = some (.int .i64 ((rd_T74 l2 0).f0)) ∧ w'.cell? ⟨ad244.block, ad244.off + 1, none⟩ = some (.int .i64 ((rd_T74 l2 0).f1)) ∧ w'.cell? ⟨ad244.block, ad244.off + 2, none⟩ = some (.int .i64 ((rd_T74 l2 0).f2)) ∧ w'.cell? ⟨ad244.block, ad244.off + 3, none⟩ = some (.int .i64 ((rd_T74 l2 0).f3)) ∧ w'.cell? ⟨ad244.block, ad244.off + 4, none⟩ = some (.int .i64 ((rd_T74 l2 0).f4)) ∧ w'.cell? ad244 = some (.int .i64 ((rd_T74 l2 0).f0)) ∧ w'.cell? ⟨ad244.block, ad244.off + 1, none⟩ = some (.int .i64 ((rd_T74 l2 0).f1)) ∧ w'.cell? ⟨ad244.block, ad244.off + 2, none⟩ = some (.int .i64 ((rd_T74 l2 0).f2)) ∧ w'.cell? ⟨ad244.block, ad244.off + 3, none⟩ = some (.int .i64 ((rd_T74 l2 0).f3)) ∧ w'.cell? ⟨ad244.block, ad244.off + 4, none⟩ = some (.int .i64 ((rd_T74 l2 0).f4))) (ds := []) #[false,false,false,false,false,false,false,false,false,false,false] (by kernel_rfl) rfl rfl ⟨((HB.out.cell (World.block_lt_of_cell? w _ hw244_0)).trans hw244_0), ((HB.out.cell (World.block_lt_of_cell? w _ hw244_1)).trans hw244_1), ((HB.out.cell (World.block_lt_of_cell? w _ hw244_2)).trans hw244_2), ((HB.out.cell (World.block_lt_of_cell? w _ hw244_3)).trans hw244_3), ((HB.out.cell (World.block_lt_of_cell? w _ hw244_4)).trans hw244_4), ((HB.out.cell (World.block_lt_of_cell? w _ hw245_0)).trans hw245_0), ((HB.out.cell (World.block_lt_of_cell? w _ hw245_1)).trans hw245_1), ((HB.out.cell (World.block_lt_of_cell? w _ hw245_2)).trans hw245_2), ((HB.out.cell (World.block_lt_of_cell? w _ hw245_3)).trans hw245_3), ((HB.out.cell (World.block_lt_of_cell? w _ hw245_4)).trans hw245_4)⟩ (fun hHeld => ?_); refine with_tabW cellarref7_Get.tab17 cellarref7_Get.bits17 (fun HT_ HW_ => ?_)
         generalize wr.drew = w26 at BK239 BK240 HB hx244_0 hx244_1 hx244_2 hx244_3 hx244_4 hx245_0 hx245_1 hx245_2 hx245_3 hx245_4 hHeld ⊢
         refine pure_ (i := 0) (N := some 54) (v := ?_) (a' := ?_) #[true,false,false,false,false,false,false,false,false,false,false] rfl rfl (any_of HT_.out (by kernel_rfl)) (fun _ _ _ h => h) (Or.inl ⟨by rfl, ?_⟩) ?_ ?_
         rotate_left
         ·intro w'
          go_simp
          with_reducible rfl
         rotate_left
         ·simp only [Act.put, List.setIfInBounds_toArray, List.set_cons_zero, List.set_cons_succ, i64_w, i32_w]
          rfl
         refine pure_ (i := 1) (N := some 55) (v := ?_) (a' := ?_) #[true,true,false,false,false,false,false,false,false,false,false] rfl rfl (any_of HT_.out (by kernel_rfl)) (fun _ _ _ h => h) (Or.inl ⟨by rfl, ?_⟩) ?_ ?_
         rotate_left
         ·intro w'
          go_simp
          with_reducible rfl
         rotate_left
         ·simp only [Act.put, List.setIfInBounds_toArray, List.set_cons_zero, List.set_cons_succ, i64_w, i32_w]
          rfl
         refine pure_ (i := 2) (N := some 56) (v := ?_) (a' := ?_) #[true,true,true,false,false,false,false,false,false,false,false] rfl rfl (any_of HT_.out (by kernel_rfl)) (fun _ _ _ h => h) (Or.inl ⟨by rfl, ?_⟩) ?_ ?_
         rotate_left
         ·intro w'
          go_simp
          with_reducible rfl
         rotate_left
         ·simp only [Act.put, List.setIfInBounds_toArray, List.set_cons_zero, List.set_cons_succ, i64_w, i32_w]
          rfl
         refine pure_ (i := 4) (N := some 58) (v := ?_) (a' := ?_) #[true,true,true,false,true,false,false,false,false,false,false] rfl rfl (any_of HT_.out (by kernel_rfl)) (fun _ _ _ h => h) (Or.inl ⟨by rfl, ?_⟩) ?_ ?_
         rotate_left
         ·intro w'
          go_simp
          with_reducible rfl
         rotate_left
         ·simp only [Act.put, List.setIfInBounds_toArray, List.set_cons_zero, List.set_cons_succ, i64_w, i32_w]
          rfl
         refine pure_ (i := 5) (N := some 59) (v := ?_) (a' := ?_) #[true,true,true,false,true,true,false,false,false,false,false] rfl rfl (any_of HT_.out (by kernel_rfl)) (fun _ _ _ h => h) (Or.inl ⟨by rfl, ?_⟩) ?_ ?_
         rotate_left
         ·intro w'
          go_simp
          with_reducible rfl
         rotate_left
         ·simp only [Act.put, List.setIfInBounds_toArray, List.set_cons_zero, List.set_cons_succ, i64_w, i32_w]
          rfl
         refine pure_ (i := 6) (N := some 60) (v := ?_) (a' := ?_) #[true,true,true,false,true,true,true,false,false,false,false] rfl rfl (any_of HT_.out (by kernel_rfl)) (fun _ _ _ h => h) (Or.inl ⟨by rfl, ?_⟩) ?_ ?_
         rotate_left
         ·intro w'
          go_simp
          with_reducible rfl
         rotate_left
         ·simp only [Act.put, List.setIfInBounds_toArray, List.set_cons_zero, List.set_cons_succ, i64_w, i32_w]
          rfl
         refine take_ (i := 3) (N := some 57) (v := ?_) (a' := ?_) #[true,true,true,true,true,true,true,false,false,false,false] rfl rfl (take_ofW HT_.out HW_.out (by kernel_rfl)) (fun _ _ _ h => h) (Or.inl ⟨by rfl, ?_⟩) hHeld ?_ ?_
         rotate_left
         ·rintro w' ⟨s0, s1, s2, s3, s4, s5, s6, s7, s8, s9⟩
          go_simp
          with_reducible rfl
         rotate_left
         ·simp only [Act.put, List.setIfInBounds_toArray, List.set_cons_zero, List.set_cons_succ, i64_w, i32_w]
          rfl
         refine take_ (i := 7) (N := some 61) (v := ?_) (a' := ?_) #[true,true,true,true,true,true,true,true,false,false,false] rfl rfl (take_ofW HT_.out HW_.out (by kernel_rfl)) (fun _ _ _ h => h) (Or.inl ⟨by rfl, ?_⟩) hHeld ?_ ?_
         rotate_left
         ·rintro w' ⟨s0, s1, s2, s3, s4, s5, s6, s7, s8, s9⟩
          go_simp
          with_reducible rfl
         rotate_left
         ·simp only [Act.put, List.setIfInBounds_toArray, List.set_cons_zero, List.set_cons_succ, i64_w, i32_w]
          rfl
         refine pure_ (i := 8) (N := some 62) (v := ?_) (a' := ?_) #[true,true,true,true,true,true,true,true,true,false,false] rfl rfl (any_of HT_.out (by kernel_rfl)) (fun _ _ _ h => h) (Or.inl ⟨by rfl, ?_⟩) ?_ ?_
         rotate_left
         ·intro w'
          go_simp
          with_reducible rfl
         rotate_left
         ·simp only [Act.put, List.setIfInBounds_toArray, List.set_cons_zero, List.set_cons_succ, i64_w, i32_w]
          rfl
         refine one_ (i := 9) (N := some 11) #[true,true,true,true,true,true,true,true,true,true,false] rfl rfl (one_of HT_.out (by kernel_rfl)) (by decide) (fun K hK => ?_)
         refine box_step ?hg (N := 11) ?hd (cs := #[.bool false, .int .i64 0, .int .i64 0, .int .i64 0]) (t := 62) ?hr ?_; (case hd => rfl); (case hg => rfl); (case hr => first | (go_simp; done) | (go_simp; rfl))
         intro gb246 hg w27 hbox hb
         have n0_ := Aside0.mk (blk_below (g := gb239) (o := .cells #[.bool a0_0, .int .i64 a0_1] 29 (0, 0)) (zb BK239.out) hb)
         have n1_ := Aside0.mk (blk_below (g := gb240) (o := .cells #[.bool x241000_1, .int .i64 x241001_1, .int .i64 x241002_1, .int .i64 x241003_1] 62 (0, 0)) (zb BK240.out) hb)
         have n2_ := Aside0.mk (below_step (zw2 HB.out GE239.out GE240.out) hb)
         have n3_ := Aside0.mk (hbox)
         have n4_ := Aside0.mk ((by rw [hg]; exact (below_size (zw2 HB.out GE239.out GE240.out)) : w.heap.size ≤ gb246))
         have n5_ := Aside0.mk ((by rw [hg]; exact (below_size (zw2 HB.out GE239.out GE240.out)) : w.heap.size ≤ gb246))
         have n6_ := Aside0.mk ((by rw [hg]; exact Nat.ne_of_lt (blk_lt (g := gb239) (o := .cells #[.bool a0_0, .int .i64 a0_1] 29 (0, 0)) (zb BK239.out)) : gb239 ≠ gb246))
         have n7_ := Aside0.mk ((by rw [hg]; exact Nat.ne_of_gt (blk_lt (g := gb239) (o := .cells #[.bool a0_0, .int .i64 a0_1] 29 (0, 0)) (zb BK239.out)) : gb246 ≠ gb239))
         have n8_ := Aside0.mk ((by rw [hg]; exact Nat.ne_of_lt (blk_lt (g := gb240) (o := .cells #[.bool x241000_1, .int .i64 x241001_1, .int .i64 x241002_1, .int .i64 x241003_1] 62 (0, 0)) (zb BK240.out)) : gb240 ≠ gb246))
         have n9_ := Aside0.mk ((by rw [hg]; exact Nat.ne_of_gt (blk_lt (g := gb240) (o := .cells #[.bool x241000_1, .int .i64 x241001_1, .int .i64 x241002_1, .int .i64 x241003_1] 62 (0, 0)) (zb BK240.out)) : gb246 ≠ gb240))
         clear BK239
         clear BK240
         clear HB
         have BK239 := n0_
         have BK240 := n1_
         have HB := n2_
         have BK246 := n3_
         have GW246 := n4_
         have GE246 := n5_
         have NB239_246 := n6_
         have NB246_239 := n7_
         have NB240_246 := n8_
         have NB246_240 := n9_
         clear n0_ n1_ n2_ n3_ n4_ n5_ n6_ n7_ n8_ n9_
         clear hb hbox hg
         refine hK.out _ _ ⟨((HB.out.cell (World.block_lt_of_cell? w _ hw244_0)).trans hw244_0), ((HB.out.cell (World.block_lt_of_cell? w _ hw244_1)).trans hw244_1), ((HB.out.cell (World.block_lt_of_cell? w _ hw244_2)).trans hw244_2), ((HB.out.cell (World.block_lt_of_cell? w _ hw244_3)).trans hw244_3), ((HB.out.cell (World.block_lt_of_cell? w _ hw244_4)).trans hw244_4), ((HB.out.cell (World.block_lt_of_cell? w _ hw245_0)).trans hw245_0), ((HB.out.cell (World.block_lt_of_cell? w _ hw245_1)).trans hw245_1), ((HB.out.cell (World.block_lt_of_cell? w _ hw245_2)).trans hw245_2), ((HB.out.cell (World.block_lt_of_cell? w _ hw245_3)).trans hw245_3), ((HB.out.cell (World.block_lt_of_cell? w _ hw245_4)).trans hw245_4)⟩ (fun hHeld => ?_)
         clear hK K
         refine norm_ (a' := ?_) ?_ ?_
         rotate_left
         ·show Act.put _ (some 11) _ = _
          simp only [Act.put, List.setIfInBounds_toArray, List.set_cons_zero, List.set_cons_succ, i64_w, i32_w]
          rfl
         refine one_ (i := 10) (N := none) #[true,true,true,true,true,true,true,true,true,true,true] rfl rfl (one_of HT_.out (by kernel_rfl)) (by decide) (fun K hK => ?_)
         have hs28 : w27.cell? ⟨gb246, 0, none⟩ = some (.bool false) := (blk_cell BK246.out 0).trans rfl
         have hfs28 := blk_frozen BK246.out 0
         have hns28_0 := NB239_246.out
         have hns28_1 := NB240_246.out
         have hms28_0 := NB246_239.out
         have hms28_1 := NB246_240.out
         have hs29 : w27.cell? ⟨gb246, 1, none⟩ = some (.int .i64 0) := (blk_cell BK246.out 1).trans rfl
         have hfs29 := blk_frozen BK246.out 1
         have hns29_0 := NB239_246.out
         have hns29_1 := NB240_246.out
         have hms29_0 := NB246_239.out
         have hms29_1 := NB246_240.out
         have hs30 : w27.cell? ⟨gb246, 2, none⟩ = some (.int .i64 0) := (blk_cell BK246.out 2).trans rfl
         have hfs30 := blk_frozen BK246.out 2
         have hns30_0 := NB239_246.out
         have hns30_1 := NB240_246.out
         have hms30_0 := NB246_239.out
         have hms30_1 := NB246_240.out
         have hs31 : w27.cell? ⟨gb246, 3, none⟩ = some (.int .i64 0) := (blk_cell BK246.out 3).trans rfl
         have hfs31 := blk_frozen BK246.out 3
         have hns31_0 := NB239_246.out
         have hns31_1 := NB240_246.out
         have hms31_0 := NB246_239.out
         have hms31_1 := NB246_240.out
         refine skip_ (w1 := ?_) (by rfl) rfl ?_ ?_
         rotate_left
         ·go_simp
          rfl
         refine hK.out _ _ ⟨((cell_far (p := ⟨gb246, _, none⟩) (zx (zfar hw244_0 GW246.out)) _).trans (((cell_far (p := ⟨gb246, _, none⟩) (zx (zfar hw244_0 GW246.out)) _).trans (((cell_far (p := ⟨gb246, _, none⟩) (zx (zfar hw244_0 GW246.out)) _).trans (((cell_far (p := ⟨gb246, _, none⟩) (zx (zfar hw244_0 GW246.out)) _).trans (hHeld.1)))))))), ((cell_far (p := ⟨gb246, _, none⟩) (zx (zfar hw244_1 GW246.out)) _).trans (((cell_far (p := ⟨gb246, _, none⟩) (zx (zfar hw244_1 GW246.out)) _).trans (((cell_far (p := ⟨gb246, _, none⟩) (zx (zfar hw244_1 GW246.out)) _).trans (((cell_far (p := ⟨gb246, _, none⟩) (zx (zfar hw244_1 GW246.out)) _).trans (hHeld.2.1)))))))), ((cell_far (p := ⟨gb246, _, none⟩) (zx (zfar hw244_2 GW246.out)) _).trans (((cell_far (p := ⟨gb246, _, none⟩) (zx (zfar hw244_2 GW246.out)) _).trans (((cell_far (p := ⟨gb246, _, none⟩) (zx (zfar hw244_2 GW246.out)) _).trans (((cell_far (p := ⟨gb246, _, none⟩) (zx (zfar hw244_2 GW246.out)) _).trans (hHeld.2.2.1)))))))), ((cell_far (p := ⟨gb246, _, none⟩) (zx (zfar hw244_3 GW246.out)) _).trans (((cell_far (p := ⟨gb246, _, none⟩) (zx (zfar hw244_3 GW246.out)) _).trans (((cell_far (p := ⟨gb246, _, none⟩) (zx (zfar hw244_3 GW246.out)) _).trans (((cell_far (p := ⟨gb246, _, none⟩) (zx (zfar hw244_3 GW246.out)) _).trans (hHeld.2.2.2.1)))))))), ((cell_far (p := ⟨gb246, _, none⟩) (zx (zfar hw244_4 GW246.out)) _).trans (((cell_far (p := ⟨gb246, _, none⟩) (zx (zfar hw244_4 GW246.out)) _).trans (((cell_far (p := ⟨gb246, _, none⟩) (zx (zfar hw244_4 GW246.out)) _).trans (((cell_far (p := ⟨gb246, _, none⟩) (zx (zfar hw244_4 GW246.out)) _).trans (hHeld.2.2.2.2.1)))))))), ((cell_far (p := ⟨gb246, _, none⟩) (zx (zfar hw245_0 GW246.out)) _).trans (((cell_far (p := ⟨gb246, _, none⟩) (zx (zfar hw245_0 GW246.out)) _).trans (((cell_far (p := ⟨gb246, _, none⟩) (zx (zfar hw245_0 GW246.out)) _).trans (((cell_far (p := ⟨gb246, _, none⟩) (zx (zfar hw245_0 GW246.out)) _).trans (hHeld.2.2.2.2.2.1)))))))), ((cell_far (p := ⟨gb246, _, none⟩) (zx (zfar hw245_1 GW246.out)) _).trans (((cell_far (p := ⟨gb246, _, none⟩) (zx (zfar hw245_1 GW246.out)) _).trans (((cell_far (p := ⟨gb246, _, none⟩) (zx (zfar hw245_1 GW246.out)) _).trans (((cell_far (p := ⟨gb246, _, none⟩) (zx (zfar hw245_1 GW246.out)) _).trans (hHeld.2.2.2.2.2.2.1)))))))), ((cell_far (p := ⟨gb246, _, none⟩) (zx (zfar hw245_2 GW246.out)) _).trans (((cell_far (p := ⟨gb246, _, none⟩) (zx (zfar hw245_2 GW246.out)) _).trans (((cell_far (p := ⟨gb246, _, none⟩) (zx (zfar hw245_2 GW246.out)) _).trans (((cell_far (p := ⟨gb246, _, none⟩) (zx (zfar hw245_2 GW246.out)) _).trans (hHeld.2.2.2.2.2.2.2.1)))))))), ((cell_far (p := ⟨gb246, _, none⟩) (zx (zfar hw245_3 GW246.out)) _).trans (((cell_far (p := ⟨gb246, _, none⟩) (zx (zfar hw245_3 GW246.out)) _).trans (((cell_far (p := ⟨gb246, _, none⟩) (zx (zfar hw245_3 GW246.out)) _).trans (((cell_far (p := ⟨gb246, _, none⟩) (zx (zfar hw245_3 GW246.out)) _).trans (hHeld.2.2.2.2.2.2.2.2.1)))))))), ((cell_far (p := ⟨gb246, _, none⟩) (zx (zfar hw245_4 GW246.out)) _).trans (((cell_far (p := ⟨gb246, _, none⟩) (zx (zfar hw245_4 GW246.out)) _).trans (((cell_far (p := ⟨gb246, _, none⟩) (zx (zfar hw245_4 GW246.out)) _).trans (((cell_far (p := ⟨gb246, _, none⟩) (zx (zfar hw245_4 GW246.out)) _).trans (hHeld.2.2.2.2.2.2.2.2.2))))))))⟩ (fun hHeld => ?_)
         clear hK K
         refine done_ (done_of HT_.out (by kernel_rfl)) ?_
         have p247 : 0 ≤ (0 : Int) := (by omega)
         have q247 : 0 < (l2.length : Int) := zdec
         obtain ⟨ad247, e247, hx247_0, hx247_1, hx247_2, hx247_3, hx247_4⟩ := at_T74 HR2.out 0 p247 q247
         obtain rfl : ad244 = ad247 := (by injection e247)
         have qi247 : (0 < l2.length) = True := eq_true (by omega)
         (try rw [show ((0 : Int)).toNat = 0 from rfl] at hx247_0)
         (try rw [show 0 * 5 = 0 from rfl] at hx247_0)
         (try rw [Addr.add_zero'] at hx247_0)
         (try rw [show ((0 : Int)).toNat = 0 from rfl] at hx247_1)
         (try rw [show 0 * 5 = 0 from rfl] at hx247_1)
         (try rw [Addr.add_zero'] at hx247_1)
         (try rw [show ((0 : Int)).toNat = 0 from rfl] at hx247_2)
         (try rw [show 0 * 5 = 0 from rfl] at hx247_2)
         (try rw [Addr.add_zero'] at hx247_2)
         (try rw [show ((0 : Int)).toNat = 0 from rfl] at hx247_3)
         (try rw [show 0 * 5 = 0 from rfl] at hx247_3)
         (try rw [Addr.add_zero'] at hx247_3)
         (try rw [show ((0 : Int)).toNat = 0 from rfl] at hx247_4)
         (try rw [show 0 * 5 = 0 from rfl] at hx247_4)
         (try rw [Addr.add_zero'] at hx247_4)
         have hn247_0 : ad244.block ≠ gb246 := zx (zfar hx247_0 GW246.out)
         have hn247_1 : ad244.block ≠ gb246 := zx (zfar hx247_0 GW246.out)
         have hn247_2 : ad244.block ≠ gb246 := zx (zfar hx247_0 GW246.out)
         have hn247_3 : ad244.block ≠ gb246 := zx (zfar hx247_0 GW246.out)
         replace hx247_0 := (HB.out.cell (World.block_lt_of_cell? w _ hx247_0)).trans hx247_0
         replace hx247_1 := (HB.out.cell (World.block_lt_of_cell? w _ hx247_1)).trans hx247_1
         replace hx247_2 := (HB.out.cell (World.block_lt_of_cell? w _ hx247_2)).trans hx247_2
         replace hx247_3 := (HB.out.cell (World.block_lt_of_cell? w _ hx247_3)).trans hx247_3
         replace hx247_4 := (HB.out.cell (World.block_lt_of_cell? w _ hx247_4)).trans hx247_4
         replace hx247_0 := (cell_far (p := ⟨gb246, 0, none⟩) (zy hn247_0) (.bool true)).trans hx247_0
         replace hx247_1 := (cell_far (p := ⟨gb246, 0, none⟩) (zy hn247_0) (.bool true)).trans hx247_1
         replace hx247_2 := (cell_far (p := ⟨gb246, 0, none⟩) (zy hn247_0) (.bool true)).trans hx247_2
         replace hx247_3 := (cell_far (p := ⟨gb246, 0, none⟩) (zy hn247_0) (.bool true)).trans hx247_3
         replace hx247_4 := (cell_far (p := ⟨gb246, 0, none⟩) (zy hn247_0) (.bool true)).trans hx247_4
         replace hx247_0 := (cell_far (p := ⟨gb246, 1, none⟩) (zy hn247_1) (.int .i64 0)).trans hx247_0
         replace hx247_1 := (cell_far (p := ⟨gb246, 1, none⟩) (zy hn247_1) (.int .i64 0)).trans hx247_1
         replace hx247_2 := (cell_far (p := ⟨gb246, 1, none⟩) (zy hn247_1) (.int .i64 0)).trans hx247_2
         replace hx247_3 := (cell_far (p := ⟨gb246, 1, none⟩) (zy hn247_1) (.int .i64 0)).trans hx247_3
         replace hx247_4 := (cell_far (p := ⟨gb246, 1, none⟩) (zy hn247_1) (.int .i64 0)).trans hx247_4
         replace hx247_0 := (cell_far (p := ⟨gb246, 2, none⟩) (zy hn247_2) (.int .i64 ((rd_T74 l2 0).f2))).trans hx247_0
         replace hx247_1 := (cell_far (p := ⟨gb246, 2, none⟩) (zy hn247_2) (.int .i64 ((rd_T74 l2 0).f2))).trans hx247_1
         replace hx247_2 := (cell_far (p := ⟨gb246, 2, none⟩) (zy hn247_2) (.int .i64 ((rd_T74 l2 0).f2))).trans hx247_2
         replace hx247_3 := (cell_far (p := ⟨gb246, 2, none⟩) (zy hn247_2) (.int .i64 ((rd_T74 l2 0).f2))).trans hx247_3
         replace hx247_4 := (cell_far (p := ⟨gb246, 2, none⟩) (zy hn247_2) (.int .i64 ((rd_T74 l2 0).f2))).trans hx247_4
         replace hx247_0 := (cell_far (p := ⟨gb246, 3, none⟩) (zy hn247_3) (.int .i64 ((rd_T74 l2 0).f3))).trans hx247_0
         replace hx247_1 := (cell_far (p := ⟨gb246, 3, none⟩) (zy hn247_3) (.int .i64 ((rd_T74 l2 0).f3))).trans hx247_1
         replace hx247_2 := (cell_far (p := ⟨gb246, 3, none⟩) (zy hn247_3) (.int .i64 ((rd_T74 l2 0).f3))).trans hx247_2
         replace hx247_3 := (cell_far (p := ⟨gb246, 3, none⟩) (zy hn247_3) (.int .i64 ((rd_T74 l2 0).f3))).trans hx247_3
         replace hx247_4 := (cell_far (p := ⟨gb246, 3, none⟩) (zy hn247_3) (.int .i64 ((rd_T74 l2 0).f3))).trans hx247_4
         clear hn247_0
         clear hn247_1
         clear hn247_2
         clear hn247_3
         replace p247 := eq_true p247
         replace q247 := eq_true q247
         have hnb32 := NB239_240.out
         have hnc32 := NB240_239.out
         have hnb33 := NB239_246.out
         have hnc33 := NB246_239.out
         have hcz34_0 : w27.cell? ⟨gb239, 0, none⟩ = some (.bool a0_0) := (blk_cell BK239.out 0).trans rfl
         have hcz34_1 : w27.cell? ⟨gb239, 1, none⟩ = some (.int .i64 a0_1) := (blk_cell BK239.out 1).trans rfl
         have hfz34_0 := blk_frozen BK239.out 0
         have hfz34_1 := blk_frozen BK239.out 1
         have hnb35 := NB246_240.out
         have hnc35 := NB240_246.out
         have hcz36_0 : w27.cell? ⟨gb246, 0, none⟩ = some (.bool false) := (blk_cell BK246.out 0).trans rfl
         have hcz36_1 : w27.cell? ⟨gb246, 1, none⟩ = some (.int .i64 0) := (blk_cell BK246.out 1).trans rfl
         have hcz36_2 : w27.cell? ⟨gb246, 2, none⟩ = some (.int .i64 0) := (blk_cell BK246.out 2).trans rfl
         have hcz36_3 : w27.cell? ⟨gb246, 3, none⟩ = some (.int .i64 0) := (blk_cell BK246.out 3).trans rfl
         have hfz36_0 := blk_frozen BK246.out 0
         have hfz36_1 := blk_frozen BK246.out 1
         have hfz36_2 := blk_frozen BK246.out 2
         have hfz36_3 := blk_frozen BK246.out 3
         try go_wp2_with (first | (go_at_call 72; (with_reducible refine (cellarref7_Put.calls k1 a0_0 a0_1 a1 true 0 ((rd_T74 l2 0).f2) ((rd_T74 l2 0).f3) t248 _ A23.out).mono ?_); rintro e w37 ⟨v249, rfl, ho0, hb⟩; have n0_ := Aside0.mk (Kd.R_lower ho0 (below_size (zw3 HB.out GE239.out GE240.out GE246.out))); have n1_ := Aside0.mk (blk_below (g := gb239) (o := .cells #[.bool a0_0, .int .i64 a0_1] 29 (0, 0)) (zf1 BK239.out NB239_246.out) hb); have n2_ := Aside0.mk (blk_below (g := gb240) (o := .cells #[.bool x241000_1, .int .i64 x241001_1, .int .i64 x241002_1, .int .i64 x241003_1] 62 (0, 0)) (zf1 BK240.out NB240_246.out) hb); have n3_ := Aside0.mk (blk_below (g := gb246) (o := .cells #[.bool true, .int .i64 0, .int .i64 ((rd_T74 l2 0).f2), .int .i64 ((rd_T74 l2 0).f3)] 62 (0, 0)) (by (with_reducible repeat (first | refine blk_drewN ?_ _ | refine blk_drew ?_ | refine blk_alloc ?_ _)); refine blk_put (cs := #[.bool true, .int .i64 0, .int .i64 ((rd_T74 l2 0).f2), .int .i64 0]) ?_ 3 _ rfl; (with_reducible repeat (first | refine blk_drewN ?_ _ | refine blk_drew ?_ | refine blk_alloc ?_ _)); refine blk_put (cs := #[.bool true, .int .i64 0, .int .i64 0, .int .i64 0]) ?_ 2 _ rfl; (with_reducible repeat (first | refine blk_drewN ?_ _ | refine blk_drew ?_ | refine blk_alloc ?_ _)); refine blk_put (cs := #[.bool true, .int .i64 0, .int .i64 0, .int .i64 0]) ?_ 1 _ rfl; (with_reducible repeat (first | refine blk_drewN ?_ _ | refine blk_drew ?_ | refine blk_alloc ?_ _)); refine blk_put (cs := #[.bool false, .int .i64 0, .int .i64 0, .int .i64 0]) ?_ 0 _ rfl; (with_reducible repeat (first | refine blk_drewN ?_ _ | refine blk_drew ?_ | refine blk_alloc ?_ _)); exact BK246.out) hb); have n4_ := Aside0.mk (below_step (zw3 HB.out GE239.out GE240.out GE246.out) hb); clear BK239; clear BK240; clear BK246; clear HB; have HO250 := n0_; have BK239 := n1_; have BK240 := n2_; have BK246 := n3_; have HB := n4_; clear n0_ n1_ n2_ n3_ n4_; (try clear hb); (try clear hb2); (try clear hk); (try clear hi); (try clear ho0); obtain ⟨Ao38, co38, eo38⟩ := Kd.R_slice HO250.out; subst eo38) | (go_at_call 105; (with_reducible refine (cellarref0_EqBytes.calls k1 _ _ t248 _ _ l2 true _ ?side1 ?side2 ?side3 ?side4 A24.out).mono ?_); (case side1 => repeat (first | exact (Kd.R_reads' HO250.out).2.2 | (with_reducible refine Kd.C_alloc ?_ _) | (with_reducible refine Kd.C_drewN ?_ _) | (with_reducible refine Kd.C_drew ?_))); (case side2 => exact (Kd.R_reads' HO250.out).2.1); (case side3 => repeat (first | exact (Kd.C_below HR2.out HB.out) | (with_reducible refine Kd.C_alloc ?_ _) | (with_reducible refine Kd.C_drewN ?_ _) | (with_reducible refine Kd.C_drew ?_))); (case side4 => exact HC2.out); rintro e w' ⟨rfl, ⟨nd, rfl⟩⟩; (try (rw [drewN_self w37]; generalize hq_ : World.drewN w37 _ = w37; have n0_ : Aside0 (Kd.R k74 74 w37 w.heap.size (fun _ => True) (.slice Ao38 t248.length co38) t248) := ⟨by rw [← hq_]; exact (by (with_reducible repeat (first | apply Kd.R_alloc | apply Kd.R_drewN | apply Kd.R_drew)); exact HO250.out)⟩; have n1_ : Aside0 (w37.heap[gb239]? = some (.cells #[.bool a0_0, .int .i64 a0_1] 29 (0, 0))) := ⟨by rw [← hq_]; exact (zb BK239.out)⟩; have n2_ : Aside0 (w37.heap[gb240]? = some (.cells #[.bool x241000_1, .int .i64 x241001_1, .int .i64 x241002_1, .int .i64 x241003_1] 62 (0, 0))) := ⟨by rw [← hq_]; exact (zb BK240.out)⟩; have n3_ : Aside0 (w37.heap[gb246]? = some (.cells #[.bool true, .int .i64 0, .int .i64 ((rd_T74 l2 0).f2), .int .i64 ((rd_T74 l2 0).f3)] 62 (0, 0))) := ⟨by rw [← hq_]; exact (zb BK246.out)⟩; have n4_ : Aside0 (Below w.heap.size w w37) := ⟨by rw [← hq_]; exact (zw3 HB.out GE239.out GE240.out GE246.out)⟩; clear HO250 BK239 BK240 BK246 HB hq_; have HO250 := n0_; have BK239 := n1_; have BK240 := n2_; have BK246 := n3_; have HB := n4_; clear n0_ n1_ n2_ n3_ n4_)); have hcz39_0 : w37.cell? ⟨gb246, 0, none⟩ = some (.bool true) := (blk_cell BK246.out 0).trans rfl; have hcz39_1 : w37.cell? ⟨gb246, 1, none⟩ = some (.int .i64 0) := (blk_cell BK246.out 1).trans rfl; have hcz39_2 : w37.cell? ⟨gb246, 2, none⟩ = some (.int .i64 ((rd_T74 l2 0).f2)) := (blk_cell BK246.out 2).trans rfl; have hcz39_3 : w37.cell? ⟨gb246, 3, none⟩ = some (.int .i64 ((rd_T74 l2 0).f3)) := (blk_cell BK246.out 3).trans rfl; have hfz39_0 := blk_frozen BK246.out 0; have hfz39_1 := blk_frozen BK246.out 1; have hfz39_2 := blk_frozen BK246.out 2; have hfz39_3 := blk_frozen BK246.out 3; have hcz40_0 : w37.cell? ⟨gb240, 0, none⟩ = some (.bool x241000_1) := (blk_cell BK240.out 0).trans rfl; have hcz40_1 : w37.cell? ⟨gb240, 1, none⟩ = some (.int .i64 x241001_1) := (blk_cell BK240.out 1).trans rfl; have hcz40_2 : w37.cell? ⟨gb240, 2, none⟩ = some (.int .i64 x241002_1) := (blk_cell BK240.out 2).trans rfl; have hcz40_3 : w37.cell? ⟨gb240, 3, none⟩ = some (.int .i64 x241003_1) := (blk_cell BK240.out 3).trans rfl; have hfz40_0 := blk_frozen BK240.out 0; have hfz40_1 := blk_frozen BK240.out 1; have hfz40_2 := blk_frozen BK240.out 2; have hfz40_3 := blk_frozen BK240.out 3))
         refine bodyPost_ret (results_ct rfl _ _ gb240 62 #[.bool true, .int .i64 0, .int .i64 ((rd_T74 l2 0).f2), .int .i64 ((rd_T74 l2 0).f3)] (0, 0) _ rfl (by (with_reducible repeat (first | refine blk_drewN ?_ _ | refine blk_drew ?_ | refine blk_alloc ?_ _)); refine blk_put (cs := #[.bool true, .int .i64 0, .int .i64 ((rd_T74 l2 0).f2), .int .i64 x241003_1]) ?_ 3 _ rfl; (with_reducible repeat (first | refine blk_drewN ?_ _ | refine blk_drew ?_ | refine blk_alloc ?_ _)); refine blk_put (cs := #[.bool true, .int .i64 0, .int .i64 x241002_1, .int .i64 x241003_1]) ?_ 2 _ rfl; (with_reducible repeat (first | refine blk_drewN ?_ _ | refine blk_drew ?_ | refine blk_alloc ?_ _)); refine blk_put (cs := #[.bool true, .int .i64 x241001_1, .int .i64 x241002_1, .int .i64 x241003_1]) ?_ 1 _ rfl; (with_reducible repeat (first | refine blk_drewN ?_ _ | refine blk_drew ?_ | refine blk_alloc ?_ _)); refine blk_put (cs := #[.bool x241000_1, .int .i64 x241001_1, .int .i64 x241002_1, .int .i64 x241003_1]) ?_ 0 _ rfl; (with_reducible repeat (first | refine blk_drewN ?_ _ | refine blk_drew ?_ | refine blk_alloc ?_ _)); exact BK240.out) Try.underlying62 rfl (by kernel_rfl)) rfl ?_
         exact ⟨by first | rfl | (simp [errW_none, errW_some] <;> rfl) | (simp [*, errW_none, errW_some] <;> rfl), zw3 HB.out GE239.out GE240.out GE246.out⟩
        ·replace c25 := Bool.eq_false_iff.mpr c25
         subst c25
         have H1 : (some (false, 0, 0, 0, 8)) = some (r1, r2, r3, r4, r5) := by rw [if_neg (show ¬ (false = true) by decide)] at H; exact H
         clear H
         have H := H1
         clear H1
         simp only [Option.some.injEq, Prod.mk.injEq] at H
         obtain ⟨rfl, rfl, rfl, rfl, rfl⟩ := H
         try go_wp2
         have n0_ := Aside0.mk (blk_drew BK239.out)
         have n1_ := Aside0.mk (blk_drew BK240.out)
         have n2_ := Aside0.mk (below_drew1 HB.out)
         clear BK239
         clear BK240
         clear HB
         have BK239 := n0_
         have BK240 := n1_
         have HB := n2_
         clear n0_ n1_ n2_
         have p244 : 0 ≤ (0 : Int) := (by omega)
         have q244 : 0 < (l2.length : Int) := zdec
         obtain ⟨ad244, e244, hx244_0, hx244_1, hx244_2, hx244_3, hx244_4⟩ := at_T74 HR2.out 0 p244 q244
         have hw244_4 := hx244_4
         (try rw [show ((0 : Int)).toNat = 0 from rfl] at hw244_4)
         (try rw [show 0 * 5 = 0 from rfl] at hw244_4)
         (try rw [Addr.add_zero'] at hw244_4)
         have hw244_3 := hx244_3
         (try rw [show ((0 : Int)).toNat = 0 from rfl] at hw244_3)
         (try rw [show 0 * 5 = 0 from rfl] at hw244_3)
         (try rw [Addr.add_zero'] at hw244_3)
         have hw244_2 := hx244_2
         (try rw [show ((0 : Int)).toNat = 0 from rfl] at hw244_2)
         (try rw [show 0 * 5 = 0 from rfl] at hw244_2)
         (try rw [Addr.add_zero'] at hw244_2)
         have hw244_1 := hx244_1
         (try rw [show ((0 : Int)).toNat = 0 from rfl] at hw244_1)
         (try rw [show 0 * 5 = 0 from rfl] at hw244_1)
         (try rw [Addr.add_zero'] at hw244_1)
         have hw244_0 := hx244_0
         (try rw [show ((0 : Int)).toNat = 0 from rfl] at hw244_0)
         (try rw [show 0 * 5 = 0 from rfl] at hw244_0)
         (try rw [Addr.add_zero'] at hw244_0)
         cases e244
         have qi244 : (0 < l2.length) = True := eq_true (by omega)
         (try rw [show ((0 : Int)).toNat = 0 from rfl] at hx244_0)
         (try rw [show 0 * 5 = 0 from rfl] at hx244_0)
         (try rw [Addr.add_zero'] at hx244_0)
         (try rw [show ((0 : Int)).toNat = 0 from rfl] at hx244_1)
         (try rw [show 0 * 5 = 0 from rfl] at hx244_1)
         (try rw [Addr.add_zero'] at hx244_1)
         (try rw [show ((0 : Int)).toNat = 0 from rfl] at hx244_2)
         (try rw [show 0 * 5 = 0 from rfl] at hx244_2)
         (try rw [Addr.add_zero'] at hx244_2)
         (try rw [show ((0 : Int)).toNat = 0 from rfl] at hx244_3)
         (try rw [show 0 * 5 = 0 from rfl] at hx244_3)
         (try rw [Addr.add_zero'] at hx244_3)
         (try rw [show ((0 : Int)).toNat = 0 from rfl] at hx244_4)
         (try rw [show 0 * 5 = 0 from rfl] at hx244_4)
         (try rw [Addr.add_zero'] at hx244_4)
         replace hx244_0 := (HB.out.cell (World.block_lt_of_cell? w _ hx244_0)).trans hx244_0
         replace hx244_1 := (HB.out.cell (World.block_lt_of_cell? w _ hx244_1)).trans hx244_1
         replace hx244_2 := (HB.out.cell (World.block_lt_of_cell? w _ hx244_2)).trans hx244_2
         replace hx244_3 := (HB.out.cell (World.block_lt_of_cell? w _ hx244_3)).trans hx244_3
         replace hx244_4 := (HB.out.cell (World.block_lt_of_cell? w _ hx244_4)).trans hx244_4
         replace p244 := eq_true p244
         replace q244 := eq_true q244
         have p245 : 0 ≤ (0 : Int) := (by omega)
         have q245 : 0 < (l2.length : Int) := zdec
         obtain ⟨ad245, e245, hx245_0, hx245_1, hx245_2, hx245_3, hx245_4⟩ := at_T74 HR2.out 0 p245 q245
         have hw245_4 := hx245_4
         (try rw [show ((0 : Int)).toNat = 0 from rfl] at hw245_4)
         (try rw [show 0 * 5 = 0 from rfl] at hw245_4)
         (try rw [Addr.add_zero'] at hw245_4)
         have hw245_3 := hx245_3
         (try rw [show ((0 : Int)).toNat = 0 from rfl] at hw245_3)
         (try rw [show 0 * 5 = 0 from rfl] at hw245_3)
         (try rw [Addr.add_zero'] at hw245_3)
         have hw245_2 := hx245_2
         (try rw [show ((0 : Int)).toNat = 0 from rfl] at hw245_2)
         (try rw [show 0 * 5 = 0 from rfl] at hw245_2)
         (try rw [Addr.add_zero'] at hw245_2)
         have hw245_1 := hx245_1
         (try rw [show ((0 : Int)).toNat = 0 from rfl] at hw245_1)
         (try rw [show 0 * 5 = 0 from rfl] at hw245_1)
         (try rw [Addr.add_zero'] at hw245_1)
         have hw245_0 := hx245_0
         (try rw [show ((0 : Int)).toNat = 0 from rfl] at hw245_0)
         (try rw [show 0 * 5 = 0 from rfl] at hw245_0)
         (try rw [Addr.add_zero'] at hw245_0)
         obtain rfl : ad244 = ad245 := (by injection e245)
         have qi245 : (0 < l2.length) = True := eq_true (by omega)
         (try rw [show ((0 : Int)).toNat = 0 from rfl] at hx245_0)
         (try rw [show 0 * 5 = 0 from rfl] at hx245_0)
         (try rw [Addr.add_zero'] at hx245_0)
         (try rw [show ((0 : Int)).toNat = 0 from rfl] at hx245_1)
         (try rw [show 0 * 5 = 0 from rfl] at hx245_1)
         (try rw [Addr.add_zero'] at hx245_1)
         (try rw [show ((0 : Int)).toNat = 0 from rfl] at hx245_2)
         (try rw [show 0 * 5 = 0 from rfl] at hx245_2)
         (try rw [Addr.add_zero'] at hx245_2)
         (try rw [show ((0 : Int)).toNat = 0 from rfl] at hx245_3)
         (try rw [show 0 * 5 = 0 from rfl] at hx245_3)
         (try rw [Addr.add_zero'] at hx245_3)
         (try rw [show ((0 : Int)).toNat = 0 from rfl] at hx245_4)
         (try rw [show 0 * 5 = 0 from rfl] at hx245_4)
         (try rw [Addr.add_zero'] at hx245_4)
         replace hx245_0 := (HB.out.cell (World.block_lt_of_cell? w _ hx245_0)).trans hx245_0
         replace hx245_1 := (HB.out.cell (World.block_lt_of_cell? w _ hx245_1)).trans hx245_1
         replace hx245_2 := (HB.out.cell (World.block_lt_of_cell? w _ hx245_2)).trans hx245_2
         replace hx245_3 := (HB.out.cell (World.block_lt_of_cell? w _ hx245_3)).trans hx245_3
         replace hx245_4 := (HB.out.cell (World.block_lt_of_cell? w _ hx245_4)).trans hx245_4
         replace p245 := eq_true p245
         replace q245 := eq_true q245
         refine start_ (n := 11) (S := fun w' => w'.cell? ad244 = some (.int .i64 ((rd_T74 l2 0).f0)) ∧ w'.cell? ⟨ad244.block, ad244.off + 1, none⟩ = some (.int .i64 ((rd_T74 l2 0).f1)) ∧ w'.cell? ⟨ad244.block, ad244.off + 2, none⟩ = some (.int .i64 ((rd_T74 l2 0).f2)) ∧ w'.cell? ⟨ad244.block, ad244.off + 3, none⟩ = some (.int .i64 ((rd_T74 l2 0).f3)) ∧ w'.cell? ⟨ad244.block, ad244.off + 4, none⟩ = some (.int .i64 ((rd_T74 l2 0).f4)) ∧ w'.cell? ad244 = some (.int .i64 ((rd_T74 l2 0).f0)) ∧ w'.cell? ⟨ad244.block, ad244.off + 1, none⟩ = some (.int .i64 ((rd_T74 l2 0).f1)) ∧ w'.cell? ⟨ad244.block, ad244.off + 2, none⟩ = some (.int .i64 ((rd_T74 l2 0).f2)) ∧ w'.cell? ⟨ad244.block, ad244.off + 3, none⟩ = some (.int .i64 ((rd_T74 l2 0).f3)) ∧ w'.cell? ⟨ad244.block, ad244.off + 4, none⟩ = some (.int .i64 ((rd_T74 l2 0).f4))) (ds := []) #[false,false,false,false,false,false,false,false,false,false,false] (by kernel_rfl) rfl rfl ⟨((HB.out.cell (World.block_lt_of_cell? w _ hw244_0)).trans hw244_0), ((HB.out.cell (World.block_lt_of_cell? w _ hw244_1)).trans hw244_1), ((HB.out.cell (World.block_lt_of_cell? w _ hw244_2)).trans hw244_2), ((HB.out.cell (World.block_lt_of_cell? w _ hw244_3)).trans hw244_3), ((HB.out.cell (World.block_lt_of_cell? w _ hw244_4)).trans hw244_4), ((HB.out.cell (World.block_lt_of_cell? w _ hw245_0)).trans hw245_0), ((HB.out.cell (World.block_lt_of_cell? w _ hw245_1)).trans hw245_1), ((HB.out.cell (World.block_lt_of_cell? w _ hw245_2)).trans hw245_2), ((HB.out.cell (World.block_lt_of_cell? w _ hw245_3)).trans hw245_3), ((HB.out.cell (World.block_lt_of_cell? w _ hw245_4)).trans hw245_4)⟩ (fun hHeld => ?_); refine with_tabW cellarref7_Get.tab17 cellarref7_Get.bits17 (fun HT_ HW_ => ?_)
         generalize wr.drew = w41 at BK239 BK240 HB hx244_0 hx244_1 hx244_2 hx244_3 hx244_4 hx245_0 hx245_1 hx245_2 hx245_3 hx245_4 hHeld ⊢
         refine pure_ (i := 0) (N := some 54) (v := ?_) (a' := ?_) #[true,false,false,false,false,false,false,false,false,false,false] rfl rfl (any_of HT_.out (by kernel_rfl)) (fun _ _ _ h => h) (Or.inl ⟨by rfl, ?_⟩) ?_ ?_
         rotate_left
         ·intro w'
          go_simp
          with_reducible rfl
         rotate_left
         ·simp only [Act.put, List.setIfInBounds_toArray, List.set_cons_zero, List.set_cons_succ, i64_w, i32_w]
          rfl
         refine pure_ (i := 1) (N := some 55) (v := ?_) (a' := ?_) #[true,true,false,false,false,false,false,false,false,false,false] rfl rfl (any_of HT_.out (by kernel_rfl)) (fun _ _ _ h => h) (Or.inl ⟨by rfl, ?_⟩) ?_ ?_
         rotate_left
         ·intro w'
          go_simp
          with_reducible rfl
         rotate_left
         ·simp only [Act.put, List.setIfInBounds_toArray, List.set_cons_zero, List.set_cons_succ, i64_w, i32_w]
          rfl
         refine pure_ (i := 2) (N := some 56) (v := ?_) (a' := ?_) #[true,true,true,false,false,false,false,false,false,false,false] rfl rfl (any_of HT_.out (by kernel_rfl)) (fun _ _ _ h => h) (Or.inl ⟨by rfl, ?_⟩) ?_ ?_
         rotate_left
         ·intro w'
          go_simp
          with_reducible rfl
         rotate_left
         ·simp only [Act.put, List.setIfInBounds_toArray, List.set_cons_zero, List.set_cons_succ, i64_w, i32_w]
          rfl
         refine pure_ (i := 4) (N := some 58) (v := ?_) (a' := ?_) #[true,true,true,false,true,false,false,false,false,false,false] rfl rfl (any_of HT_.out (by kernel_rfl)) (fun _ _ _ h => h) (Or.inl ⟨by rfl, ?_⟩) ?_ ?_
         rotate_left
         ·intro w'
          go_simp
          with_reducible rfl
         rotate_left
         ·simp only [Act.put, List.setIfInBounds_toArray, List.set_cons_zero, List.set_cons_succ, i64_w, i32_w]
          rfl
         refine pure_ (i := 5) (N := some 59) (v := ?_) (a' := ?_) #[true,true,true,false,true,true,false,false,false,false,false] rfl rfl (any_of HT_.out (by kernel_rfl)) (fun _ _ _ h => h) (Or.inl ⟨by rfl, ?_⟩) ?_ ?_
         rotate_left
         ·intro w'
          go_simp
          with_reducible rfl
         rotate_left
         ·simp only [Act.put, List.setIfInBounds_toArray, List.set_cons_zero, List.set_cons_succ, i64_w, i32_w]
          rfl
         refine pure_ (i := 6) (N := some 60) (v := ?_) (a' := ?_) #[true,true,true,false,true,true,true,false,false,false,false] rfl rfl (any_of HT_.out (by kernel_rfl)) (fun _ _ _ h => h) (Or.inl ⟨by rfl, ?_⟩) ?_ ?_
         rotate_left
         ·intro w'
          go_simp
          with_reducible rfl
         rotate_left
         ·simp only [Act.put, List.setIfInBounds_toArray, List.set_cons_zero, List.set_cons_succ, i64_w, i32_w]
          rfl
         refine take_ (i := 3) (N := some 57) (v := ?_) (a' := ?_) #[true,true,true,true,true,true,true,false,false,false,false] rfl rfl (take_ofW HT_.out HW_.out (by kernel_rfl)) (fun _ _ _ h => h) (Or.inl ⟨by rfl, ?_⟩) hHeld ?_ ?_
         rotate_left
         ·rintro w' ⟨s0, s1, s2, s3, s4, s5, s6, s7, s8, s9⟩
          go_simp
          with_reducible rfl
         rotate_left
         ·simp only [Act.put, List.setIfInBounds_toArray, List.set_cons_zero, List.set_cons_succ, i64_w, i32_w]
          rfl
         refine take_ (i := 7) (N := some 61) (v := ?_) (a' := ?_) #[true,true,true,true,true,true,true,true,false,false,false] rfl rfl (take_ofW HT_.out HW_.out (by kernel_rfl)) (fun _ _ _ h => h) (Or.inl ⟨by rfl, ?_⟩) hHeld ?_ ?_
         rotate_left
         ·rintro w' ⟨s0, s1, s2, s3, s4, s5, s6, s7, s8, s9⟩
          go_simp
          with_reducible rfl
         rotate_left
         ·simp only [Act.put, List.setIfInBounds_toArray, List.set_cons_zero, List.set_cons_succ, i64_w, i32_w]
          rfl
         refine pure_ (i := 8) (N := some 62) (v := ?_) (a' := ?_) #[true,true,true,true,true,true,true,true,true,false,false] rfl rfl (any_of HT_.out (by kernel_rfl)) (fun _ _ _ h => h) (Or.inl ⟨by rfl, ?_⟩) ?_ ?_
         rotate_left
         ·intro w'
          go_simp
          with_reducible rfl
         rotate_left
         ·simp only [Act.put, List.setIfInBounds_toArray, List.set_cons_zero, List.set_cons_succ, i64_w, i32_w]
          rfl
         refine one_ (i := 9) (N := some 11) #[true,true,true,true,true,true,true,true,true,true,false] rfl rfl (one_of HT_.out (by kernel_rfl)) (by decide) (fun K hK => ?_)
         refine box_step ?hg (N := 11) ?hd (cs := #[.bool false, .int .i64 0, .int .i64 0, .int .i64 0]) (t := 62) ?hr ?_; (case hd => rfl); (case hg => rfl); (case hr => first | (go_simp; done) | (go_simp; rfl))
         intro gb246 hg w42 hbox hb
         have n0_ := Aside0.mk (blk_below (g := gb239) (o := .cells #[.bool a0_0, .int .i64 a0_1] 29 (0, 0)) (zb BK239.out) hb)
         have n1_ := Aside0.mk (blk_below (g := gb240) (o := .cells #[.bool x241000_1, .int .i64 x241001_1, .int .i64 x241002_1, .int .i64 x241003_1] 62 (0, 0)) (zb BK240.out) hb)
         have n2_ := Aside0.mk (below_step (zw2 HB.out GE239.out GE240.out) hb)
         have n3_ := Aside0.mk (hbox)
         have n4_ := Aside0.mk ((by rw [hg]; exact (below_size (zw2 HB.out GE239.out GE240.out)) : w.heap.size ≤ gb246))
         have n5_ := Aside0.mk ((by rw [hg]; exact (below_size (zw2 HB.out GE239.out GE240.out)) : w.heap.size ≤ gb246))
         have n6_ := Aside0.mk ((by rw [hg]; exact Nat.ne_of_lt (blk_lt (g := gb239) (o := .cells #[.bool a0_0, .int .i64 a0_1] 29 (0, 0)) (zb BK239.out)) : gb239 ≠ gb246))
         have n7_ := Aside0.mk ((by rw [hg]; exact Nat.ne_of_gt (blk_lt (g := gb239) (o := .cells #[.bool a0_0, .int .i64 a0_1] 29 (0, 0)) (zb BK239.out)) : gb246 ≠ gb239))
         have n8_ := Aside0.mk ((by rw [hg]; exact Nat.ne_of_lt (blk_lt (g := gb240) (o := .cells #[.bool x241000_1, .int .i64 x241001_1, .int .i64 x241002_1, .int .i64 x241003_1] 62 (0, 0)) (zb BK240.out)) : gb240 ≠ gb246))
         have n9_ := Aside0.mk ((by rw [hg]; exact Nat.ne_of_gt (blk_lt (g := gb240) (o := .cells #[.bool x241000_1, .int .i64 x241001_1, .int .i64 x241002_1, .int .i64 x241003_1] 62 (0, 0)) (zb BK240.out)) : gb246 ≠ gb240))
         clear BK239
         clear BK240
         clear HB
         have BK239 := n0_
         have BK240 := n1_
         have HB := n2_
         have BK246 := n3_
         have GW246 := n4_
         have GE246 := n5_
         have NB239_246 := n6_
         have NB246_239 := n7_
         have NB240_246 := n8_
         have NB246_240 := n9_
         clear n0_ n1_ n2_ n3_ n4_ n5_ n6_ n7_ n8_ n9_
         clear hb hbox hg
         refine hK.out _ _ ⟨((HB.out.cell (World.block_lt_of_cell? w _ hw244_0)).trans hw244_0), ((HB.out.cell (World.block_lt_of_cell? w _ hw244_1)).trans hw244_1), ((HB.out.cell (World.block_lt_of_cell? w _ hw244_2)).trans hw244_2), ((HB.out.cell (World.block_lt_of_cell? w _ hw244_3)).trans hw244_3), ((HB.out.cell (World.block_lt_of_cell? w _ hw244_4)).trans hw244_4), ((HB.out.cell (World.block_lt_of_cell? w _ hw245_0)).trans hw245_0), ((HB.out.cell (World.block_lt_of_cell? w _ hw245_1)).trans hw245_1), ((HB.out.cell (World.block_lt_of_cell? w _ hw245_2)).trans hw245_2), ((HB.out.cell (World.block_lt_of_cell? w _ hw245_3)).trans hw245_3), ((HB.out.cell (World.block_lt_of_cell? w _ hw245_4)).trans hw245_4)⟩ (fun hHeld => ?_)
         clear hK K
         refine norm_ (a' := ?_) ?_ ?_
         rotate_left
         ·show Act.put _ (some 11) _ = _
          simp only [Act.put, List.setIfInBounds_toArray, List.set_cons_zero, List.set_cons_succ, i64_w, i32_w]
          rfl
         refine one_ (i := 10) (N := none) #[true,true,true,true,true,true,true,true,true,true,true] rfl rfl (one_of HT_.out (by kernel_rfl)) (by decide) (fun K hK => ?_)
         have hs43 : w42.cell? ⟨gb246, 0, none⟩ = some (.bool false) := (blk_cell BK246.out 0).trans rfl
         have hfs43 := blk_frozen BK246.out 0
         have hns43_0 := NB239_246.out
         have hns43_1 := NB240_246.out
         have hms43_0 := NB246_239.out
         have hms43_1 := NB246_240.out
         have hs44 : w42.cell? ⟨gb246, 1, none⟩ = some (.int .i64 0) := (blk_cell BK246.out 1).trans rfl
         have hfs44 := blk_frozen BK246.out 1
         have hns44_0 := NB239_246.out
         have hns44_1 := NB240_246.out
         have hms44_0 := NB246_239.out
         have hms44_1 := NB246_240.out
         have hs45 : w42.cell? ⟨gb246, 2, none⟩ = some (.int .i64 0) := (blk_cell BK246.out 2).trans rfl
         have hfs45 := blk_frozen BK246.out 2
         have hns45_0 := NB239_246.out
         have hns45_1 := NB240_246.out
         have hms45_0 := NB246_239.out
         have hms45_1 := NB246_240.out
         have hs46 : w42.cell? ⟨gb246, 3, none⟩ = some (.int .i64 0) := (blk_cell BK246.out 3).trans rfl
         have hfs46 := blk_frozen BK246.out 3
         have hns46_0 := NB239_246.out
         have hns46_1 := NB240_246.out
         have hms46_0 := NB246_239.out
         have hms46_1 := NB246_240.out
         refine skip_ (w1 := ?_) (by rfl) rfl ?_ ?_
         rotate_left
         ·go_simp
          rfl
         refine hK.out _ _ ⟨((cell_far (p := ⟨gb246, _, none⟩) (zx (zfar hw244_0 GW246.out)) _).trans (((cell_far (p := ⟨gb246, _, none⟩) (zx (zfar hw244_0 GW246.out)) _).trans (((cell_far (p := ⟨gb246, _, none⟩) (zx (zfar hw244_0 GW246.out)) _).trans (((cell_far (p := ⟨gb246, _, none⟩) (zx (zfar hw244_0 GW246.out)) _).trans (hHeld.1)))))))), ((cell_far (p := ⟨gb246, _, none⟩) (zx (zfar hw244_1 GW246.out)) _).trans (((cell_far (p := ⟨gb246, _, none⟩) (zx (zfar hw244_1 GW246.out)) _).trans (((cell_far (p := ⟨gb246, _, none⟩) (zx (zfar hw244_1 GW246.out)) _).trans (((cell_far (p := ⟨gb246, _, none⟩) (zx (zfar hw244_1 GW246.out)) _).trans (hHeld.2.1)))))))), ((cell_far (p := ⟨gb246, _, none⟩) (zx (zfar hw244_2 GW246.out)) _).trans (((cell_far (p := ⟨gb246, _, none⟩) (zx (zfar hw244_2 GW246.out)) _).trans (((cell_far (p := ⟨gb246, _, none⟩) (zx (zfar hw244_2 GW246.out)) _).trans (((cell_far (p := ⟨gb246, _, none⟩) (zx (zfar hw244_2 GW246.out)) _).trans (hHeld.2.2.1)))))))), ((cell_far (p := ⟨gb246, _, none⟩) (zx (zfar hw244_3 GW246.out)) _).trans (((cell_far (p := ⟨gb246, _, none⟩) (zx (zfar hw244_3 GW246.out)) _).trans (((cell_far (p := ⟨gb246, _, none⟩) (zx (zfar hw244_3 GW246.out)) _).trans (((cell_far (p := ⟨gb246, _, none⟩) (zx (zfar hw244_3 GW246.out)) _).trans (hHeld.2.2.2.1)))))))), ((cell_far (p := ⟨gb246, _, none⟩) (zx (zfar hw244_4 GW246.out)) _).trans (((cell_far (p := ⟨gb246, _, none⟩) (zx (zfar hw244_4 GW246.out)) _).trans (((cell_far (p := ⟨gb246, _, none⟩) (zx (zfar hw244_4 GW246.out)) _).trans (((cell_far (p := ⟨gb246, _, none⟩) (zx (zfar hw244_4 GW246.out)) _).trans (hHeld.2.2.2.2.1)))))))), ((cell_far (p := ⟨gb246, _, none⟩) (zx (zfar hw245_0 GW246.out)) _).trans (((cell_far (p := ⟨gb246, _, none⟩) (zx (zfar hw245_0 GW246.out)) _).trans (((cell_far (p := ⟨gb246, _, none⟩) (zx (zfar hw245_0 GW246.out)) _).trans (((cell_far (p := ⟨gb246, _, none⟩) (zx (zfar hw245_0 GW246.out)) _).trans (hHeld.2.2.2.2.2.1)))))))), ((cell_far (p := ⟨gb246, _, none⟩) (zx (zfar hw245_1 GW246.out)) _).trans (((cell_far (p := ⟨gb246, _, none⟩) (zx (zfar hw245_1 GW246.out)) _).trans (((cell_far (p := ⟨gb246, _, none⟩) (zx (zfar hw245_1 GW246.out)) _).trans (((cell_far (p := ⟨gb246, _, none⟩) (zx (zfar hw245_1 GW246.out)) _).trans (hHeld.2.2.2.2.2.2.1)))))))), ((cell_far (p := ⟨gb246, _, none⟩) (zx (zfar hw245_2 GW246.out)) _).trans (((cell_far (p := ⟨gb246, _, none⟩) (zx (zfar hw245_2 GW246.out)) _).trans (((cell_far (p := ⟨gb246, _, none⟩) (zx (zfar hw245_2 GW246.out)) _).trans (((cell_far (p := ⟨gb246, _, none⟩) (zx (zfar hw245_2 GW246.out)) _).trans (hHeld.2.2.2.2.2.2.2.1)))))))), ((cell_far (p := ⟨gb246, _, none⟩) (zx (zfar hw245_3 GW246.out)) _).trans (((cell_far (p := ⟨gb246, _, none⟩) (zx (zfar hw245_3 GW246.out)) _).trans (((cell_far (p := ⟨gb246, _, none⟩) (zx (zfar hw245_3 GW246.out)) _).trans (((cell_far (p := ⟨gb246, _, none⟩) (zx (zfar hw245_3 GW246.out)) _).trans (hHeld.2.2.2.2.2.2.2.2.1)))))))), ((cell_far (p := ⟨gb246, _, none⟩) (zx (zfar hw245_4 GW246.out)) _).trans (((cell_far (p := ⟨gb246, _, none⟩) (zx (zfar hw245_4 GW246.out)) _).trans (((cell_far (p := ⟨gb246, _, none⟩) (zx (zfar hw245_4 GW246.out)) _).trans (((cell_far (p := ⟨gb246, _, none⟩) (zx (zfar hw245_4 GW246.out)) _).trans (hHeld.2.2.2.2.2.2.2.2.2))))))))⟩ (fun hHeld => ?_)
         clear hK K
         refine done_ (done_of HT_.out (by kernel_rfl)) ?_
         have p247 : 0 ≤ (0 : Int) := (by omega)
         have q247 : 0 < (l2.length : Int) := zdec
         obtain ⟨ad247, e247, hx247_0, hx247_1, hx247_2, hx247_3, hx247_4⟩ := at_T74 HR2.out 0 p247 q247
         obtain rfl : ad244 = ad247 := (by injection e247)
         have qi247 : (0 < l2.length) = True := eq_true (by omega)
         (try rw [show ((0 : Int)).toNat = 0 from rfl] at hx247_0)
         (try rw [show 0 * 5 = 0 from rfl] at hx247_0)
         (try rw [Addr.add_zero'] at hx247_0)
         (try rw [show ((0 : Int)).toNat = 0 from rfl] at hx247_1)
         (try rw [show 0 * 5 = 0 from rfl] at hx247_1)
         (try rw [Addr.add_zero'] at hx247_1)
         (try rw [show ((0 : Int)).toNat = 0 from rfl] at hx247_2)
         (try rw [show 0 * 5 = 0 from rfl] at hx247_2)
         (try rw [Addr.add_zero'] at hx247_2)
         (try rw [show ((0 : Int)).toNat = 0 from rfl] at hx247_3)
         (try rw [show 0 * 5 = 0 from rfl] at hx247_3)
         (try rw [Addr.add_zero'] at hx247_3)
         (try rw [show ((0 : Int)).toNat = 0 from rfl] at hx247_4)
         (try rw [show 0 * 5 = 0 from rfl] at hx247_4)
         (try rw [Addr.add_zero'] at hx247_4)
         have hn247_0 : ad244.block ≠ gb246 := zx (zfar hx247_0 GW246.out)
         have hn247_1 : ad244.block ≠ gb246 := zx (zfar hx247_0 GW246.out)
         have hn247_2 : ad244.block ≠ gb246 := zx (zfar hx247_0 GW246.out)
         have hn247_3 : ad244.block ≠ gb246 := zx (zfar hx247_0 GW246.out)
         replace hx247_0 := (HB.out.cell (World.block_lt_of_cell? w _ hx247_0)).trans hx247_0
         replace hx247_1 := (HB.out.cell (World.block_lt_of_cell? w _ hx247_1)).trans hx247_1
         replace hx247_2 := (HB.out.cell (World.block_lt_of_cell? w _ hx247_2)).trans hx247_2
         replace hx247_3 := (HB.out.cell (World.block_lt_of_cell? w _ hx247_3)).trans hx247_3
         replace hx247_4 := (HB.out.cell (World.block_lt_of_cell? w _ hx247_4)).trans hx247_4
         replace hx247_0 := (cell_far (p := ⟨gb246, 0, none⟩) (zy hn247_0) (.bool true)).trans hx247_0
         replace hx247_1 := (cell_far (p := ⟨gb246, 0, none⟩) (zy hn247_0) (.bool true)).trans hx247_1
         replace hx247_2 := (cell_far (p := ⟨gb246, 0, none⟩) (zy hn247_0) (.bool true)).trans hx247_2
         replace hx247_3 := (cell_far (p := ⟨gb246, 0, none⟩) (zy hn247_0) (.bool true)).trans hx247_3
         replace hx247_4 := (cell_far (p := ⟨gb246, 0, none⟩) (zy hn247_0) (.bool true)).trans hx247_4
         replace hx247_0 := (cell_far (p := ⟨gb246, 1, none⟩) (zy hn247_1) (.int .i64 0)).trans hx247_0
         replace hx247_1 := (cell_far (p := ⟨gb246, 1, none⟩) (zy hn247_1) (.int .i64 0)).trans hx247_1
         replace hx247_2 := (cell_far (p := ⟨gb246, 1, none⟩) (zy hn247_1) (.int .i64 0)).trans hx247_2
         replace hx247_3 := (cell_far (p := ⟨gb246, 1, none⟩) (zy hn247_1) (.int .i64 0)).trans hx247_3
         replace hx247_4 := (cell_far (p := ⟨gb246, 1, none⟩) (zy hn247_1) (.int .i64 0)).trans hx247_4
         replace hx247_0 := (cell_far (p := ⟨gb246, 2, none⟩) (zy hn247_2) (.int .i64 ((rd_T74 l2 0).f2))).trans hx247_0
         replace hx247_1 := (cell_far (p := ⟨gb246, 2, none⟩) (zy hn247_2) (.int .i64 ((rd_T74 l2 0).f2))).trans hx247_1
         replace hx247_2 := (cell_far (p := ⟨gb246, 2, none⟩) (zy hn247_2) (.int .i64 ((rd_T74 l2 0).f2))).trans hx247_2
         replace hx247_3 := (cell_far (p := ⟨gb246, 2, none⟩) (zy hn247_2) (.int .i64 ((rd_T74 l2 0).f2))).trans hx247_3
         replace hx247_4 := (cell_far (p := ⟨gb246, 2, none⟩) (zy hn247_2) (.int .i64 ((rd_T74 l2 0).f2))).trans hx247_4
         replace hx247_0 := (cell_far (p := ⟨gb246, 3, none⟩) (zy hn247_3) (.int .i64 ((rd_T74 l2 0).f3))).trans hx247_0
         replace hx247_1 := (cell_far (p := ⟨gb246, 3, none⟩) (zy hn247_3) (.int .i64 ((rd_T74 l2 0).f3))).trans hx247_1
         replace hx247_2 := (cell_far (p := ⟨gb246, 3, none⟩) (zy hn247_3) (.int .i64 ((rd_T74 l2 0).f3))).trans hx247_2
         replace hx247_3 := (cell_far (p := ⟨gb246, 3, none⟩) (zy hn247_3) (.int .i64 ((rd_T74 l2 0).f3))).trans hx247_3
         replace hx247_4 := (cell_far (p := ⟨gb246, 3, none⟩) (zy hn247_3) (.int .i64 ((rd_T74 l2 0).f3))).trans hx247_4
         clear hn247_0
         clear hn247_1
         clear hn247_2
         clear hn247_3
         replace p247 := eq_true p247
         replace q247 := eq_true q247
         have hnb47 := NB239_240.out
         have hnc47 := NB240_239.out
         have hnb48 := NB239_246.out
         have hnc48 := NB246_239.out
         have hcz49_0 : w42.cell? ⟨gb239, 0, none⟩ = some (.bool a0_0) := (blk_cell BK239.out 0).trans rfl
         have hcz49_1 : w42.cell? ⟨gb239, 1, none⟩ = some (.int .i64 a0_1) := (blk_cell BK239.out 1).trans rfl
         have hfz49_0 := blk_frozen BK239.out 0
         have hfz49_1 := blk_frozen BK239.out 1
         have hnb50 := NB246_240.out
         have hnc50 := NB240_246.out
         have hcz51_0 : w42.cell? ⟨gb246, 0, none⟩ = some (.bool false) := (blk_cell BK246.out 0).trans rfl
         have hcz51_1 : w42.cell? ⟨gb246, 1, none⟩ = some (.int .i64 0) := (blk_cell BK246.out 1).trans rfl
         have hcz51_2 : w42.cell? ⟨gb246, 2, none⟩ = some (.int .i64 0) := (blk_cell BK246.out 2).trans rfl
         have hcz51_3 : w42.cell? ⟨gb246, 3, none⟩ = some (.int .i64 0) := (blk_cell BK246.out 3).trans rfl
         have hfz51_0 := blk_frozen BK246.out 0
         have hfz51_1 := blk_frozen BK246.out 1
         have hfz51_2 := blk_frozen BK246.out 2
         have hfz51_3 := blk_frozen BK246.out 3
         try go_wp2_with (first | (go_at_call 72; (with_reducible refine (cellarref7_Put.calls k1 a0_0 a0_1 a1 true 0 ((rd_T74 l2 0).f2) ((rd_T74 l2 0).f3) t248 _ A23.out).mono ?_); rintro e w52 ⟨v249, rfl, ho0, hb⟩; have n0_ := Aside0.mk (Kd.R_lower ho0 (below_size (zw3 HB.out GE239.out GE240.out GE246.out))); have n1_ := Aside0.mk (blk_below (g := gb239) (o := .cells #[.bool a0_0, .int .i64 a0_1] 29 (0, 0)) (zf1 BK239.out NB239_246.out) hb); have n2_ := Aside0.mk (blk_below (g := gb240) (o := .cells #[.bool x241000_1, .int .i64 x241001_1, .int .i64 x241002_1, .int .i64 x241003_1] 62 (0, 0)) (zf1 BK240.out NB240_246.out) hb); have n3_ := Aside0.mk (blk_below (g := gb246) (o := .cells #[.bool true, .int .i64 0, .int .i64 ((rd_T74 l2 0).f2), .int .i64 ((rd_T74 l2 0).f3)] 62 (0, 0)) (by (with_reducible repeat (first | refine blk_drewN ?_ _ | refine blk_drew ?_ | refine blk_alloc ?_ _)); refine blk_put (cs := #[.bool true, .int .i64 0, .int .i64 ((rd_T74 l2 0).f2), .int .i64 0]) ?_ 3 _ rfl; (with_reducible repeat (first | refine blk_drewN ?_ _ | refine blk_drew ?_ | refine blk_alloc ?_ _)); refine blk_put (cs := #[.bool true, .int .i64 0, .int .i64 0, .int .i64 0]) ?_ 2 _ rfl; (with_reducible repeat (first | refine blk_drewN ?_ _ | refine blk_drew ?_ | refine blk_alloc ?_ _)); refine blk_put (cs := #[.bool true, .int .i64 0, .int .i64 0, .int .i64 0]) ?_ 1 _ rfl; (with_reducible repeat (first | refine blk_drewN ?_ _ | refine blk_drew ?_ | refine blk_alloc ?_ _)); refine blk_put (cs := #[.bool false, .int .i64 0, .int .i64 0, .int .i64 0]) ?_ 0 _ rfl; (with_reducible repeat (first | refine blk_drewN ?_ _ | refine blk_drew ?_ | refine blk_alloc ?_ _)); exact BK246.out) hb); have n4_ := Aside0.mk (below_step (zw3 HB.out GE239.out GE240.out GE246.out) hb); clear BK239; clear BK240; clear BK246; clear HB; have HO250 := n0_; have BK239 := n1_; have BK240 := n2_; have BK246 := n3_; have HB := n4_; clear n0_ n1_ n2_ n3_ n4_; (try clear hb); (try clear hb2); (try clear hk); (try clear hi); (try clear ho0); obtain ⟨Ao53, co53, eo53⟩ := Kd.R_slice HO250.out; subst eo53) | (go_at_call 105; (with_reducible refine (cellarref0_EqBytes.calls k1 _ _ t248 _ _ l2 false _ ?side1 ?side2 ?side3 ?side4 A24.out).mono ?_); (case side1 => repeat (first | exact (Kd.R_reads' HO250.out).2.2 | (with_reducible refine Kd.C_alloc ?_ _) | (with_reducible refine Kd.C_drewN ?_ _) | (with_reducible refine Kd.C_drew ?_))); (case side2 => exact (Kd.R_reads' HO250.out).2.1); (case side3 => repeat (first | exact (Kd.C_below HR2.out HB.out) | (with_reducible refine Kd.C_alloc ?_ _) | (with_reducible refine Kd.C_drewN ?_ _) | (with_reducible refine Kd.C_drew ?_))); (case side4 => exact HC2.out); rintro e w' ⟨rfl, ⟨nd, rfl⟩⟩; (try (rw [drewN_self w52]; generalize hq_ : World.drewN w52 _ = w52; have n0_ : Aside0 (Kd.R k74 74 w52 w.heap.size (fun _ => True) (.slice Ao53 t248.length co53) t248) := ⟨by rw [← hq_]; exact (by (with_reducible repeat (first | apply Kd.R_alloc | apply Kd.R_drewN | apply Kd.R_drew)); exact HO250.out)⟩; have n1_ : Aside0 (w52.heap[gb239]? = some (.cells #[.bool a0_0, .int .i64 a0_1] 29 (0, 0))) := ⟨by rw [← hq_]; exact (zb BK239.out)⟩; have n2_ : Aside0 (w52.heap[gb240]? = some (.cells #[.bool x241000_1, .int .i64 x241001_1, .int .i64 x241002_1, .int .i64 x241003_1] 62 (0, 0))) := ⟨by rw [← hq_]; exact (zb BK240.out)⟩; have n3_ : Aside0 (w52.heap[gb246]? = some (.cells #[.bool true, .int .i64 0, .int .i64 ((rd_T74 l2 0).f2), .int .i64 ((rd_T74 l2 0).f3)] 62 (0, 0))) := ⟨by rw [← hq_]; exact (zb BK246.out)⟩; have n4_ : Aside0 (Below w.heap.size w w52) := ⟨by rw [← hq_]; exact (zw3 HB.out GE239.out GE240.out GE246.out)⟩; clear HO250 BK239 BK240 BK246 HB hq_; have HO250 := n0_; have BK239 := n1_; have BK240 := n2_; have BK246 := n3_; have HB := n4_; clear n0_ n1_ n2_ n3_ n4_)); have hcz54_0 : w52.cell? ⟨gb240, 0, none⟩ = some (.bool x241000_1) := (blk_cell BK240.out 0).trans rfl; have hcz54_1 : w52.cell? ⟨gb240, 1, none⟩ = some (.int .i64 x241001_1) := (blk_cell BK240.out 1).trans rfl; have hcz54_2 : w52.cell? ⟨gb240, 2, none⟩ = some (.int .i64 x241002_1) := (blk_cell BK240.out 2).trans rfl; have hcz54_3 : w52.cell? ⟨gb240, 3, none⟩ = some (.int .i64 x241003_1) := (blk_cell BK240.out 3).trans rfl; have hfz54_0 := blk_frozen BK240.out 0; have hfz54_1 := blk_frozen BK240.out 1; have hfz54_2 := blk_frozen BK240.out 2; have hfz54_3 := blk_frozen BK240.out 3))
         refine bodyPost_ret (results_ct rfl _ _ gb240 62 #[.bool false, .int .i64 0, .int .i64 0, .int .i64 0] (0, 0) _ rfl (by (with_reducible repeat (first | refine blk_drewN ?_ _ | refine blk_drew ?_ | refine blk_alloc ?_ _)); refine blk_put (cs := #[.bool false, .int .i64 0, .int .i64 0, .int .i64 x241003_1]) ?_ 3 _ rfl; (with_reducible repeat (first | refine blk_drewN ?_ _ | refine blk_drew ?_ | refine blk_alloc ?_ _)); refine blk_put (cs := #[.bool false, .int .i64 0, .int .i64 x241002_1, .int .i64 x241003_1]) ?_ 2 _ rfl; (with_reducible repeat (first | refine blk_drewN ?_ _ | refine blk_drew ?_ | refine blk_alloc ?_ _)); refine blk_put (cs := #[.bool false, .int .i64 x241001_1, .int .i64 x241002_1, .int .i64 x241003_1]) ?_ 1 _ rfl; (with_reducible repeat (first | refine blk_drewN ?_ _ | refine blk_drew ?_ | refine blk_alloc ?_ _)); refine blk_put (cs := #[.bool x241000_1, .int .i64 x241001_1, .int .i64 x241002_1, .int .i64 x241003_1]) ?_ 0 _ rfl; (with_reducible repeat (first | refine blk_drewN ?_ _ | refine blk_drew ?_ | refine blk_alloc ?_ _)); exact BK240.out) Try.underlying62 rfl (by kernel_rfl)) rfl ?_
         exact ⟨by first | rfl | (simp [errW_none, errW_some] <;> rfl) | (simp [*, errW_none, errW_some] <;> rfl), zw3 HB.out GE239.out GE240.out GE246.out⟩
       ·rw [if_neg c22] at H
        have c22b0 : (((rd_T74 l2 0).f0) == 2) = false := beq_eq_false_iff_ne.mpr c22
        have c22b1 : (((rd_T74 l2 0).f0) != 2) = true := bne_iff_ne.mpr c22
        simp only [Option.some.injEq, Prod.mk.injEq] at H
        obtain ⟨rfl, rfl, rfl, rfl, rfl⟩ := H
        try go_wp2
        have n0_ := Aside0.mk (blk_drew BK239.out)
        have n1_ := Aside0.mk (blk_drew BK240.out)
        have n2_ := Aside0.mk (below_drew1 HB.out)
        clear BK239
        clear BK240
        clear HB
        have BK239 := n0_
        have BK240 := n1_
        have HB := n2_
        clear n0_ n1_ n2_
        have p244 : 0 ≤ (0 : Int) := (by omega)
        have q244 : 0 < (l2.length : Int) := zdec
        obtain ⟨ad244, e244, hx244_0, hx244_1, hx244_2, hx244_3, hx244_4⟩ := at_T74 HR2.out 0 p244 q244
        have hw244_4 := hx244_4
        (try rw [show ((0 : Int)).toNat = 0 from rfl] at hw244_4)
        (try rw [show 0 * 5 = 0 from rfl] at hw244_4)
        (try rw [Addr.add_zero'] at hw244_4)
        have hw244_3 := hx244_3
        (try rw [show ((0 : Int)).toNat = 0 from rfl] at hw244_3)
        (try rw [show 0 * 5 = 0 from rfl] at hw244_3)
        (try rw [Addr.add_zero'] at hw244_3)
        have hw244_2 := hx244_2
        (try rw [show ((0 : Int)).toNat = 0 from rfl] at hw244_2)
        (try rw [show 0 * 5 = 0 from rfl] at hw244_2)
        (try rw [Addr.add_zero'] at hw244_2)
        have hw244_1 := hx244_1
        (try rw [show ((0 : Int)).toNat = 0 from rfl] at hw244_1)
        (try rw [show 0 * 5 = 0 from rfl] at hw244_1)
        (try rw [Addr.add_zero'] at hw244_1)
        have hw244_0 := hx244_0
        (try rw [show ((0 : Int)).toNat = 0 from rfl] at hw244_0)
        (try rw [show 0 * 5 = 0 from rfl] at hw244_0)
        (try rw [Addr.add_zero'] at hw244_0)
        cases e244
        have qi244 : (0 < l2.length) = True := eq_true (by omega)
        (try rw [show ((0 : Int)).toNat = 0 from rfl] at hx244_0)
        (try rw [show 0 * 5 = 0 from rfl] at hx244_0)
        (try rw [Addr.add_zero'] at hx244_0)
        (try rw [show ((0 : Int)).toNat = 0 from rfl] at hx244_1)
        (try rw [show 0 * 5 = 0 from rfl] at hx244_1)
        (try rw [Addr.add_zero'] at hx244_1)
        (try rw [show ((0 : Int)).toNat = 0 from rfl] at hx244_2)
        (try rw [show 0 * 5 = 0 from rfl] at hx244_2)
        (try rw [Addr.add_zero'] at hx244_2)
        (try rw [show ((0 : Int)).toNat = 0 from rfl] at hx244_3)
        (try rw [show 0 * 5 = 0 from rfl] at hx244_3)
        (try rw [Addr.add_zero'] at hx244_3)
        (try rw [show ((0 : Int)).toNat = 0 from rfl] at hx244_4)
        (try rw [show 0 * 5 = 0 from rfl] at hx244_4)
        (try rw [Addr.add_zero'] at hx244_4)
        replace hx244_0 := (HB.out.cell (World.block_lt_of_cell? w _ hx244_0)).trans hx244_0
        replace hx244_1 := (HB.out.cell (World.block_lt_of_cell? w _ hx244_1)).trans hx244_1
        replace hx244_2 := (HB.out.cell (World.block_lt_of_cell? w _ hx244_2)).trans hx244_2
        replace hx244_3 := (HB.out.cell (World.block_lt_of_cell? w _ hx244_3)).trans hx244_3
        replace hx244_4 := (HB.out.cell (World.block_lt_of_cell? w _ hx244_4)).trans hx244_4
        replace p244 := eq_true p244
        replace q244 := eq_true q244
        have p245 : 0 ≤ (0 : Int) := (by omega)
        have q245 : 0 < (l2.length : Int) := zdec
        obtain ⟨ad245, e245, hx245_0, hx245_1, hx245_2, hx245_3, hx245_4⟩ := at_T74 HR2.out 0 p245 q245
        have hw245_4 := hx245_4
        (try rw [show ((0 : Int)).toNat = 0 from rfl] at hw245_4)
        (try rw [show 0 * 5 = 0 from rfl] at hw245_4)
        (try rw [Addr.add_zero'] at hw245_4)
        have hw245_3 := hx245_3
        (try rw [show ((0 : Int)).toNat = 0 from rfl] at hw245_3)
        (try rw [show 0 * 5 = 0 from rfl] at hw245_3)
        (try rw [Addr.add_zero'] at hw245_3)
        have hw245_2 := hx245_2
        (try rw [show ((0 : Int)).toNat = 0 from rfl] at hw245_2)
        (try rw [show 0 * 5 = 0 from rfl] at hw245_2)
        (try rw [Addr.add_zero'] at hw245_2)
        have hw245_1 := hx245_1
        (try rw [show ((0 : Int)).toNat = 0 from rfl] at hw245_1)
        (try rw [show 0 * 5 = 0 from rfl] at hw245_1)
        (try rw [Addr.add_zero'] at hw245_1)
        have hw245_0 := hx245_0
        (try rw [show ((0 : Int)).toNat = 0 from rfl] at hw245_0)
        (try rw [show 0 * 5 = 0 from rfl] at hw245_0)
        (try rw [Addr.add_zero'] at hw245_0)
        obtain rfl : ad244 = ad245 := (by injection e245)
        have qi245 : (0 < l2.length) = True := eq_true (by omega)
        (try rw [show ((0 : Int)).toNat = 0 from rfl] at hx245_0)
        (try rw [show 0 * 5 = 0 from rfl] at hx245_0)
        (try rw [Addr.add_zero'] at hx245_0)
        (try rw [show ((0 : Int)).toNat = 0 from rfl] at hx245_1)
        (try rw [show 0 * 5 = 0 from rfl] at hx245_1)
        (try rw [Addr.add_zero'] at hx245_1)
        (try rw [show ((0 : Int)).toNat = 0 from rfl] at hx245_2)
        (try rw [show 0 * 5 = 0 from rfl] at hx245_2)
        (try rw [Addr.add_zero'] at hx245_2)
        (try rw [show ((0 : Int)).toNat = 0 from rfl] at hx245_3)
        (try rw [show 0 * 5 = 0 from rfl] at hx245_3)
        (try rw [Addr.add_zero'] at hx245_3)
        (try rw [show ((0 : Int)).toNat = 0 from rfl] at hx245_4)
        (try rw [show 0 * 5 = 0 from rfl] at hx245_4)
        (try rw [Addr.add_zero'] at hx245_4)
        replace hx245_0 := (HB.out.cell (World.block_lt_of_cell? w _ hx245_0)).trans hx245_0
        replace hx245_1 := (HB.out.cell (World.block_lt_of_cell? w _ hx245_1)).trans hx245_1
        replace hx245_2 := (HB.out.cell (World.block_lt_of_cell? w _ hx245_2)).trans hx245_2
        replace hx245_3 := (HB.out.cell (World.block_lt_of_cell? w _ hx245_3)).trans hx245_3
        replace hx245_4 := (HB.out.cell (World.block_lt_of_cell? w _ hx245_4)).trans hx245_4
        replace p245 := eq_true p245
        replace q245 := eq_true q245
        refine start_ (n := 11) (S := fun w' => w'.cell? ad244 = some (.int .i64 ((rd_T74 l2 0).f0)) ∧ w'.cell? ⟨ad244.block, ad244.off + 1, none⟩ = some (.int .i64 ((rd_T74 l2 0).f1)) ∧ w'.cell? ⟨ad244.block, ad244.off + 2, none⟩ = some (.int .i64 ((rd_T74 l2 0).f2)) ∧ w'.cell? ⟨ad244.block, ad244.off + 3, none⟩ = some (.int .i64 ((rd_T74 l2 0).f3)) ∧ w'.cell? ⟨ad244.block, ad244.off + 4, none⟩ = some (.int .i64 ((rd_T74 l2 0).f4)) ∧ w'.cell? ad244 = some (.int .i64 ((rd_T74 l2 0).f0)) ∧ w'.cell? ⟨ad244.block, ad244.off + 1, none⟩ = some (.int .i64 ((rd_T74 l2 0).f1)) ∧ w'.cell? ⟨ad244.block, ad244.off + 2, none⟩ = some (.int .i64 ((rd_T74 l2 0).f2)) ∧ w'.cell? ⟨ad244.block, ad244.off + 3, none⟩ = some (.int .i64 ((rd_T74 l2 0).f3)) ∧ w'.cell? ⟨ad244.block, ad244.off + 4, none⟩ = some (.int .i64 ((rd_T74 l2 0).f4))) (ds := []) #[false,false,false,false,false,false,false,false,false,false,false] (by kernel_rfl) rfl rfl ⟨((HB.out.cell (World.block_lt_of_cell? w _ hw244_0)).trans hw244_0), ((HB.out.cell (World.block_lt_of_cell? w _ hw244_1)).trans hw244_1), ((HB.out.cell (World.block_lt_of_cell? w _ hw244_2)).trans hw244_2), ((HB.out.cell (World.block_lt_of_cell? w _ hw244_3)).trans hw244_3), ((HB.out.cell (World.block_lt_of_cell? w _ hw244_4)).trans hw244_4), ((HB.out.cell (World.block_lt_of_cell? w _ hw245_0)).trans hw245_0), ((HB.out.cell (World.block_lt_of_cell? w _ hw245_1)).trans hw245_1), ((HB.out.cell (World.block_lt_of_cell? w _ hw245_2)).trans hw245_2), ((HB.out.cell (World.block_lt_of_cell? w _ hw245_3)).trans hw245_3), ((HB.out.cell (World.block_lt_of_cell? w _ hw245_4)).trans hw245_4)⟩ (fun hHeld => ?_); refine with_tabW cellarref7_Get.tab17 cellarref7_Get.bits17 (fun HT_ HW_ => ?_)
        generalize wr.drew = w55 at BK239 BK240 HB hx244_0 hx244_1 hx244_2 hx244_3 hx244_4 hx245_0 hx245_1 hx245_2 hx245_3 hx245_4 hHeld ⊢
        refine pure_ (i := 0) (N := some 54) (v := ?_) (a' := ?_) #[true,false,false,false,false,false,false,false,false,false,false] rfl rfl (any_of HT_.out (by kernel_rfl)) (fun _ _ _ h => h) (Or.inl ⟨by rfl, ?_⟩) ?_ ?_
        rotate_left
        ·intro w'
         go_simp
         with_reducible rfl
        rotate_left
        ·simp only [Act.put, List.setIfInBounds_toArray, List.set_cons_zero, List.set_cons_succ, i64_w, i32_w]
         rfl
        refine pure_ (i := 1) (N := some 55) (v := ?_) (a' := ?_) #[true,true,false,false,false,false,false,false,false,false,false] rfl rfl (any_of HT_.out (by kernel_rfl)) (fun _ _ _ h => h) (Or.inl ⟨by rfl, ?_⟩) ?_ ?_
        rotate_left
        ·intro w'
         go_simp
         with_reducible rfl
        rotate_left
        ·simp only [Act.put, List.setIfInBounds_toArray, List.set_cons_zero, List.set_cons_succ, i64_w, i32_w]
         rfl
        refine pure_ (i := 2) (N := some 56) (v := ?_) (a' := ?_) #[true,true,true,false,false,false,false,false,false,false,false] rfl rfl (any_of HT_.out (by kernel_rfl)) (fun _ _ _ h => h) (Or.inl ⟨by rfl, ?_⟩) ?_ ?_
        rotate_left
        ·intro w'
         go_simp
         with_reducible rfl
        rotate_left
        ·simp only [Act.put, List.setIfInBounds_toArray, List.set_cons_zero, List.set_cons_succ, i64_w, i32_w]
         rfl
        refine pure_ (i := 4) (N := some 58) (v := ?_) (a' := ?_) #[true,true,true,false,true,false,false,false,false,false,false] rfl rfl (any_of HT_.out (by kernel_rfl)) (fun _ _ _ h => h) (Or.inl ⟨by rfl, ?_⟩) ?_ ?_
        rotate_left
        ·intro w'
         go_simp
         with_reducible rfl
        rotate_left
        ·simp only [Act.put, List.setIfInBounds_toArray, List.set_cons_zero, List.set_cons_succ, i64_w, i32_w]
         rfl
        refine pure_ (i := 5) (N := some 59) (v := ?_) (a' := ?_) #[true,true,true,false,true,true,false,false,false,false,false] rfl rfl (any_of HT_.out (by kernel_rfl)) (fun _ _ _ h => h) (Or.inl ⟨by rfl, ?_⟩) ?_ ?_
        rotate_left
        ·intro w'
         go_simp
         with_reducible rfl
        rotate_left
        ·simp only [Act.put, List.setIfInBounds_toArray, List.set_cons_zero, List.set_cons_succ, i64_w, i32_w]
         rfl
        refine pure_ (i := 6) (N := some 60) (v := ?_) (a' := ?_) #[true,true,true,false,true,true,true,false,false,false,false] rfl rfl (any_of HT_.out (by kernel_rfl)) (fun _ _ _ h => h) (Or.inl ⟨by rfl, ?_⟩) ?_ ?_
        rotate_left
        ·intro w'
         go_simp
         with_reducible rfl
        rotate_left
        ·simp only [Act.put, List.setIfInBounds_toArray, List.set_cons_zero, List.set_cons_succ, i64_w, i32_w]
         rfl
        refine take_ (i := 3) (N := some 57) (v := ?_) (a' := ?_) #[true,true,true,true,true,true,true,false,false,false,false] rfl rfl (take_ofW HT_.out HW_.out (by kernel_rfl)) (fun _ _ _ h => h) (Or.inl ⟨by rfl, ?_⟩) hHeld ?_ ?_
        rotate_left
        ·rintro w' ⟨s0, s1, s2, s3, s4, s5, s6, s7, s8, s9⟩
         go_simp
         with_reducible rfl
        rotate_left
        ·simp only [Act.put, List.setIfInBounds_toArray, List.set_cons_zero, List.set_cons_succ, i64_w, i32_w]
         rfl
        refine take_ (i := 7) (N := some 61) (v := ?_) (a' := ?_) #[true,true,true,true,true,true,true,true,false,false,false] rfl rfl (take_ofW HT_.out HW_.out (by kernel_rfl)) (fun _ _ _ h => h) (Or.inl ⟨by rfl, ?_⟩) hHeld ?_ ?_
        rotate_left
        ·rintro w' ⟨s0, s1, s2, s3, s4, s5, s6, s7, s8, s9⟩
         go_simp
         with_reducible rfl
        rotate_left
        ·simp only [Act.put, List.setIfInBounds_toArray, List.set_cons_zero, List.set_cons_succ, i64_w, i32_w]
         rfl
        refine pure_ (i := 8) (N := some 62) (v := ?_) (a' := ?_) #[true,true,true,true,true,true,true,true,true,false,false] rfl rfl (any_of HT_.out (by kernel_rfl)) (fun _ _ _ h => h) (Or.inl ⟨by rfl, ?_⟩) ?_ ?_
        rotate_left
        ·intro w'
         go_simp
         with_reducible rfl
        rotate_left
        ·simp only [Act.put, List.setIfInBounds_toArray, List.set_cons_zero, List.set_cons_succ, i64_w, i32_w]
         rfl
        refine one_ (i := 9) (N := some 11) #[true,true,true,true,true,true,true,true,true,true,false] rfl rfl (one_of HT_.out (by kernel_rfl)) (by decide) (fun K hK => ?_)
        refine box_step ?hg (N := 11) ?hd (cs := #[.bool false, .int .i64 0, .int .i64 0, .int .i64 0]) (t := 62) ?hr ?_; (case hd => rfl); (case hg => rfl); (case hr => first | (go_simp; done) | (go_simp; rfl))
        intro gb246 hg w56 hbox hb
        have n0_ := Aside0.mk (blk_below (g := gb239) (o := .cells #[.bool a0_0, .int .i64 a0_1] 29 (0, 0)) (zb BK239.out) hb)
        have n1_ := Aside0.mk (blk_below (g := gb240) (o := .cells #[.bool x241000_1, .int .i64 x241001_1, .int .i64 x241002_1, .int .i64 x241003_1] 62 (0, 0)) (zb BK240.out) hb)
        have n2_ := Aside0.mk (below_step (zw2 HB.out GE239.out GE240.out) hb)
        have n3_ := Aside0.mk (hbox)
        have n4_ := Aside0.mk ((by rw [hg]; exact (below_size (zw2 HB.out GE239.out GE240.out)) : w.heap.size ≤ gb246))
        have n5_ := Aside0.mk ((by rw [hg]; exact (below_size (zw2 HB.out GE239.out GE240.out)) : w.heap.size ≤ gb246))
        have n6_ := Aside0.mk ((by rw [hg]; exact Nat.ne_of_lt (blk_lt (g := gb239) (o := .cells #[.bool a0_0, .int .i64 a0_1] 29 (0, 0)) (zb BK239.out)) : gb239 ≠ gb246))
        have n7_ := Aside0.mk ((by rw [hg]; exact Nat.ne_of_gt (blk_lt (g := gb239) (o := .cells #[.bool a0_0, .int .i64 a0_1] 29 (0, 0)) (zb BK239.out)) : gb246 ≠ gb239))
        have n8_ := Aside0.mk ((by rw [hg]; exact Nat.ne_of_lt (blk_lt (g := gb240) (o := .cells #[.bool x241000_1, .int .i64 x241001_1, .int .i64 x241002_1, .int .i64 x241003_1] 62 (0, 0)) (zb BK240.out)) : gb240 ≠ gb246))
        have n9_ := Aside0.mk ((by rw [hg]; exact Nat.ne_of_gt (blk_lt (g := gb240) (o := .cells #[.bool x241000_1, .int .i64 x241001_1, .int .i64 x241002_1, .int .i64 x241003_1] 62 (0, 0)) (zb BK240.out)) : gb246 ≠ gb240))
        clear BK239
        clear BK240
        clear HB
        have BK239 := n0_
        have BK240 := n1_
        have HB := n2_
        have BK246 := n3_
        have GW246 := n4_
        have GE246 := n5_
        have NB239_246 := n6_
        have NB246_239 := n7_
        have NB240_246 := n8_
        have NB246_240 := n9_
        clear n0_ n1_ n2_ n3_ n4_ n5_ n6_ n7_ n8_ n9_
        clear hb hbox hg
        refine hK.out _ _ ⟨((HB.out.cell (World.block_lt_of_cell? w _ hw244_0)).trans hw244_0), ((HB.out.cell (World.block_lt_of_cell? w _ hw244_1)).trans hw244_1), ((HB.out.cell (World.block_lt_of_cell? w _ hw244_2)).trans hw244_2), ((HB.out.cell (World.block_lt_of_cell? w _ hw244_3)).trans hw244_3), ((HB.out.cell (World.block_lt_of_cell? w _ hw244_4)).trans hw244_4), ((HB.out.cell (World.block_lt_of_cell? w _ hw245_0)).trans hw245_0), ((HB.out.cell (World.block_lt_of_cell? w _ hw245_1)).trans hw245_1), ((HB.out.cell (World.block_lt_of_cell? w _ hw245_2)).trans hw245_2), ((HB.out.cell (World.block_lt_of_cell? w _ hw245_3)).trans hw245_3), ((HB.out.cell (World.block_lt_of_cell? w _ hw245_4)).trans hw245_4)⟩ (fun hHeld => ?_)
        clear hK K
        refine norm_ (a' := ?_) ?_ ?_
        rotate_left
        ·show Act.put _ (some 11) _ = _
         simp only [Act.put, List.setIfInBounds_toArray, List.set_cons_zero, List.set_cons_succ, i64_w, i32_w]
         rfl
        refine one_ (i := 10) (N := none) #[true,true,true,true,true,true,true,true,true,true,true] rfl rfl (one_of HT_.out (by kernel_rfl)) (by decide) (fun K hK => ?_)
        have hs57 : w56.cell? ⟨gb246, 0, none⟩ = some (.bool false) := (blk_cell BK246.out 0).trans rfl
        have hfs57 := blk_frozen BK246.out 0
        have hns57_0 := NB239_246.out
        have hns57_1 := NB240_246.out
        have hms57_0 := NB246_239.out
        have hms57_1 := NB246_240.out
        have hs58 : w56.cell? ⟨gb246, 1, none⟩ = some (.int .i64 0) := (blk_cell BK246.out 1).trans rfl
        have hfs58 := blk_frozen BK246.out 1
        have hns58_0 := NB239_246.out
        have hns58_1 := NB240_246.out
        have hms58_0 := NB246_239.out
        have hms58_1 := NB246_240.out
        have hs59 : w56.cell? ⟨gb246, 2, none⟩ = some (.int .i64 0) := (blk_cell BK246.out 2).trans rfl
        have hfs59 := blk_frozen BK246.out 2
        have hns59_0 := NB239_246.out
        have hns59_1 := NB240_246.out
        have hms59_0 := NB246_239.out
        have hms59_1 := NB246_240.out
        have hs60 : w56.cell? ⟨gb246, 3, none⟩ = some (.int .i64 0) := (blk_cell BK246.out 3).trans rfl
        have hfs60 := blk_frozen BK246.out 3
        have hns60_0 := NB239_246.out
        have hns60_1 := NB240_246.out
        have hms60_0 := NB246_239.out
        have hms60_1 := NB246_240.out
        refine skip_ (w1 := ?_) (by rfl) rfl ?_ ?_
        rotate_left
        ·go_simp
         rfl
        refine hK.out _ _ ⟨((cell_far (p := ⟨gb246, _, none⟩) (zx (zfar hw244_0 GW246.out)) _).trans (((cell_far (p := ⟨gb246, _, none⟩) (zx (zfar hw244_0 GW246.out)) _).trans (((cell_far (p := ⟨gb246, _, none⟩) (zx (zfar hw244_0 GW246.out)) _).trans (((cell_far (p := ⟨gb246, _, none⟩) (zx (zfar hw244_0 GW246.out)) _).trans (hHeld.1)))))))), ((cell_far (p := ⟨gb246, _, none⟩) (zx (zfar hw244_1 GW246.out)) _).trans (((cell_far (p := ⟨gb246, _, none⟩) (zx (zfar hw244_1 GW246.out)) _).trans (((cell_far (p := ⟨gb246, _, none⟩) (zx (zfar hw244_1 GW246.out)) _).trans (((cell_far (p := ⟨gb246, _, none⟩) (zx (zfar hw244_1 GW246.out)) _).trans (hHeld.2.1)))))))), ((cell_far (p := ⟨gb246, _, none⟩) (zx (zfar hw244_2 GW246.out)) _).trans (((cell_far (p := ⟨gb246, _, none⟩) (zx (zfar hw244_2 GW246.out)) _).trans (((cell_far (p := ⟨gb246, _, none⟩) (zx (zfar hw244_2 GW246.out)) _).trans (((cell_far (p := ⟨gb246, _, none⟩) (zx (zfar hw244_2 GW246.out)) _).trans (hHeld.2.2.1)))))))), ((cell_far (p := ⟨gb246, _, none⟩) (zx (zfar hw244_3 GW246.out)) _).trans (((cell_far (p := ⟨gb246, _, none⟩) (zx (zfar hw244_3 GW246.out)) _).trans (((cell_far (p := ⟨gb246, _, none⟩) (zx (zfar hw244_3 GW246.out)) _).trans (((cell_far (p := ⟨gb246, _, none⟩) (zx (zfar hw244_3 GW246.out)) _).trans (hHeld.2.2.2.1)))))))), ((cell_far (p := ⟨gb246, _, none⟩) (zx (zfar hw244_4 GW246.out)) _).trans (((cell_far (p := ⟨gb246, _, none⟩) (zx (zfar hw244_4 GW246.out)) _).trans (((cell_far (p := ⟨gb246, _, none⟩) (zx (zfar hw244_4 GW246.out)) _).trans (((cell_far (p := ⟨gb246, _, none⟩) (zx (zfar hw244_4 GW246.out)) _).trans (hHeld.2.2.2.2.1)))))))), ((cell_far (p := ⟨gb246, _, none⟩) (zx (zfar hw245_0 GW246.out)) _).trans (((cell_far (p := ⟨gb246, _, none⟩) (zx (zfar hw245_0 GW246.out)) _).trans (((cell_far (p := ⟨gb246, _, none⟩) (zx (zfar hw245_0 GW246.out)) _).trans (((cell_far (p := ⟨gb246, _, none⟩) (zx (zfar hw245_0 GW246.out)) _).trans (hHeld.2.2.2.2.2.1)))))))), ((cell_far (p := ⟨gb246, _, none⟩) (zx (zfar hw245_1 GW246.out)) _).trans (((cell_far (p := ⟨gb246, _, none⟩) (zx (zfar hw245_1 GW246.out)) _).trans (((cell_far (p := ⟨gb246, _, none⟩) (zx (zfar hw245_1 GW246.out)) _).trans (((cell_far (p := ⟨gb246, _, none⟩) (zx (zfar hw245_1 GW246.out)) _).trans (hHeld.2.2.2.2.2.2.1)))))))), ((cell_far (p := ⟨gb246, _, none⟩) (zx (zfar hw245_2 GW246.out)) _).trans (((cell_far (p := ⟨gb246, _, none⟩) (zx (zfar hw245_2 GW246.out)) _).trans (((cell_far (p := ⟨gb246, _, none⟩) (zx (zfar hw245_2 GW246.out)) _).trans (((cell_far (p := ⟨gb246, _, none⟩) (zx (zfar hw245_2 GW246.out)) _).trans (hHeld.2.2.2.2.2.2.2.1)))))))), ((cell_far (p := ⟨gb246, _, none⟩) (zx (zfar hw245_3 GW246.out)) _).trans (((cell_far (p := ⟨gb246, _, none⟩) (zx (zfar hw245_3 GW246.out)) _).trans (((cell_far (p := ⟨gb246, _, none⟩) (zx (zfar hw245_3 GW246.out)) _).trans (((cell_far (p := ⟨gb246, _, none⟩) (zx (zfar hw245_3 GW246.out)) _).trans (hHeld.2.2.2.2.2.2.2.2.1)))))))), ((cell_far (p := ⟨gb246, _, none⟩) (zx (zfar hw245_4 GW246.out)) _).trans (((cell_far (p := ⟨gb246, _, none⟩) (zx (zfar hw245_4 GW246.out)) _).trans (((cell_far (p := ⟨gb246, _, none⟩) (zx (zfar hw245_4 GW246.out)) _).trans (((cell_far (p := ⟨gb246, _, none⟩) (zx (zfar hw245_4 GW246.out)) _).trans (hHeld.2.2.2.2.2.2.2.2.2))))))))⟩ (fun hHeld => ?_)
        clear hK K
        refine done_ (done_of HT_.out (by kernel_rfl)) ?_
        have p247 : 0 ≤ (0 : Int) := (by omega)
        have q247 : 0 < (l2.length : Int) := zdec
        obtain ⟨ad247, e247, hx247_0, hx247_1, hx247_2, hx247_3, hx247_4⟩ := at_T74 HR2.out 0 p247 q247
        obtain rfl : ad244 = ad247 := (by injection e247)
        have qi247 : (0 < l2.length) = True := eq_true (by omega)
        (try rw [show ((0 : Int)).toNat = 0 from rfl] at hx247_0)
        (try rw [show 0 * 5 = 0 from rfl] at hx247_0)
        (try rw [Addr.add_zero'] at hx247_0)
        (try rw [show ((0 : Int)).toNat = 0 from rfl] at hx247_1)
        (try rw [show 0 * 5 = 0 from rfl] at hx247_1)
        (try rw [Addr.add_zero'] at hx247_1)
        (try rw [show ((0 : Int)).toNat = 0 from rfl] at hx247_2)
        (try rw [show 0 * 5 = 0 from rfl] at hx247_2)
        (try rw [Addr.add_zero'] at hx247_2)
        (try rw [show ((0 : Int)).toNat = 0 from rfl] at hx247_3)
        (try rw [show 0 * 5 = 0 from rfl] at hx247_3)
        (try rw [Addr.add_zero'] at hx247_3)
        (try rw [show ((0 : Int)).toNat = 0 from rfl] at hx247_4)
        (try rw [show 0 * 5 = 0 from rfl] at hx247_4)
        (try rw [Addr.add_zero'] at hx247_4)
        have hn247_0 : ad244.block ≠ gb246 := zx (zfar hx247_0 GW246.out)
        have hn247_1 : ad244.block ≠ gb246 := zx (zfar hx247_0 GW246.out)
        have hn247_2 : ad244.block ≠ gb246 := zx (zfar hx247_0 GW246.out)
        have hn247_3 : ad244.block ≠ gb246 := zx (zfar hx247_0 GW246.out)
        replace hx247_0 := (HB.out.cell (World.block_lt_of_cell? w _ hx247_0)).trans hx247_0
        replace hx247_1 := (HB.out.cell (World.block_lt_of_cell? w _ hx247_1)).trans hx247_1
        replace hx247_2 := (HB.out.cell (World.block_lt_of_cell? w _ hx247_2)).trans hx247_2
        replace hx247_3 := (HB.out.cell (World.block_lt_of_cell? w _ hx247_3)).trans hx247_3
        replace hx247_4 := (HB.out.cell (World.block_lt_of_cell? w _ hx247_4)).trans hx247_4
        replace hx247_0 := (cell_far (p := ⟨gb246, 0, none⟩) (zy hn247_0) (.bool true)).trans hx247_0
        replace hx247_1 := (cell_far (p := ⟨gb246, 0, none⟩) (zy hn247_0) (.bool true)).trans hx247_1
        replace hx247_2 := (cell_far (p := ⟨gb246, 0, none⟩) (zy hn247_0) (.bool true)).trans hx247_2
        replace hx247_3 := (cell_far (p := ⟨gb246, 0, none⟩) (zy hn247_0) (.bool true)).trans hx247_3
        replace hx247_4 := (cell_far (p := ⟨gb246, 0, none⟩) (zy hn247_0) (.bool true)).trans hx247_4
        replace hx247_0 := (cell_far (p := ⟨gb246, 1, none⟩) (zy hn247_1) (.int .i64 0)).trans hx247_0
        replace hx247_1 := (cell_far (p := ⟨gb246, 1, none⟩) (zy hn247_1) (.int .i64 0)).trans hx247_1
        replace hx247_2 := (cell_far (p := ⟨gb246, 1, none⟩) (zy hn247_1) (.int .i64 0)).trans hx247_2
        replace hx247_3 := (cell_far (p := ⟨gb246, 1, none⟩) (zy hn247_1) (.int .i64 0)).trans hx247_3
        replace hx247_4 := (cell_far (p := ⟨gb246, 1, none⟩) (zy hn247_1) (.int .i64 0)).trans hx247_4
        replace hx247_0 := (cell_far (p := ⟨gb246, 2, none⟩) (zy hn247_2) (.int .i64 ((rd_T74 l2 0).f2))).trans hx247_0
        replace hx247_1 := (cell_far (p := ⟨gb246, 2, none⟩) (zy hn247_2) (.int .i64 ((rd_T74 l2 0).f2))).trans hx247_1
        replace hx247_2 := (cell_far (p := ⟨gb246, 2, none⟩) (zy hn247_2) (.int .i64 ((rd_T74 l2 0).f2))).trans hx247_2
        replace hx247_3 := (cell_far (p := ⟨gb246, 2, none⟩) (zy hn247_2) (.int .i64 ((rd_T74 l2 0).f2))).trans hx247_3
        replace hx247_4 := (cell_far (p := ⟨gb246, 2, none⟩) (zy hn247_2) (.int .i64 ((rd_T74 l2 0).f2))).trans hx247_4
        replace hx247_0 := (cell_far (p := ⟨gb246, 3, none⟩) (zy hn247_3) (.int .i64 ((rd_T74 l2 0).f3))).trans hx247_0
        replace hx247_1 := (cell_far (p := ⟨gb246, 3, none⟩) (zy hn247_3) (.int .i64 ((rd_T74 l2 0).f3))).trans hx247_1
        replace hx247_2 := (cell_far (p := ⟨gb246, 3, none⟩) (zy hn247_3) (.int .i64 ((rd_T74 l2 0).f3))).trans hx247_2
        replace hx247_3 := (cell_far (p := ⟨gb246, 3, none⟩) (zy hn247_3) (.int .i64 ((rd_T74 l2 0).f3))).trans hx247_3
        replace hx247_4 := (cell_far (p := ⟨gb246, 3, none⟩) (zy hn247_3) (.int .i64 ((rd_T74 l2 0).f3))).trans hx247_4
        clear hn247_0
        clear hn247_1
        clear hn247_2
        clear hn247_3
        replace p247 := eq_true p247
        replace q247 := eq_true q247
        have hnb61 := NB240_239.out
        have hnc61 := NB239_240.out
        have hnb62 := NB240_246.out
        have hnc62 := NB246_240.out
        have hcz63_0 : w56.cell? ⟨gb240, 0, none⟩ = some (.bool x241000_1) := (blk_cell BK240.out 0).trans rfl
        have hcz63_1 : w56.cell? ⟨gb240, 1, none⟩ = some (.int .i64 x241001_1) := (blk_cell BK240.out 1).trans rfl
        have hcz63_2 : w56.cell? ⟨gb240, 2, none⟩ = some (.int .i64 x241002_1) := (blk_cell BK240.out 2).trans rfl
        have hcz63_3 : w56.cell? ⟨gb240, 3, none⟩ = some (.int .i64 x241003_1) := (blk_cell BK240.out 3).trans rfl
        have hfz63_0 := blk_frozen BK240.out 0
        have hfz63_1 := blk_frozen BK240.out 1
        have hfz63_2 := blk_frozen BK240.out 2
        have hfz63_3 := blk_frozen BK240.out 3
        try go_wp2
        refine bodyPost_ret (results_ct rfl _ _ gb240 62 #[.bool false, .int .i64 0, .int .i64 0, .int .i64 0] (0, 0) _ rfl (by (with_reducible repeat (first | refine blk_drewN ?_ _ | refine blk_drew ?_ | refine blk_alloc ?_ _)); refine blk_put (cs := #[.bool false, .int .i64 0, .int .i64 0, .int .i64 x241003_1]) ?_ 3 _ rfl; (with_reducible repeat (first | refine blk_drewN ?_ _ | refine blk_drew ?_ | refine blk_alloc ?_ _)); refine blk_put (cs := #[.bool false, .int .i64 0, .int .i64 x241002_1, .int .i64 x241003_1]) ?_ 2 _ rfl; (with_reducible repeat (first | refine blk_drewN ?_ _ | refine blk_drew ?_ | refine blk_alloc ?_ _)); refine blk_put (cs := #[.bool false, .int .i64 x241001_1, .int .i64 x241002_1, .int .i64 x241003_1]) ?_ 1 _ rfl; (with_reducible repeat (first | refine blk_drewN ?_ _ | refine blk_drew ?_ | refine blk_alloc ?_ _)); refine blk_put (cs := #[.bool x241000_1, .int .i64 x241001_1, .int .i64 x241002_1, .int .i64 x241003_1]) ?_ 0 _ rfl; (with_reducible repeat (first | refine blk_drewN ?_ _ | refine blk_drew ?_ | refine blk_alloc ?_ _)); refine blk_far ?_ NB240_246.out _; (with_reducible repeat (first | refine blk_drewN ?_ _ | refine blk_drew ?_ | refine blk_alloc ?_ _)); refine blk_far ?_ NB240_246.out _; (with_reducible repeat (first | refine blk_drewN ?_ _ | refine blk_drew ?_ | refine blk_alloc ?_ _)); refine blk_far ?_ NB240_246.out _; (with_reducible repeat (first | refine blk_drewN ?_ _ | refine blk_drew ?_ | refine blk_alloc ?_ _)); refine blk_far ?_ NB240_246.out _; (with_reducible repeat (first | refine blk_drewN ?_ _ | refine blk_drew ?_ | refine blk_alloc ?_ _)); exact BK240.out) Try.underlying62 rfl (by kernel_rfl)) rfl ?_
        exact ⟨by first | rfl | (simp [errW_none, errW_some] <;> rfl) | (simp [*, errW_none, errW_some] <;> rfl), zw3 HB.out GE239.out GE240.out GE246.out⟩
      ·rw [if_neg c21] at H
       exact absurd H (by simp)
    ·rw [if_neg c12] at H
     have c12b0 : (a1 == 7) = false := beq_eq_false_iff_ne.mpr c12
     have c12b1 : (a1 != 7) = true := bne_iff_ne.mpr c12
     by_cases c64 : x8_1 > 0
     ·rw [if_pos c64] at H
      have c64b0 : decide (0 < x8_1) = true := decide_eq_true c64
      clear c64
      simp only [Option.some.injEq, Prod.mk.injEq] at H
      obtain ⟨rfl, rfl, rfl, rfl, rfl⟩ := H
      have hnb65 := NB240_239.out
      have hnc65 := NB239_240.out
      have hcz66_0 : wr.cell? ⟨gb240, 0, none⟩ = some (.bool x241000_1) := (blk_cell BK240.out 0).trans rfl
      have hcz66_1 : wr.cell? ⟨gb240, 1, none⟩ = some (.int .i64 x241001_1) := (blk_cell BK240.out 1).trans rfl
      have hcz66_2 : wr.cell? ⟨gb240, 2, none⟩ = some (.int .i64 x241002_1) := (blk_cell BK240.out 2).trans rfl
      have hcz66_3 : wr.cell? ⟨gb240, 3, none⟩ = some (.int .i64 x241003_1) := (blk_cell BK240.out 3).trans rfl
      have hfz66_0 := blk_frozen BK240.out 0
      have hfz66_1 := blk_frozen BK240.out 1
      have hfz66_2 := blk_frozen BK240.out 2
      have hfz66_3 := blk_frozen BK240.out 3
      go_wp2
      refine bodyPost_ret (results_ct rfl _ _ gb240 62 #[.bool false, .int .i64 0, .int .i64 0, .int .i64 0] (0, 0) _ rfl (by (with_reducible repeat (first | refine blk_drewN ?_ _ | refine blk_drew ?_ | refine blk_alloc ?_ _)); refine blk_put (cs := #[.bool false, .int .i64 0, .int .i64 0, .int .i64 x241003_1]) ?_ 3 _ rfl; (with_reducible repeat (first | refine blk_drewN ?_ _ | refine blk_drew ?_ | refine blk_alloc ?_ _)); refine blk_put (cs := #[.bool false, .int .i64 0, .int .i64 x241002_1, .int .i64 x241003_1]) ?_ 2 _ rfl; (with_reducible repeat (first | refine blk_drewN ?_ _ | refine blk_drew ?_ | refine blk_alloc ?_ _)); refine blk_put (cs := #[.bool false, .int .i64 x241001_1, .int .i64 x241002_1, .int .i64 x241003_1]) ?_ 1 _ rfl; (with_reducible repeat (first | refine blk_drewN ?_ _ | refine blk_drew ?_ | refine blk_alloc ?_ _)); refine blk_put (cs := #[.bool x241000_1, .int .i64 x241001_1, .int .i64 x241002_1, .int .i64 x241003_1]) ?_ 0 _ rfl; (with_reducible repeat (first | refine blk_drewN ?_ _ | refine blk_drew ?_ | refine blk_alloc ?_ _)); exact BK240.out) Try.underlying62 rfl (by kernel_rfl)) rfl ?_
      exact ⟨by first | rfl | (simp [errW_none, errW_some] <;> rfl) | (simp [*, errW_none, errW_some] <;> rfl), zw2 HB.out GE239.out GE240.out⟩
     ·rw [if_neg c64] at H
      have c64b0 : decide (0 < x8_1) = false := decide_eq_false c64
      clear c64
      have H' := Aside0.mk H
      clear H
      go_wp2
      go_loopg [12, 13] k1 (fun kq v12 v13 w' => ∃ (x12_2 : Int) (x13_2 : Int), v12 = .int .i64 x12_2 ∧ v13 = .int .i64 x13_2 ∧ Aside0 (cellarref7_Get.l2 kq l2 x12_2 x13_2 a0_0 a0_1 = some (r1, r2, r3, r4, r5)) ∧ Aside0 (kq ≤ k1) ∧ Aside0 (w'.heap[gb239]? = some (.cells #[.bool a0_0, .int .i64 a0_1] 29 (0, 0))) ∧ Aside0 (w'.heap[gb240]? = some (.cells #[.bool x241000_1, .int .i64 x241001_1, .int .i64 x241002_1, .int .i64 x241003_1] 62 (0, 0))) ∧ Aside0 (Below w.heap.size w w'))
      case atStart => exact ⟨(0), (0), (by first | rfl | (simp; done) | (simp [*]; done)), (by first | rfl | (simp; done) | (simp [*]; done)), H', ⟨Nat.le_refl _⟩, ⟨zb BK239.out⟩, ⟨zb BK240.out⟩, ⟨zw2 HB.out GE239.out GE240.out⟩⟩
      case round =>
       clear H'
       try clear c1
       try clear c2
       try clear p2
       try clear q2
       try clear hx2
       try clear qi2
       try clear c4
       try clear c5
       try clear c6
       try clear c12
       try clear c12b0
       try clear c12b1
       try clear c21
       try clear c22
       try clear c22b0
       try clear c22b1
       try clear p24
       try clear q24
       try clear hx24
       try clear qi24
       try clear c47
       try clear c48
       try clear c50
       try clear c61
       try clear c62
       try clear c64
       try clear c64b0
       try clear c65
       try clear hcz49_0
       try clear hcz49_1
       try clear hcz51_0
       try clear hcz51_1
       try clear hcz51_2
       try clear hcz51_3
       try clear hcz54_0
       try clear hcz54_1
       try clear hcz54_2
       try clear hcz54_3
       try clear hcz63_0
       try clear hcz63_1
       try clear hcz63_2
       try clear hcz63_3
       try clear hcz66_0
       try clear hcz66_1
       try clear hcz66_2
       try clear hcz66_3
       try clear hfz49_0
       try clear hfz49_1
       try clear hfz51_0
       try clear hfz51_1
       try clear hfz51_2
       try clear hfz51_3
       try clear hfz54_0
       try clear hfz54_1
       try clear hfz54_2
       try clear hfz54_3
       try clear hfz63_0
       try clear hfz63_1
       try clear hfz63_2
       try clear hfz63_3
       try clear hfz66_0
       try clear hfz66_1
       try clear hfz66_2
       try clear hfz66_3
       try clear hx244_0
       try clear hx244_1
       try clear hx244_2
       try clear hx244_3
       try clear hx244_4
       try clear hx245_0
       try clear hx245_1
       try clear hx245_2
       try clear hx245_3
       try clear hx245_4
       try clear hx247_0
       try clear hx247_1
       try clear hx247_2
       try clear hx247_3
       try clear hx247_4
       try clear p244
       try clear p245
       try clear p247
       try clear q244
       try clear q245
       try clear q247
       obtain ⟨x12_2, x13_2, rfl, rfl, HA, HK2, BK239, BK240, HB⟩ := hrel
       cases gk with
       | zero => exact absurd HA.out (by simp [cellarref7_Get.l2])
       | succ k2 =>
        have H := HA.out
        clear HA
        simp only [cellarref7_Get.l2] at H
        by_cases c67 : x13_2 < (l2.length : Int)
        ·rw [if_pos c67] at H
         have c67b0 : decide (x13_2 < (l2.length : Int)) = true := decide_eq_true c67
         clear c67
         by_cases c68 : a0_0 = true
         ·subst c68
          have H1 : (if 0 ≤ x13_2 then (cellarref7_Get.l2 k2 l2 (Go.bits .or .i64 (wrap64 (x12_2 * 256)) ((rd_T74 l2 x13_2).f1)) (wrap64 (x13_2 + 1)) true a0_1) else (none)) = some (r1, r2, r3, r4, r5) := by rw [if_pos rfl] at H; exact H
          clear H
          have H := H1
          clear H1
          by_cases c69 : 0 ≤ x13_2
          ·rw [if_pos c69] at H
           have c69b0 : decide (0 ≤ x13_2) = true := decide_eq_true c69
           clear c69
           have H' := Aside0.mk H
           clear H
           have hnb70 := NB239_240.out
           have hnc70 := NB240_239.out
           have hcz71_0 : wr.cell? ⟨gb239, 0, none⟩ = some (.bool true) := (blk_cell BK239.out 0).trans rfl
           have hcz71_1 : wr.cell? ⟨gb239, 1, none⟩ = some (.int .i64 a0_1) := (blk_cell BK239.out 1).trans rfl
           have hfz71_0 := blk_frozen BK239.out 0
           have hfz71_1 := blk_frozen BK239.out 1
           have p252 : 0 ≤ (x13_2 : Int) := zdec
           have q252 : x13_2 < (l2.length : Int) := zdec
           obtain ⟨ad252, e252, hx252_0, hx252_1, hx252_2, hx252_3, hx252_4⟩ := at_T74 HR2.out x13_2 p252 q252
           cases e252
           replace hx252_0 := (HB.out.cell (World.block_lt_of_cell? w _ hx252_0)).trans hx252_0
           replace hx252_1 := (HB.out.cell (World.block_lt_of_cell? w _ hx252_1)).trans hx252_1
           replace hx252_2 := (HB.out.cell (World.block_lt_of_cell? w _ hx252_2)).trans hx252_2
           replace hx252_3 := (HB.out.cell (World.block_lt_of_cell? w _ hx252_3)).trans hx252_3
           replace hx252_4 := (HB.out.cell (World.block_lt_of_cell? w _ hx252_4)).trans hx252_4
           replace p252 := eq_true p252
           replace q252 := eq_true q252
           go_wp2
           go_roundg k2
           case measure => have := HK1.out; have := HK2.out; omega
           case rel => exact ⟨(Go.bits .or .i64 (wrap64 (x12_2 * 256)) ((rd_T74 l2 x13_2).f1)), (wrap64 (x13_2 + 1)), (by first | rfl | (simp; done) | (simp [*]; done)), (by first | rfl | (simp; done) | (simp [*]; done)), H', ⟨by have := HK1.out; have := HK2.out; omega⟩, ⟨zb BK239.out⟩, ⟨zb BK240.out⟩, ⟨zw2 HB.out GE239.out GE240.out⟩⟩
          ·rw [if_neg c69] at H
           exact absurd H (by simp)
         ·replace c68 := Bool.eq_false_iff.mpr c68
          subst c68
          have H1 : (if 0 ≤ (wrap64 ((wrap64 ((l2.length : Int) - 1)) - x13_2)) then (if (wrap64 ((wrap64 ((l2.length : Int) - 1)) - x13_2)) < (l2.length : Int) then (cellarref7_Get.l2 k2 l2 (Go.bits .or .i64 (wrap64 (x12_2 * 256)) ((rd_T74 l2 (wrap64 ((wrap64 ((l2.length : Int) - 1)) - x13_2))).f1)) (wrap64 (x13_2 + 1)) false a0_1) else (none)) else (none)) = some (r1, r2, r3, r4, r5) := by rw [if_neg (show ¬ (false = true) by decide)] at H; exact H
          clear H
          have H := H1
          clear H1
          obtain ⟨ji72, hji72⟩ : ∃ j_ : Int, (wrap64 ((wrap64 ((l2.length : Int) - 1)) - x13_2)) = j_ := ⟨_, rfl⟩
          replace H : (if 0 ≤ (ji72) then (if (ji72) < (l2.length : Int) then (cellarref7_Get.l2 k2 l2 (Go.bits .or .i64 (wrap64 (x12_2 * 256)) ((rd_T74 l2 (ji72)).f1)) (wrap64 (x13_2 + 1)) false a0_1) else (none)) else (none)) = some (r1, r2, r3, r4, r5) := by first | (rw [hji72] at H; exact H) | (simp only [hji72] at H ⊢; exact H)
          have hji72w : (IntKind.i64.wrap ((wrap64 ((l2.length : Int) - 1)) - x13_2)) = ji72 := (i64_w _).trans hji72
          by_cases c73 : 0 ≤ (ji72)
          ·rw [if_pos c73] at H
           have c73b0 : decide (0 ≤ (ji72)) = true := decide_eq_true c73
           clear c73
           by_cases c74 : (ji72) < (l2.length : Int)
           ·rw [if_pos c74] at H
            have c74b0 : decide ((ji72) < (l2.length : Int)) = true := decide_eq_true c74
            clear c74
            have H' := Aside0.mk H
            clear H
            have hnb75 := NB239_240.out
            have hnc75 := NB240_239.out
            have hcz76_0 : wr.cell? ⟨gb239, 0, none⟩ = some (.bool false) := (blk_cell BK239.out 0).trans rfl
            have hcz76_1 : wr.cell? ⟨gb239, 1, none⟩ = some (.int .i64 a0_1) := (blk_cell BK239.out 1).trans rfl
            have hfz76_0 := blk_frozen BK239.out 0
            have hfz76_1 := blk_frozen BK239.out 1
            have p253 : 0 ≤ ((ji72) : Int) := zdec
            have q253 : (ji72) < (l2.length : Int) := zdec
            obtain ⟨ad253, e253, hx253_0, hx253_1, hx253_2, hx253_3, hx253_4⟩ := at_T74 HR2.out (ji72) p253 q253
            cases e253
            replace hx253_0 := (HB.out.cell (World.block_lt_of_cell? w _ hx253_0)).trans hx253_0
            replace hx253_1 := (HB.out.cell (World.block_lt_of_cell? w _ hx253_1)).trans hx253_1
            replace hx253_2 := (HB.out.cell (World.block_lt_of_cell? w _ hx253_2)).trans hx253_2
            replace hx253_3 := (HB.out.cell (World.block_lt_of_cell? w _ hx253_3)).trans hx253_3
            replace hx253_4 := (HB.out.cell (World.block_lt_of_cell? w _ hx253_4)).trans hx253_4
            replace p253 := eq_true p253
            replace q253 := eq_true q253
            go_wp2
            go_roundg k2
            case measure => have := HK1.out; have := HK2.out; omega
            case rel => exact ⟨(Go.bits .or .i64 (wrap64 (x12_2 * 256)) ((rd_T74 l2 (ji72)).f1)), (wrap64 (x13_2 + 1)), (by first | rfl | (simp; done) | (simp only [← hji72] <;> (first | rfl | simp)) | (simp [*]; done)), (by first | rfl | (simp; done) | (simp [*]; done)), H', ⟨by have := HK1.out; have := HK2.out; omega⟩, ⟨zb BK239.out⟩, ⟨zb BK240.out⟩, ⟨zw2 HB.out GE239.out GE240.out⟩⟩
           ·rw [if_neg c74] at H
            exact absurd H (by simp)
          ·rw [if_neg c73] at H
           exact absurd H (by simp)
        ·rw [if_neg c67] at H
         have c67b0 : decide (x13_2 < (l2.length : Int)) = false := decide_eq_false c67
         clear c67
         simp only [Option.some.injEq, Prod.mk.injEq] at H
         obtain ⟨rfl, rfl, rfl, rfl, rfl⟩ := H
         have hnb77 := NB240_239.out
         have hnc77 := NB239_240.out
         have hcz78_0 : wr.cell? ⟨gb240, 0, none⟩ = some (.bool x241000_1) := (blk_cell BK240.out 0).trans rfl
         have hcz78_1 : wr.cell? ⟨gb240, 1, none⟩ = some (.int .i64 x241001_1) := (blk_cell BK240.out 1).trans rfl
         have hcz78_2 : wr.cell? ⟨gb240, 2, none⟩ = some (.int .i64 x241002_1) := (blk_cell BK240.out 2).trans rfl
         have hcz78_3 : wr.cell? ⟨gb240, 3, none⟩ = some (.int .i64 x241003_1) := (blk_cell BK240.out 3).trans rfl
         have hfz78_0 := blk_frozen BK240.out 0
         have hfz78_1 := blk_frozen BK240.out 1
         have hfz78_2 := blk_frozen BK240.out 2
         have hfz78_3 := blk_frozen BK240.out 3
         go_wp2
         refine bodyPost_ret (results_ct rfl _ _ gb240 62 #[.bool false, .int .i64 x12_2, .int .i64 0, .int .i64 0] (0, 0) _ rfl (by (with_reducible repeat (first | refine blk_drewN ?_ _ | refine blk_drew ?_ | refine blk_alloc ?_ _)); refine blk_put (cs := #[.bool false, .int .i64 x12_2, .int .i64 0, .int .i64 x241003_1]) ?_ 3 _ rfl; (with_reducible repeat (first | refine blk_drewN ?_ _ | refine blk_drew ?_ | refine blk_alloc ?_ _)); refine blk_put (cs := #[.bool false, .int .i64 x12_2, .int .i64 x241002_1, .int .i64 x241003_1]) ?_ 2 _ rfl; (with_reducible repeat (first | refine blk_drewN ?_ _ | refine blk_drew ?_ | refine blk_alloc ?_ _)); refine blk_put (cs := #[.bool false, .int .i64 x241001_1, .int .i64 x241002_1, .int .i64 x241003_1]) ?_ 1 _ rfl; (with_reducible repeat (first | refine blk_drewN ?_ _ | refine blk_drew ?_ | refine blk_alloc ?_ _)); refine blk_put (cs := #[.bool x241000_1, .int .i64 x241001_1, .int .i64 x241002_1, .int .i64 x241003_1]) ?_ 0 _ rfl; (with_reducible repeat (first | refine blk_drewN ?_ _ | refine blk_drew ?_ | refine blk_alloc ?_ _)); exact BK240.out) Try.underlying62 rfl (by kernel_rfl)) rfl ?_
         exact ⟨by first | rfl | (simp [errW_none, errW_some] <;> rfl) | (simp [*, errW_none, errW_some] <;> rfl), zw2 HB.out GE239.out GE240.out⟩

end Go.Proofs.Ytjoplkillkhiaaa.C
