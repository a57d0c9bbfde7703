-- Written by this session's own edition of the print.
import Derived.Test.YtjoplkillkhiaaaStx0
import Derived.Test.YtjoplkillkhiaaaStx1
import Derived.Test.YtjoplkillkhiaaaStx2
import Derived.Test.YtjoplkillkhiaaaStx8
import Derived.Test.YtjoplkillkhiaaaZSq
import Derived.Test.YtjoplkillkhiaaaZSq2
import Derived.Test.YtjoplkillkhiaaaZSq3
namespace Go.Proofs.Ytjoplkillkhiaaa.St
open Go.RowKit Go.Proofs.Ytjoplkillkhiaaa.Fn Go.Proofs.YtjoplkillkhiaaaW.PrintWords Go.Proofs.YtjoplkillkhiaaaW.PrintLast Go.Proofs.YtjoplkillkhiaaaW.PrintMore
attribute [local go_sem] max2_int min2_int max_two min_two max_three min_three max_four min_four   -- for this text's walks alone
set_option linter.unusedVariables false
set_option linter.unusedSimpArgs false

attribute [local go_sem high] eqA74
/-! cellarref7_Store -/
def cellarref7_Store.l0 : Nat → List (S76) → List (S74) → Int → Bool → Int → Int → Int → Option ((List (S76)) × Int)
 | 0, _, _, _, _, _, _, _ => none
 | k + 1, x1, x13, x14, x244000, x244001, x244002, x244003 => if x14 < (x13.length : Int) then (if 0 ≤ x244002 then (if x244002 < (x1.length : Int) then (if 0 ≤ x14 then (if 0 ≤ (wrap64 (x244003 + x14)) then (if (wrap64 (x244003 + x14)) < (((rd_T76 x1 x244002).f1).length : Int) then (cellarref7_Store.l0 k (x1.set (x244002 : Int).toNat (⟨(rd_T76 x1 x244002).f0, (((rd_T76 x1 x244002).f1).set ((wrap64 (x244003 + x14)) : Int).toNat (⟨(rd_T74 x13 x14).f0, (rd_T74 x13 x14).f1, (rd_T74 x13 x14).f2, (rd_T74 x13 x14).f3, (rd_T74 x13 x14).f4⟩ : S74))⟩ : S76)) x13 (wrap64 (x14 + 1)) x244000 x244001 x244002 x244003) else (none)) else (none)) else (none)) else (none)) else (none)) else (some (x1, 0))
def cellarref7_Store.f (k : Nat) (a0_0 : Bool) (a0_1 : Int) (l1 : List (S76)) (a2_0 : Bool) (a2_1 : Int) (a2_2 : Int) (a2_3 : Int) (a3 : Int) (a4_0 : Bool) (a4_1 : Int) (a4_2 : Int) (a4_3 : Int) : Option ((List (S76)) × Int) := (cellarref7_reach.f k a0_0 a0_1 l1 a2_0 a2_1 a2_2 a2_3 a3).bind fun t245 => (if t245 = 0 then ((cellarref0_CopyBlocks.f k l1).bind fun t249 => ((cellarref7_Put.f k a0_0 a0_1 a3 a4_0 a4_1 a4_2 a4_3).bind fun t252 => (cellarref7_Store.l0 k t249 t252 0 a2_0 a2_1 a2_2 a2_3))) else ((cellarref0_CopyBlocks.f k l1).bind fun t246 => (some (t246, t245))))
theorem cellarref7_Store.mono_l : ∀ k, (∀ y0 y1 y2 y3 y4 y5 y6, LeO (cellarref7_Store.l0 k y0 y1 y2 y3 y4 y5 y6) (cellarref7_Store.l0 (k + 1) y0 y1 y2 y3 y4 y5 y6))
 | 0 => fun _ _ _ _ _ _ _ r h => by simp [cellarref7_Store.l0] at h
 | k + 1 => by
  have ih0 := cellarref7_Store.mono_l k
  ·intro y0 y1 y2 y3 y4 y5 y6
   unfold cellarref7_Store.l0
   repeat' first
   | (with_reducible apply ih0)
   | (with_reducible apply cellarref0_CopyBlocks.mono)
   | (with_reducible apply cellarref7_Put.mono)
   | (with_reducible apply cellarref7_reach.mono)
   | (with_reducible apply LeO.refl)
   | (with_reducible apply LeO.none)
   | (with_reducible refine LeO.ite ?_ ?_)
   | (with_reducible refine LeO.bind ?_ (fun _ => ?_))
theorem cellarref7_Store.mono : ∀ a0 a1 a2 a3 a4 a5 a6 a7 a8 a9 a10 a11 k, LeO (cellarref7_Store.f k a0 a1 a2 a3 a4 a5 a6 a7 a8 a9 a10 a11) (cellarref7_Store.f (k + 1) a0 a1 a2 a3 a4 a5 a6 a7 a8 a9 a10 a11) := by
 intro a0 a1 a2 a3 a4 a5 a6 a7 a8 a9 a10 a11 k
 have ih0 := cellarref7_Store.mono_l k
 unfold cellarref7_Store.f
 repeat' first
   | (with_reducible apply ih0)
   | (with_reducible apply cellarref0_CopyBlocks.mono)
   | (with_reducible apply cellarref7_Put.mono)
   | (with_reducible apply cellarref7_reach.mono)
   | (with_reducible apply LeO.refl)
   | (with_reducible apply LeO.none)
   | (with_reducible refine LeO.ite ?_ ?_)
   | (with_reducible refine LeO.bind ?_ (fun _ => ?_))
def cellarref7_Store.T9 : Bool × List (List Nat × List Nat) := (true, [([], []), ([], []), ([1], [1]), ([0, 2], [0, 2]), ([3], [3]), ([4], [4]), ([], []), ([6], [6]), ([], []), ([7, 8], [7, 8]), ([], []), ([], []), ([10, 11], [10, 11]), ([12], [12]), ([5, 9, 0, 1, 2, 3, 4, 5, 6, 7, 8, 9, 10, 11, 12, 13], [5, 9]), ([14, 13, 0, 1, 2, 3, 4, 5, 6, 7, 8, 9, 10, 11, 12, 13], [13, 14])])
def cellarref7_Store.B9 : List Nat := [0, 0, 2, 7, 15, 31, 0, 64, 0, 448, 0, 0, 3072, 7168, 16383, 32767]
theorem cellarref7_Store.tab9 : rtab .any (opsOf Try.f34 9) = cellarref7_Store.T9 := by kernel_rfl
theorem cellarref7_Store.bits9 : waitsOk cellarref7_Store.T9.2 cellarref7_Store.B9 = true := by kernel_rfl
set_option maxHeartbeats 8000000 in
set_option maxRecDepth 100000 in
theorem cellarref7_Store.calls (k : Nat) (a0_0 : Bool) (a0_1 : Int) (A1 : Option Addr) (c1 : Nat) (l1 : List (S76)) (a2_0 : Bool) (a2_1 : Int) (a2_2 : Int) (a2_3 : Int) (a3 : Int) (a4_0 : Bool) (a4_1 : Int) (a4_2 : Int) (a4_3 : Int) (r1 : List (S76)) (r2 : Int) (w : World) (hr1 : Kd.C k76 w A1 l1.length l1) (hc1 : l1.length ≤ c1) (h : cellarref7_Store.f k a0_0 a0_1 l1 a2_0 a2_1 a2_2 a2_3 a3 a4_0 a4_1 a4_2 a4_3 = some (r1, r2)) :
  Calls Try.prog 34 #[.agg #[.bool a0_0, .int .i64 a0_1], .slice A1 l1.length c1, .agg #[.bool a2_0, .int .i64 a2_1, .int .i64 a2_2, .int .i64 a2_3], .int .i64 a3, .agg #[.bool a4_0, .int .i64 a4_1, .int .i64 a4_2, .int .i64 a4_3]] w fun e w' => ∃ v0_ : Value, e = .returned (.tuple #[v0_, .int .i64 r2]) ∧ Kd.S k76 76 w' w.heap.size (fun _ => True) v0_ r1 ∧ Below w.heap.size w w' := by
 have hu29 := Try.underlying29
 have hu62 := Try.underlying62
 have hu74 := Try.underlying74
 have HR1 := Aside0.mk hr1
 have HC1 := Aside0.mk hc1
 clear hr1 hc1
 have HB := Aside0.mk (Below.refl w.heap.size w)
 have H : ((cellarref7_reach.f k a0_0 a0_1 l1 a2_0 a2_1 a2_2 a2_3 a3).bind fun t245 => (if t245 = 0 then ((cellarref0_CopyBlocks.f k l1).bind fun t249 => ((cellarref7_Put.f k a0_0 a0_1 a3 a4_0 a4_1 a4_2 a4_3).bind fun t252 => (cellarref7_Store.l0 k t249 t252 0 a2_0 a2_1 a2_2 a2_3))) else ((cellarref0_CopyBlocks.f k l1).bind fun t246 => (some (t246, t245))))) = some (r1, r2) := h
 clear h
 replace H := Option.bind_eq_some_iff.mp H
 obtain ⟨t245, A60, H⟩ := H
 replace H : (if t245 = 0 then ((cellarref0_CopyBlocks.f k l1).bind fun t249 => ((cellarref7_Put.f k a0_0 a0_1 a3 a4_0 a4_1 a4_2 a4_3).bind fun t252 => (cellarref7_Store.l0 k t249 t252 0 a2_0 a2_1 a2_2 a2_3))) else ((cellarref0_CopyBlocks.f k l1).bind fun t246 => (some (t246, t245)))) = some (r1, r2) := H
 have A6 := Aside0.mk A60
 clear A60
 by_cases c7 : t245 = 0
 ·rw [if_pos c7] at H
  have c7b0 : (t245 == 0) = true := beq_iff_eq.mpr c7
  have c7b1 : (t245 != 0) = false := bne_eq_false_iff_eq.mpr c7
  clear c7
  replace H := Option.bind_eq_some_iff.mp H
  obtain ⟨t249, A80, H⟩ := H
  replace H : ((cellarref7_Put.f k a0_0 a0_1 a3 a4_0 a4_1 a4_2 a4_3).bind fun t252 => (cellarref7_Store.l0 k t249 t252 0 a2_0 a2_1 a2_2 a2_3)) = some (r1, r2) := H
  have A8 := Aside0.mk A80
  clear A80
  replace H := Option.bind_eq_some_iff.mp H
  obtain ⟨t252, A90, H⟩ := H
  replace H : (cellarref7_Store.l0 k t249 t252 0 a2_0 a2_1 a2_2 a2_3) = some (r1, r2) := H
  have A9 := Aside0.mk A90
  clear A90
  have H' := Aside0.mk H
  clear H
  go_enter Try.func34, Try.ntmps34
  go_wp2_with (first | ((with_reducible refine gate_dst (N := 5) rfl ?_); refine zbox (N := 5) (cs := #[.bool a0_0, .int .i64 a0_1]) (t := 29) ?_; intro gb242 hg w10 hbox hb; have n0_ := Aside0.mk (below_step (zw0 HB.out) hb); have BK242 := Aside0.mk (hbox); have GW242 := Aside0.mk (zg hg (below_size (zw0 HB.out))); have GE242 := GW242; clear HB; have HB := n0_; clear n0_; clear hb hbox hg) | ((with_reducible refine gate_dst (N := 7) rfl ?_); refine zbox (N := 7) (cs := #[.bool a2_0, .int .i64 a2_1, .int .i64 a2_2, .int .i64 a2_3]) (t := 62) ?_; intro gb243 hg w11 hbox hb; have n0_ := Aside0.mk (zbb BK242.out hb); have n1_ := Aside0.mk (below_step (zw1 HB.out GE242.out) hb); have BK243 := Aside0.mk (hbox); have GW243 := Aside0.mk (zg hg (below_size (zw1 HB.out GE242.out))); have GE243 := GW243; have NB242_243 := Aside0.mk (zlt hg BK242.out); have NB243_242 := Aside0.mk (zgt hg BK242.out); clear BK242 HB; have BK242 := n0_; have HB := n1_; clear n0_ n1_; clear hb hbox hg) | ((with_reducible refine gate_dst (N := 9) rfl ?_); refine zbox (N := 9) (cs := #[.bool a4_0, .int .i64 a4_1, .int .i64 a4_2, .int .i64 a4_3]) (t := 62) ?_; intro gb244 hg w12 hbox hb; have n0_ := Aside0.mk (zbb BK242.out hb); have n1_ := Aside0.mk (zbb BK243.out hb); have n2_ := Aside0.mk (below_step (zw2 HB.out GE242.out GE243.out) hb); have BK244 := Aside0.mk (hbox); have GW244 := Aside0.mk (zg hg (below_size (zw2 HB.out GE242.out GE243.out))); have GE244 := GW244; have NB242_244 := Aside0.mk (zlt hg BK242.out); have NB244_242 := Aside0.mk (zgt hg BK242.out); have NB243_244 := Aside0.mk (zlt hg BK243.out); have NB244_243 := Aside0.mk (zgt hg BK243.out); clear BK242 BK243 HB; have BK242 := n0_; have BK243 := n1_; have HB := n2_; clear n0_ n1_ n2_; clear hb hbox hg; have hnb13 := NB242_243.out; have hnc13 := NB243_242.out; have hnb14 := NB242_244.out; have hnc14 := NB244_242.out; have hcz15_0 := zc BK242.out 0; have hcz15_1 := zc BK242.out 1; have hfz15_0 := blk_frozen BK242.out 0; have hfz15_1 := blk_frozen BK242.out 1; have hnb16 := NB243_244.out; have hnc16 := NB244_243.out; have hcz17_0 := zc BK243.out 0; have hcz17_1 := zc BK243.out 1; have hcz17_2 := zc BK243.out 2; have hcz17_3 := zc BK243.out 3; have hfz17_0 := blk_frozen BK243.out 0; have hfz17_1 := blk_frozen BK243.out 1; have hfz17_2 := blk_frozen BK243.out 2; have hfz17_3 := blk_frozen BK243.out 3) | ((with_reducible refine gate_callee (f := 71) rfl ?_); refine zgo (some 19) Try.func71 #[.agg #[.bool a0_0, .int .i64 a0_1], .slice A1 l1.length c1, .agg #[.bool a2_0, .int .i64 a2_1, .int .i64 a2_2, .int .i64 a2_3], .int .i64 a3] ?_; (with_reducible refine (cellarref7_reach.calls k a0_0 a0_1 _ _ l1 a2_0 a2_1 a2_2 a2_3 a3 t245 _ ?side1 ?side2 A6.out).mono ?_); (case side1 => repeat (first | exact (Kd.C_below HR1.out HB.out) | (with_reducible refine Kd.C_alloc ?_ _) | (with_reducible refine Kd.C_drewN ?_ _) | (with_reducible refine Kd.C_drew ?_))); (case side2 => exact HC1.out); rintro e w18 ⟨rfl, hb⟩; refine ⟨_, rfl, ?_⟩; have n0_ := Aside0.mk (zbb BK242.out hb); have n1_ := Aside0.mk (zbb BK243.out hb); have n2_ := Aside0.mk (zbb BK244.out hb); have n3_ := Aside0.mk (below_step (zw3 HB.out GE242.out GE243.out GE244.out) hb); clear BK242 BK243 BK244 HB; have BK242 := n0_; have BK243 := n1_; have BK244 := n2_; have HB := n3_; clear n0_ n1_ n2_ n3_; (try clear hb); (try clear hb2); (try clear hk); (try clear hi)) | ((with_reducible refine gate_callee (f := 27) rfl ?_); refine zgo (some 26) Try.func27 #[.slice A1 l1.length c1] ?_; (with_reducible refine (cellarref0_CopyBlocks.calls k _ _ l1 t249 _ ?side1 ?side2 A8.out).mono ?_); (case side1 => repeat (first | exact (Kd.C_below HR1.out HB.out) | (with_reducible refine Kd.C_alloc ?_ _) | (with_reducible refine Kd.C_drewN ?_ _) | (with_reducible refine Kd.C_drew ?_))); (case side2 => exact HC1.out); rintro e w19 ⟨v250, rfl, ho0, hb⟩; refine ⟨_, rfl, ?_⟩; have HO251 := Aside0.mk (Kd.S_lower ho0 (below_size (zw3 HB.out GE242.out GE243.out GE244.out))); have n1_ := Aside0.mk (zbb BK242.out hb); have n2_ := Aside0.mk (zbb BK243.out hb); have n3_ := Aside0.mk (zbb BK244.out hb); have n4_ := Aside0.mk (below_step (zw3 HB.out GE242.out GE243.out GE244.out) hb); clear BK242 BK243 BK244 HB; have BK242 := n1_; have BK243 := n2_; have BK244 := n3_; have HB := n4_; clear n1_ n2_ n3_ n4_; (try clear hb); (try clear hb2); (try clear hk); (try clear hi); (try clear ho0); have hcz20_0 := zc BK242.out 0; have hcz20_1 := zc BK242.out 1; have hfz20_0 := blk_frozen BK242.out 0; have hfz20_1 := blk_frozen BK242.out 1; have hcz21_0 := zc BK244.out 0; have hcz21_1 := zc BK244.out 1; have hcz21_2 := zc BK244.out 2; have hcz21_3 := zc BK244.out 3; have hfz21_0 := blk_frozen BK244.out 0; have hfz21_1 := blk_frozen BK244.out 1; have hfz21_2 := blk_frozen BK244.out 2; have hfz21_3 := blk_frozen BK244.out 3) | ((with_reducible refine gate_callee (f := 72) rfl ?_); refine zgo (some 30) Try.func72 #[.agg #[.bool a0_0, .int .i64 a0_1], .int .i64 a3, .agg #[.bool a4_0, .int .i64 a4_1, .int .i64 a4_2, .int .i64 a4_3]] ?_; (with_reducible refine (cellarref7_Put.calls k a0_0 a0_1 a3 a4_0 a4_1 a4_2 a4_3 t252 _ A9.out).mono ?_); rintro e w22 ⟨v253, rfl, ho0, hb⟩; refine ⟨_, rfl, ?_⟩; have n0_ := Aside0.mk (Kd.S_elder' (by (with_reducible repeat (first | apply Kd.S_alloc | apply Kd.S_drewN | apply Kd.S_drew)); exact HO251.out) (Kd.R_base ho0) hb); have HO254 := Aside0.mk (Kd.R_lower ho0 (below_size (zw3 HB.out GE242.out GE243.out GE244.out))); have n2_ := Aside0.mk (zbb BK242.out hb); have n3_ := Aside0.mk (zbb BK243.out hb); have n4_ := Aside0.mk (zbb BK244.out hb); have n5_ := Aside0.mk (below_step (zw3 HB.out GE242.out GE243.out GE244.out) hb); clear HO251 BK242 BK243 BK244 HB; have HO251 := n0_; have BK242 := n2_; have BK243 := n3_; have BK244 := n4_; have HB := n5_; clear n0_ n2_ n3_ n4_ n5_; (try clear hb); (try clear hb2); (try clear hk); (try clear hi); (try clear ho0)))
  go_loopg [14] k (fun kq v14 w' => ∃ (x1_1 : List (S76)) (x13_1 : List (S74)) (x14_1 : Int), v14 = .int .i64 x14_1 ∧ Aside0 (cellarref7_Store.l0 kq x1_1 x13_1 x14_1 a2_0 a2_1 a2_2 a2_3 = some (r1, r2)) ∧ Aside0 (kq ≤ k) ∧ Aside0 (Kd.S k76 76 w' w.heap.size (fun k_ => some k_ ≠ (v253 : Value).ownBlock) v250 x1_1) ∧ Aside0 (Kd.R k74 74 w' w.heap.size (fun _ => True) v253 x13_1) ∧ Aside0 (w'.heap[gb242]? = some (.cells #[.bool a0_0, .int .i64 a0_1] 29 (0, 0))) ∧ Aside0 (w'.heap[gb243]? = some (.cells #[.bool a2_0, .int .i64 a2_1, .int .i64 a2_2, .int .i64 a2_3] 62 (0, 0))) ∧ Aside0 (w'.heap[gb244]? = some (.cells #[.bool a4_0, .int .i64 a4_1, .int .i64 a4_2, .int .i64 a4_3] 62 (0, 0))) ∧ Aside0 (Below w.heap.size w w'))
  case atStart => exact ⟨(t249), (t252), (0), (zr), H', ⟨Nat.le_refl _⟩, ⟨by (with_reducible repeat (first | apply Kd.S_alloc | apply Kd.S_drewN | apply Kd.S_drew)); exact Kd.S_mono HO251.out (fun _ hk => hk.2)⟩, ⟨by (with_reducible repeat (first | apply Kd.R_alloc | apply Kd.R_drewN | apply Kd.R_drew)); exact HO254.out⟩, ⟨zb BK242.out⟩, ⟨zb BK243.out⟩, ⟨zb BK244.out⟩, ⟨zw3 HB.out GE242.out GE243.out GE244.out⟩⟩
  case round =>
   clear H'
   try clear c1; try clear c2; try clear p2; try clear c3; try clear c7; try clear c7b0; try clear c7b1; try clear c13; try clear c14; try clear c16
   obtain ⟨x1_1, x13_1, x14_1, rfl, HA, HK1, HO_1, HO_13, BK242, BK243, BK244, HB⟩ := hrel
   cases gk with
   | zero => exact absurd HA.out (by simp [cellarref7_Store.l0])
   | succ k1 =>
    have H := HA.out
    clear HA
    simp only [cellarref7_Store.l0] at H
    by_cases c23 : x14_1 < (x13_1.length : Int)
    rotate_left
    ·rw [if_neg c23] at H
     have c23b0 : decide (x14_1 < (x13_1.length : Int)) = false := decide_eq_false c23
     clear c23
     simp only [Option.some.injEq, Prod.mk.injEq] at H
     obtain ⟨rfl, rfl⟩ := H
     obtain ⟨Ao36, co36, eo36⟩ := Kd.R_slice HO_13.out
     subst eo36
     go_wp2
     go_ret2
     exact ⟨_, ze, by (with_reducible repeat (first | apply Kd.S_alloc | apply Kd.S_drewN | apply Kd.S_drew)); exact Kd.S_mono HO_1.out (fun _ hk => trivial), zw3 HB.out GE242.out GE243.out GE244.out⟩
    rw [if_pos c23] at H
    have c23b0 : decide (x14_1 < (x13_1.length : Int)) = true := decide_eq_true c23
    clear c23
    by_cases c24 : 0 ≤ a2_2
    rotate_left
    ·rw [if_neg c24] at H
     exact absurd H (by simp)
    rw [if_pos c24] at H
    have c24b0 : decide (0 ≤ a2_2) = true := decide_eq_true c24
    clear c24
    by_cases c25 : a2_2 < (x1_1.length : Int)
    rotate_left
    ·rw [if_neg c25] at H
     exact absurd H (by simp)
    rw [if_pos c25] at H
    have c25b0 : decide (a2_2 < (x1_1.length : Int)) = true := decide_eq_true c25
    clear c25
    by_cases c26 : 0 ≤ x14_1
    rotate_left
    ·rw [if_neg c26] at H
     exact absurd H (by simp)
    rw [if_pos c26] at H
    have c26b0 : decide (0 ≤ x14_1) = true := decide_eq_true c26
    clear c26
    obtain ⟨ji27, hji27⟩ : ∃ j_ : Int, (wrap64 (a2_3 + x14_1)) = j_ := ⟨_, rfl⟩
    replace H : (if 0 ≤ (ji27) then (if (ji27) < (((rd_T76 x1_1 a2_2).f1).length : Int) then (cellarref7_Store.l0 k1 (x1_1.set (a2_2 : Int).toNat (⟨(rd_T76 x1_1 a2_2).f0, (((rd_T76 x1_1 a2_2).f1).set ((ji27) : Int).toNat (⟨(rd_T74 x13_1 x14_1).f0, (rd_T74 x13_1 x14_1).f1, (rd_T74 x13_1 x14_1).f2, (rd_T74 x13_1 x14_1).f3, (rd_T74 x13_1 x14_1).f4⟩ : S74))⟩ : S76)) x13_1 (wrap64 (x14_1 + 1)) a2_0 a2_1 a2_2 a2_3) else (none)) else (none)) = some (r1, r2) := by first | (rw [hji27] at H; exact H) | (simp only [hji27] at H ⊢; exact H)
    have hji27w : (IntKind.i64.wrap (a2_3 + x14_1)) = ji27 := (i64_w _).trans hji27
    by_cases c28 : 0 ≤ (ji27)
    rotate_left
    ·rw [if_neg c28] at H
     exact absurd H (by simp)
    rw [if_pos c28] at H
    have c28b0 : decide (0 ≤ (ji27)) = true := decide_eq_true c28
    clear c28
    by_cases c29 : (ji27) < (((rd_T76 x1_1 a2_2).f1).length : Int)
    rotate_left
    ·rw [if_neg c29] at H
     exact absurd H (by simp)
    rw [if_pos c29] at H
    have c29b0 : decide ((ji27) < (((rd_T76 x1_1 a2_2).f1).length : Int)) = true := decide_eq_true c29
    clear c29
    obtain ⟨y257, hy257⟩ : ∃ y_ : List (S74), y_ = (((rd_T76 x1_1 a2_2).f1).set ((ji27) : Int).toNat (⟨(rd_T74 x13_1 x14_1).f0, (rd_T74 x13_1 x14_1).f1, (rd_T74 x13_1 x14_1).f2, (rd_T74 x13_1 x14_1).f3, (rd_T74 x13_1 x14_1).f4⟩ : S74)) := ⟨_, rfl⟩
    replace H : (cellarref7_Store.l0 k1 (x1_1.set (a2_2 : Int).toNat (⟨(rd_T76 x1_1 a2_2).f0, y257⟩ : S76)) x13_1 (wrap64 (x14_1 + 1)) a2_0 a2_1 a2_2 a2_3) = some (r1, r2) := by first | (rw [hy257]; with_reducible exact H) | (have H2_ := (Option.bind_some _ _).symm.trans H; rw [hy257]; with_reducible exact H2_) | (have H2_ := (Option.bind_some _ _).symm.trans H; with_reducible exact H2_) | with_reducible exact H | (rw [hy257]; exact H) | exact H
    have Ny257 := Aside0.mk hy257
    clear hy257
    obtain ⟨y259, hy259⟩ : ∃ y_ : List (S76), y_ = (x1_1.set (a2_2 : Int).toNat (⟨(rd_T76 x1_1 a2_2).f0, y257⟩ : S76)) := ⟨_, rfl⟩
    replace H : (cellarref7_Store.l0 k1 y259 x13_1 (wrap64 (x14_1 + 1)) a2_0 a2_1 a2_2 a2_3) = some (r1, r2) := by first | (rw [hy259]; with_reducible exact H) | (have H2_ := (Option.bind_some _ _).symm.trans H; rw [hy259]; with_reducible exact H2_) | (have H2_ := (Option.bind_some _ _).symm.trans H; with_reducible exact H2_) | with_reducible exact H | (rw [hy259]; exact H) | exact H
    have Ny259 := Aside0.mk hy259
    clear hy259
    have H' := Aside0.mk H
    clear H
    obtain ⟨Ao31, co31, eo31⟩ := Kd.R_slice HO_13.out
    subst eo31
    try go_wp2
    have n0_ := Aside0.mk (Kd.S_drew HO_1.out)
    have n1_ := Aside0.mk (Kd.R_drew HO_13.out)
    have n2_ := Aside0.mk (blk_drew BK242.out)
    have n3_ := Aside0.mk (blk_drew BK243.out)
    have n4_ := Aside0.mk (blk_drew BK244.out)
    have n5_ := Aside0.mk (below_drew1 HB.out)
    clear HO_1
    clear HO_13
    clear BK242
    clear BK243
    clear BK244
    clear HB
    have HO_1 := n0_
    have HO_13 := n1_
    have BK242 := n2_
    have BK243 := n3_
    have BK244 := n4_
    have HB := n5_
    clear n0_ n1_ n2_ n3_ n4_ n5_
    obtain ⟨Ao33, co33, eo33⟩ := Kd.S_slice HO_1.out
    (first | subst eo33 | (injection eo33 with f1_ f2_ f3_; have f4_ := f1_.symm; have f5_ := f3_.symm; clear f1_ f2_ f3_; subst f4_; subst f5_))
    have p255 : 0 ≤ (a2_2 : Int) := zdec
    have q255 : a2_2 < (x1_1.length : Int) := zdec
    obtain ⟨ad255, A255_1, c255_1, e255, hx255_0, hx255_1, hl255_1, hi255_1⟩ := at_T76 (Kd.S_reads' HO_1.out).2.2 a2_2 p255 q255
    cases e255
    obtain ⟨ce255, hce255, hMe255, hcc255⟩ := Kd.S_get HO_1.out z76 a2_2 p255 (by first | exact q255 | exact zdec | (have e_ := (Kd.S_reads' HO_1.out).1; omega))
    obtain ⟨ve255_1, rfl, ge255_1⟩ := k76_openM hMe255
    have hv255_1 := hcc255 1 _ rfl
    rw [add_field _ _ 1 (by omega)] at hv255_1
    replace hv255_1 := Option.some.inj (hv255_1.symm.trans hx255_1)
    rw [hv255_1] at ge255_1
    have HL255_1 := Aside0.mk (show Kd.R k74 74 _ _ _ _ ((rd_T76 x1_1 a2_2).f1) from ge255_1)
    clear hv255_1 ge255_1
    have HX255_1 := Aside0.mk hx255_1
    clear hcc255 hce255
    have HR255_1 := Aside0.mk hi255_1
    have HC255_1 := Aside0.mk hl255_1
    clear hi255_1 hl255_1
    replace p255 := eq_true p255
    replace q255 := eq_true q255
    have p256 : 0 ≤ (x14_1 : Int) := zdec
    have q256 : x14_1 < (x13_1.length : Int) := zdec
    obtain ⟨ad256, e256, hx256_0, hx256_1, hx256_2, hx256_3, hx256_4⟩ := at_T74 (Kd.R_reads' HO_13.out).2.2 x14_1 p256 q256
    cases e256
    replace p256 := eq_true p256
    replace q256 := eq_true q256
    have p30 : 0 ≤ ((ji27) : Int) := zdec
    have q30 : ((ji27) : Int) < ((((rd_T76 x1_1 a2_2).f1).length : Int) : Int) := zdec
    obtain ⟨go30, co30, eo30, gb30, gl30, cl30, HG30⟩ := Kd.R_form HL255_1.out (by omega)
    (first | cases eo30 | (injection eo30 with ea_ en_ ec_; (first | subst ea_ | (injection ea_ with ea_; subst ea_)); subst ec_; clear en_))
    have GB30 := Aside0.mk gb30
    have GG30 := Aside0.mk HG30
    clear gb30 gl30 HG30
    obtain ⟨ce30, hcl30, hM30, hcc30, hfr30⟩ := Kd.R_elem HL255_1.out z74 ((ji27) : Int) p30 q30
    obtain rfl := k74_openM hM30
    have hx30_0 : World.cell? _ ⟨go30, ((ji27) : Int).toNat * 5, none⟩ = some (.int .i64 ((rd_T74 ((rd_T76 x1_1 a2_2).f1) (ji27)).f0)) := hcc30 0 _ rfl
    have hx30_1 : World.cell? _ ⟨go30, ((ji27) : Int).toNat * 5 + 1, none⟩ = some (.int .i64 ((rd_T74 ((rd_T76 x1_1 a2_2).f1) (ji27)).f1)) := hcc30 1 _ rfl
    have hx30_2 : World.cell? _ ⟨go30, ((ji27) : Int).toNat * 5 + 2, none⟩ = some (.int .i64 ((rd_T74 ((rd_T76 x1_1 a2_2).f1) (ji27)).f2)) := hcc30 2 _ rfl
    have hx30_3 : World.cell? _ ⟨go30, ((ji27) : Int).toNat * 5 + 3, none⟩ = some (.int .i64 ((rd_T74 ((rd_T76 x1_1 a2_2).f1) (ji27)).f3)) := hcc30 3 _ rfl
    have hx30_4 : World.cell? _ ⟨go30, ((ji27) : Int).toNat * 5 + 4, none⟩ = some (.int .i64 ((rd_T74 ((rd_T76 x1_1 a2_2).f1) (ji27)).f4)) := hcc30 4 _ rfl
    have hf30_0 : World.frozen? _ ⟨go30, ((ji27) : Int).toNat * 5, none⟩ = false := hfr30 0
    have hf30_1 : World.frozen? _ ⟨go30, ((ji27) : Int).toNat * 5 + 1, none⟩ = false := hfr30 1
    have hf30_2 : World.frozen? _ ⟨go30, ((ji27) : Int).toNat * 5 + 2, none⟩ = false := hfr30 2
    have hf30_3 : World.frozen? _ ⟨go30, ((ji27) : Int).toNat * 5 + 3, none⟩ = false := hfr30 3
    have hf30_4 : World.frozen? _ ⟨go30, ((ji27) : Int).toNat * 5 + 4, none⟩ = false := hfr30 4
    clear hcl30 hcc30 hfr30 hM30
    replace p30 := eq_true p30
    replace q30 := eq_true q30
    have hq34 : (a2_2 : Int) < (x1_1.length : Int) := (by have h_ : (a2_2 : Int) < ((x1_1.length : Int) : Int) := zdec; first | exact h_ | (have e_ := (Kd.S_reads' HO_1.out).1; omega) | simpa only [List.length_set, List.length_set] using h_)
    obtain ⟨oki34, ce34, hcl34, hM34, hcc34, hok34, hbk34⟩ := Kd.S_borrow HO_1.out z76 (a2_2 : Int) (zdec) hq34
    obtain ⟨ve34_1, rfl, ge34_1⟩ := k76_openM hM34
    have hv34 := hcc34 1 _ rfl
    rw [add_field _ _ 1 (by omega)] at hv34
    replace hv34 := Option.some.inj (hv34.symm.trans HX255_1.out)
    subst hv34
    clear hcc34 hcl34
    replace ge34_1 := (show Kd.R k74 74 _ _ _ _ ((rd_T76 x1_1 a2_2).f1) from ge34_1)
    obtain ⟨cf34, hcl34, hN34, hcc34, hfr34⟩ := Kd.R_elem ge34_1 z74 ((ji27) : Int) (zdec) (by have h_ : ((ji27) : Int) < ((((rd_T76 x1_1 a2_2).f1).length : Int) : Int) := zdec; first | exact h_ | (have e_ := (Kd.R_reads' HR255_1.out).1; omega) | simpa using h_)
    obtain rfl := k74_openM hN34
    have HP34 := Kd.R_seg ge34_1 ((ji27) : Int) (zdec) (by have h_ : ((ji27) : Int) < ((((rd_T76 x1_1 a2_2).f1).length : Int) : Int) := zdec; first | exact h_ | (have e_ := (Kd.R_reads' HR255_1.out).1; omega) | simpa using h_) (seg := [.int .i64 ((rd_T74 x13_1 x14_1).f0), .int .i64 ((rd_T74 x13_1 x14_1).f1), .int .i64 ((rd_T74 x13_1 x14_1).f2), .int .i64 ((rd_T74 x13_1 x14_1).f3), .int .i64 ((rd_T74 x13_1 x14_1).f4)]) (j := 0) hcl34 hcc34 (show 5 ≤ 5 from by decide) (x' := (⟨(rd_T74 x13_1 x14_1).f0, (rd_T74 x13_1 x14_1).f1, (rd_T74 x13_1 x14_1).f2, (rd_T74 x13_1 x14_1).f3, (rd_T74 x13_1 x14_1).f4⟩ : S74)) (k74_mkM _ _ _ (⟨(rd_T74 x13_1 x14_1).f0, (rd_T74 x13_1 x14_1).f1, (rd_T74 x13_1 x14_1).f2, (rd_T74 x13_1 x14_1).f3, (rd_T74 x13_1 x14_1).f4⟩ : S74)) (fun _ hk => hk)
    clear hcl34 hcc34 hfr34 hN34
    rw [← Ny257.out] at HP34
    have HS34 := hbk34 HP34.2 (fun k_ e_ => by injection e_ with e_; subst e_; exact ge34_1.1 _ rfl) (x' := (⟨(rd_T76 x1_1 a2_2).f0, y257⟩ : S76)) (k76_mkM _ _ _ (⟨(rd_T76 x1_1 a2_2).f0, y257⟩ : S76) HP34.1)
    rw [← Ny259.out] at HS34
    have HQ34 := Aside0.mk HS34
    clear HP34 HS34 hbk34 hok34
    refine start_ (n := 16) (S := fun w' => w'.cell? ⟨gb243, 0, none⟩ = some (.bool a2_0) ∧ w'.cell? ⟨gb243, 1, none⟩ = some (.int .i64 a2_1) ∧ w'.cell? ⟨gb243, 2, none⟩ = some (.int .i64 a2_2) ∧ w'.cell? ⟨gb243, 3, none⟩ = some (.int .i64 a2_3) ∧ w'.cell? (ad255.add ((a2_2).toNat * 2)) = some (.int .i64 ((rd_T76 x1_1 a2_2).f0)) ∧ w'.cell? ⟨(ad255.add ((a2_2).toNat * 2)).block, (ad255.add ((a2_2).toNat * 2)).off + 1, none⟩ = some (.slice (some ⟨go30, 0, none⟩) ((rd_T76 x1_1 a2_2).f1).length c255_1) ∧ w'.cell? (ad256.add ((x14_1).toNat * 5)) = some (.int .i64 ((rd_T74 x13_1 x14_1).f0)) ∧ w'.cell? ⟨(ad256.add ((x14_1).toNat * 5)).block, (ad256.add ((x14_1).toNat * 5)).off + 1, none⟩ = some (.int .i64 ((rd_T74 x13_1 x14_1).f1)) ∧ w'.cell? ⟨(ad256.add ((x14_1).toNat * 5)).block, (ad256.add ((x14_1).toNat * 5)).off + 2, none⟩ = some (.int .i64 ((rd_T74 x13_1 x14_1).f2)) ∧ w'.cell? ⟨(ad256.add ((x14_1).toNat * 5)).block, (ad256.add ((x14_1).toNat * 5)).off + 3, none⟩ = some (.int .i64 ((rd_T74 x13_1 x14_1).f3)) ∧ w'.cell? ⟨(ad256.add ((x14_1).toNat * 5)).block, (ad256.add ((x14_1).toNat * 5)).off + 4, none⟩ = some (.int .i64 ((rd_T74 x13_1 x14_1).f4))) (ds := [15]) #[false,false,false,false,false,false,false,false,false,false,false,false,false,false,false,false] (by kernel_rfl) rfl rfl ⟨(blk_cell BK243.out 0).trans rfl, (blk_cell BK243.out 1).trans rfl, (blk_cell BK243.out 2).trans rfl, (blk_cell BK243.out 3).trans rfl, hx255_0, hx255_1, hx256_0, hx256_1, hx256_2, hx256_3, hx256_4⟩ (fun hHeld => ?_); refine with_tabW cellarref7_Store.tab9 cellarref7_Store.bits9 (fun HT_ HW_ => ?_)
    generalize wr.drew = w32 at HO_1 HO_13 BK242 BK243 BK244 HB GG30 HL255_1 HQ34 HR255_1 HX255_1 hf30_0 hf30_1 hf30_2 hf30_3 hf30_4 hx255_0 hx255_1 hx256_0 hx256_1 hx256_2 hx256_3 hx256_4 hx30_0 hx30_1 hx30_2 hx30_3 hx30_4 hHeld ⊢
    refine zq 0 (some 37) HT_ ?_; refine zq 1 (some 38) HT_ ?_; refine zq 6 (some 43) HT_ ?_; refine zq 8 (some 45) HT_ ?_; refine zq 10 (some 47) HT_ ?_; refine zq 11 (some 48) HT_ ?_; refine zq 12 (some 49) HT_ ?_; refine zt 2 (some 39) HT_ HW_ hHeld ?_; refine zq 3 (some 40) HT_ ?_; refine zq 4 (some 41) HT_ ?_; refine zt 5 (some 42) HT_ HW_ hHeld ?_; refine zt 7 (some 44) HT_ HW_ hHeld ?_; refine zq 9 (some 46) HT_ ?_; refine zt 13 (some 50) HT_ HW_ hHeld ?_; refine zq 14 (some 51) HT_ ?_
    refine last_ (i := 15) (N := none) #[true,true,true,true,true,true,true,true,true,true,true,true,true,true,true,true] rfl rfl (one_of HT_.out (by kernel_rfl)) (by decide) (fun K hK => ?_)
    refine skip_ (w1 := ?_) (by rfl) rfl ?_ ?_
    rotate_left
    ·go_simp
     rfl
    refine hK.out _ _ ?_
    clear hK K
    refine done_ (done_of HT_.out (by kernel_rfl)) ?_
    try go_wp2
    go_roundg k1
    case measure => have := HK1.out; omega
    case rel => exact ⟨(y259), (x13_1), (wrap64 (x14_1 + 1)), (zr), H', ⟨by have := HK1.out; omega⟩, ⟨by (with_reducible repeat (first | apply Kd.S_alloc | apply Kd.S_drewN | apply Kd.S_drew)); exact HQ34.out⟩, ⟨by (with_reducible repeat (first | apply Kd.R_alloc | apply Kd.R_drewN | apply Kd.R_drew)); exact Kd.R_mono (Kd.R_far (p := ⟨go30, ((ji27) : Int).toNat * 5 + 4, none⟩) (Kd.R_far (p := ⟨go30, ((ji27) : Int).toNat * 5 + 3, none⟩) (Kd.R_far (p := ⟨go30, ((ji27) : Int).toNat * 5 + 2, none⟩) (Kd.R_far (p := ⟨go30, ((ji27) : Int).toNat * 5 + 1, none⟩) (Kd.R_far (p := ⟨go30, ((ji27) : Int).toNat * 5, none⟩) (Kd.R_far1 HO_13.out rfl ((HL255_1.out.1 _ rfl).1)) (fun _ hk => hk.2) (.int .i64 ((rd_T74 x13_1 x14_1).f0))) (fun _ hk => hk.2) (.int .i64 ((rd_T74 x13_1 x14_1).f1))) (fun _ hk => hk.2) (.int .i64 ((rd_T74 x13_1 x14_1).f2))) (fun _ hk => hk.2) (.int .i64 ((rd_T74 x13_1 x14_1).f3))) (fun _ hk => hk.2) (.int .i64 ((rd_T74 x13_1 x14_1).f4))) (fun _ hk => trivial)⟩, ⟨by (with_reducible repeat (first | refine blk_drewN ?_ _ | refine blk_drew ?_ | refine blk_alloc ?_ _)); refine blk_far ?_ (by have h_ := Kd.R_ne HL255_1.out BK242.out (by decide); intro e_; exact h_ (by rw [e_]; rfl)) _; (with_reducible repeat (first | refine blk_drewN ?_ _ | refine blk_drew ?_ | refine blk_alloc ?_ _)); refine blk_far ?_ (by have h_ := Kd.R_ne HL255_1.out BK242.out (by decide); intro e_; exact h_ (by rw [e_]; rfl)) _; (with_reducible repeat (first | refine blk_drewN ?_ _ | refine blk_drew ?_ | refine blk_alloc ?_ _)); refine blk_far ?_ (by have h_ := Kd.R_ne HL255_1.out BK242.out (by decide); intro e_; exact h_ (by rw [e_]; rfl)) _; (with_reducible repeat (first | refine blk_drewN ?_ _ | refine blk_drew ?_ | refine blk_alloc ?_ _)); refine blk_far ?_ (by have h_ := Kd.R_ne HL255_1.out BK242.out (by decide); intro e_; exact h_ (by rw [e_]; rfl)) _; (with_reducible repeat (first | refine blk_drewN ?_ _ | refine blk_drew ?_ | refine blk_alloc ?_ _)); refine blk_far ?_ (by have h_ := Kd.R_ne HL255_1.out BK242.out (by decide); intro e_; exact h_ (by rw [e_]; rfl)) _; (with_reducible repeat (first | refine blk_drewN ?_ _ | refine blk_drew ?_ | refine blk_alloc ?_ _)); exact BK242.out⟩, ⟨by (with_reducible repeat (first | refine blk_drewN ?_ _ | refine blk_drew ?_ | refine blk_alloc ?_ _)); refine blk_far ?_ (by have h_ := Kd.R_ne HL255_1.out BK243.out (by decide); intro e_; exact h_ (by rw [e_]; rfl)) _; (with_reducible repeat (first | refine blk_drewN ?_ _ | refine blk_drew ?_ | refine blk_alloc ?_ _)); refine blk_far ?_ (by have h_ := Kd.R_ne HL255_1.out BK243.out (by decide); intro e_; exact h_ (by rw [e_]; rfl)) _; (with_reducible repeat (first | refine blk_drewN ?_ _ | refine blk_drew ?_ | refine blk_alloc ?_ _)); refine blk_far ?_ (by have h_ := Kd.R_ne HL255_1.out BK243.out (by decide); intro e_; exact h_ (by rw [e_]; rfl)) _; (with_reducible repeat (first | refine blk_drewN ?_ _ | refine blk_drew ?_ | refine blk_alloc ?_ _)); refine blk_far ?_ (by have h_ := Kd.R_ne HL255_1.out BK243.out (by decide); intro e_; exact h_ (by rw [e_]; rfl)) _; (with_reducible repeat (first | refine blk_drewN ?_ _ | refine blk_drew ?_ | refine blk_alloc ?_ _)); refine blk_far ?_ (by have h_ := Kd.R_ne HL255_1.out BK243.out (by decide); intro e_; exact h_ (by rw [e_]; rfl)) _; (with_reducible repeat (first | refine blk_drewN ?_ _ | refine blk_drew ?_ | refine blk_alloc ?_ _)); exact BK243.out⟩, ⟨by (with_reducible repeat (first | refine blk_drewN ?_ _ | refine blk_drew ?_ | refine blk_alloc ?_ _)); refine blk_far ?_ (by have h_ := Kd.R_ne HL255_1.out BK244.out (by decide); intro e_; exact h_ (by rw [e_]; rfl)) _; (with_reducible repeat (first | refine blk_drewN ?_ _ | refine blk_drew ?_ | refine blk_alloc ?_ _)); refine blk_far ?_ (by have h_ := Kd.R_ne HL255_1.out BK244.out (by decide); intro e_; exact h_ (by rw [e_]; rfl)) _; (with_reducible repeat (first | refine blk_drewN ?_ _ | refine blk_drew ?_ | refine blk_alloc ?_ _)); refine blk_far ?_ (by have h_ := Kd.R_ne HL255_1.out BK244.out (by decide); intro e_; exact h_ (by rw [e_]; rfl)) _; (with_reducible repeat (first | refine blk_drewN ?_ _ | refine blk_drew ?_ | refine blk_alloc ?_ _)); refine blk_far ?_ (by have h_ := Kd.R_ne HL255_1.out BK244.out (by decide); intro e_; exact h_ (by rw [e_]; rfl)) _; (with_reducible repeat (first | refine blk_drewN ?_ _ | refine blk_drew ?_ | refine blk_alloc ?_ _)); refine blk_far ?_ (by have h_ := Kd.R_ne HL255_1.out BK244.out (by decide); intro e_; exact h_ (by rw [e_]; rfl)) _; (with_reducible repeat (first | refine blk_drewN ?_ _ | refine blk_drew ?_ | refine blk_alloc ?_ _)); exact BK244.out⟩, ⟨by repeat (first | (with_reducible first | exact HB.out | apply below_alloc | apply pw_below_drewN | apply below_drew1 | refine below_set ?_ GB30.out | refine below_set ?_ GB30.out | refine below_set ?_ GB30.out | refine below_set ?_ GB30.out | refine below_set ?_ GB30.out | refine below_set ?_ GE242.out | refine below_set ?_ GE243.out | refine below_set ?_ GE244.out) | exact HB.out)⟩⟩
 ·rw [if_neg c7] at H
  have c7b0 : (t245 == 0) = false := beq_eq_false_iff_ne.mpr c7
  have c7b1 : (t245 != 0) = true := bne_iff_ne.mpr c7
  replace H := Option.bind_eq_some_iff.mp H
  obtain ⟨t246, A370, H⟩ := H
  replace H : (some (t246, t245)) = some (r1, r2) := H
  have A37 := Aside0.mk A370
  clear A370
  simp only [Option.some.injEq, Prod.mk.injEq] at H
  obtain ⟨rfl, rfl⟩ := H
  go_enter Try.func34, Try.ntmps34
  go_wp2_with (first | ((with_reducible refine gate_dst (N := 5) rfl ?_); refine zbox (N := 5) (cs := #[.bool a0_0, .int .i64 a0_1]) (t := 29) ?_; intro gb242 hg w38 hbox hb; have n0_ := Aside0.mk (below_step (zw0 HB.out) hb); have BK242 := Aside0.mk (hbox); have GW242 := Aside0.mk (zg hg (below_size (zw0 HB.out))); have GE242 := GW242; clear HB; have HB := n0_; clear n0_; clear hb hbox hg) | ((with_reducible refine gate_dst (N := 7) rfl ?_); refine zbox (N := 7) (cs := #[.bool a2_0, .int .i64 a2_1, .int .i64 a2_2, .int .i64 a2_3]) (t := 62) ?_; intro gb243 hg w39 hbox hb; have n0_ := Aside0.mk (zbb BK242.out hb); have n1_ := Aside0.mk (below_step (zw1 HB.out GE242.out) hb); have BK243 := Aside0.mk (hbox); have GW243 := Aside0.mk (zg hg (below_size (zw1 HB.out GE242.out))); have GE243 := GW243; have NB242_243 := Aside0.mk (zlt hg BK242.out); have NB243_242 := Aside0.mk (zgt hg BK242.out); clear BK242 HB; have BK242 := n0_; have HB := n1_; clear n0_ n1_; clear hb hbox hg) | ((with_reducible refine gate_dst (N := 9) rfl ?_); refine zbox (N := 9) (cs := #[.bool a4_0, .int .i64 a4_1, .int .i64 a4_2, .int .i64 a4_3]) (t := 62) ?_; intro gb244 hg w40 hbox hb; have n0_ := Aside0.mk (zbb BK242.out hb); have n1_ := Aside0.mk (zbb BK243.out hb); have n2_ := Aside0.mk (below_step (zw2 HB.out GE242.out GE243.out) hb); have BK244 := Aside0.mk (hbox); have GW244 := Aside0.mk (zg hg (below_size (zw2 HB.out GE242.out GE243.out))); have GE244 := GW244; have NB242_244 := Aside0.mk (zlt hg BK242.out); have NB244_242 := Aside0.mk (zgt hg BK242.out); have NB243_244 := Aside0.mk (zlt hg BK243.out); have NB244_243 := Aside0.mk (zgt hg BK243.out); clear BK242 BK243 HB; have BK242 := n0_; have BK243 := n1_; have HB := n2_; clear n0_ n1_ n2_; clear hb hbox hg; have hnb41 := NB242_243.out; have hnc41 := NB243_242.out; have hnb42 := NB242_244.out; have hnc42 := NB244_242.out; have hcz43_0 := zc BK242.out 0; have hcz43_1 := zc BK242.out 1; have hfz43_0 := blk_frozen BK242.out 0; have hfz43_1 := blk_frozen BK242.out 1; have hnb44 := NB243_244.out; have hnc44 := NB244_243.out; have hcz45_0 := zc BK243.out 0; have hcz45_1 := zc BK243.out 1; have hcz45_2 := zc BK243.out 2; have hcz45_3 := zc BK243.out 3; have hfz45_0 := blk_frozen BK243.out 0; have hfz45_1 := blk_frozen BK243.out 1; have hfz45_2 := blk_frozen BK243.out 2; have hfz45_3 := blk_frozen BK243.out 3) | ((with_reducible refine gate_callee (f := 71) rfl ?_); refine zgo (some 19) Try.func71 #[.agg #[.bool a0_0, .int .i64 a0_1], .slice A1 l1.length c1, .agg #[.bool a2_0, .int .i64 a2_1, .int .i64 a2_2, .int .i64 a2_3], .int .i64 a3] ?_; (with_reducible refine (cellarref7_reach.calls k a0_0 a0_1 _ _ l1 a2_0 a2_1 a2_2 a2_3 a3 t245 _ ?side1 ?side2 A6.out).mono ?_); (case side1 => repeat (first | exact (Kd.C_below HR1.out HB.out) | (with_reducible refine Kd.C_alloc ?_ _) | (with_reducible refine Kd.C_drewN ?_ _) | (with_reducible refine Kd.C_drew ?_))); (case side2 => exact HC1.out); rintro e w46 ⟨rfl, hb⟩; refine ⟨_, rfl, ?_⟩; have n0_ := Aside0.mk (zbb BK242.out hb); have n1_ := Aside0.mk (zbb BK243.out hb); have n2_ := Aside0.mk (zbb BK244.out hb); have n3_ := Aside0.mk (below_step (zw3 HB.out GE242.out GE243.out GE244.out) hb); clear BK242 BK243 BK244 HB; have BK242 := n0_; have BK243 := n1_; have BK244 := n2_; have HB := n3_; clear n0_ n1_ n2_ n3_; (try clear hb); (try clear hb2); (try clear hk); (try clear hi)) | ((with_reducible refine gate_callee (f := 27) rfl ?_); refine zgo (some 23) Try.func27 #[.slice A1 l1.length c1] ?_; (with_reducible refine (cellarref0_CopyBlocks.calls k _ _ l1 t246 _ ?side1 ?side2 A37.out).mono ?_); (case side1 => repeat (first | exact (Kd.C_below HR1.out HB.out) | (with_reducible refine Kd.C_alloc ?_ _) | (with_reducible refine Kd.C_drewN ?_ _) | (with_reducible refine Kd.C_drew ?_))); (case side2 => exact HC1.out); rintro e w47 ⟨v247, rfl, ho0, hb⟩; refine ⟨_, rfl, ?_⟩; have HO248 := Aside0.mk (Kd.S_lower ho0 (below_size (zw3 HB.out GE242.out GE243.out GE244.out))); have n1_ := Aside0.mk (zbb BK242.out hb); have n2_ := Aside0.mk (zbb BK243.out hb); have n3_ := Aside0.mk (zbb BK244.out hb); have n4_ := Aside0.mk (below_step (zw3 HB.out GE242.out GE243.out GE244.out) hb); clear BK242 BK243 BK244 HB; have BK242 := n1_; have BK243 := n2_; have BK244 := n3_; have HB := n4_; clear n1_ n2_ n3_ n4_; (try clear hb); (try clear hb2); (try clear hk); (try clear hi); (try clear ho0)))
  go_ret2
  exact ⟨_, ze, by (with_reducible repeat (first | apply Kd.S_alloc | apply Kd.S_drewN | apply Kd.S_drew)); exact HO248.out, zw3 HB.out GE242.out GE243.out GE244.out⟩

/-! cellarlaw9_num -/
def cellarlaw9_num.f (a0 : Int) : Option (Int) := some a0
set_option maxHeartbeats 8000000 in
set_option maxRecDepth 100000 in
theorem cellarlaw9_num.calls (a0 : Int) (r : Int) (w : World) (h : cellarlaw9_num.f a0 = some r) :
  Calls Try.prog 35 #[.int .i64 a0] w fun e w' => e = .returned (.int .i64 r) ∧ Drawn0 w w' := by
 have H : (some a0) = some r := h
 clear h
 obtain rfl := Option.some.inj H
 go_enter Try.func35, Try.ntmps35
 go_wp2
 go_ret
 exact ⟨zr, by repeat (first | exact Drawn0.refl _ | apply Drawn0.step)⟩

/-! cellarref0_EqBytes -/
def cellarref0_EqBytes.l0 : Nat → List (S74) → List (S74) → Int → Option (Bool)
 | 0, _, _, _ => none
 | k + 1, x0, x1, x5 => if x5 < (x0.length : Int) then (if 0 ≤ x5 then (if x5 < (x1.length : Int) then (if (!(((rd_T74 x0 x5).f0) == ((rd_T74 x1 x5).f0)) || (!(((rd_T74 x0 x5).f1) == ((rd_T74 x1 x5).f1)) || (!(((rd_T74 x0 x5).f2) == ((rd_T74 x1 x5).f2)) || (!(((rd_T74 x0 x5).f3) == ((rd_T74 x1 x5).f3)) || (!(((rd_T74 x0 x5).f4) == ((rd_T74 x1 x5).f4))))))) = true then (some false) else (cellarref0_EqBytes.l0 k x0 x1 (wrap64 (x5 + 1)))) else (none)) else (none)) else (some true)
def cellarref0_EqBytes.f (k : Nat) (l0 : List (S74)) (l1 : List (S74)) : Option (Bool) := if (l0.length : Int) = (l1.length : Int) then (cellarref0_EqBytes.l0 k l0 l1 0) else (some false)
theorem cellarref0_EqBytes.mono_l : ∀ k, (∀ y0 y1 y2, LeO (cellarref0_EqBytes.l0 k y0 y1 y2) (cellarref0_EqBytes.l0 (k + 1) y0 y1 y2))
 | 0 => fun _ _ _ r h => by simp [cellarref0_EqBytes.l0] at h
 | k + 1 => by
  have ih0 := cellarref0_EqBytes.mono_l k
  ·intro y0 y1 y2
   unfold cellarref0_EqBytes.l0
   repeat' first
   | (with_reducible apply ih0)
   | (with_reducible apply LeO.refl)
   | (with_reducible apply LeO.none)
   | (with_reducible refine LeO.ite ?_ ?_)
   | (with_reducible refine LeO.bind ?_ (fun _ => ?_))
theorem cellarref0_EqBytes.mono : ∀ a0 a1 k, LeO (cellarref0_EqBytes.f k a0 a1) (cellarref0_EqBytes.f (k + 1) a0 a1) := by
 intro a0 a1 k
 have ih0 := cellarref0_EqBytes.mono_l k
 unfold cellarref0_EqBytes.f
 repeat' first
   | (with_reducible apply ih0)
   | (with_reducible apply LeO.refl)
   | (with_reducible apply LeO.none)
   | (with_reducible refine LeO.ite ?_ ?_)
   | (with_reducible refine LeO.bind ?_ (fun _ => ?_))
set_option maxHeartbeats 8000000 in
set_option maxRecDepth 100000 in
theorem cellarref0_EqBytes.calls (k : Nat) (A0 : Option Addr) (c0 : Nat) (l0 : List (S74)) (A1 : Option Addr) (c1 : Nat) (l1 : List (S74)) (r : Bool) (w : World) (hr0 : Kd.C k74 w A0 l0.length l0) (hc0 : l0.length ≤ c0) (hr1 : Kd.C k74 w A1 l1.length l1) (hc1 : l1.length ≤ c1) (h : cellarref0_EqBytes.f k l0 l1 = some r) :
  Calls Try.prog 105 #[.slice A0 l0.length c0, .slice A1 l1.length c1] w fun e w' => e = .returned (.bool r) ∧ Drawn0 w w' := by
 have hu74 := Try.underlying74
 have HR0 := Aside0.mk hr0
 have HC0 := Aside0.mk hc0
 clear hr0 hc0
 have HR1 := Aside0.mk hr1
 have HC1 := Aside0.mk hc1
 clear hr1 hc1
 have H : (if (l0.length : Int) = (l1.length : Int) then (cellarref0_EqBytes.l0 k l0 l1 0) else (some false)) = some r := h
 clear h
 by_cases c3 : (l0.length : Int) = (l1.length : Int)
 ·rw [if_pos c3] at H
  have c3b0 : ((l0.length : Int) == (l1.length : Int)) = true := beq_iff_eq.mpr c3
  have c3b1 : ((l0.length : Int) != (l1.length : Int)) = false := bne_eq_false_iff_eq.mpr c3
  have c3b2 : (l0.length == l1.length) = true := by first | simpa using c3 | (simp at c3 ⊢; omega)
  clear c3
  have H' := Aside0.mk H
  clear H
  go_enter Try.func105, Try.ntmps105
  go_wp2
  repeat (go_quiet (fail); try go_wp2)
  go_loopg [5] k (fun kq v5 w' => ∃ (x5_1 : Int), v5 = .int .i64 x5_1 ∧ Aside0 (cellarref0_EqBytes.l0 kq l0 l1 x5_1 = some r) ∧ Aside0 (kq ≤ k) ∧ Drawn0 w w')
  case atStart => exact ⟨(0), (zr), H', ⟨Nat.le_refl _⟩, by repeat (first | exact Drawn0.refl _ | apply Drawn0.step)⟩
  case round =>
   clear H'
   try clear c1; try clear p2; try clear c3; try clear c3b0; try clear c3b1; try clear c3b2
   obtain ⟨x5_1, rfl, HA, HK1, ⟨m1, rfl⟩⟩ := hrel
   cases gk with
   | zero => exact absurd HA.out (by simp [cellarref0_EqBytes.l0])
   | succ k1 =>
    have H := HA.out
    clear HA
    simp only [cellarref0_EqBytes.l0] at H
    by_cases c4 : x5_1 < (l0.length : Int)
    rotate_left
    ·rw [if_neg c4] at H
     have c4b0 : decide (x5_1 < (l0.length : Int)) = false := decide_eq_false c4
     clear c4
     obtain rfl := Option.some.inj H
     go_wp2
     repeat (go_quiet (fail); try go_wp2)
     go_ret
     exact ⟨zr, by repeat (first | exact Drawn0.refl _ | apply Drawn0.step)⟩
    rw [if_pos c4] at H
    have c4b0 : decide (x5_1 < (l0.length : Int)) = true := decide_eq_true c4
    clear c4
    by_cases c5 : 0 ≤ x5_1
    rotate_left
    ·rw [if_neg c5] at H
     exact absurd H (by simp)
    rw [if_pos c5] at H
    have c5b0 : decide (0 ≤ x5_1) = true := decide_eq_true c5
    clear c5
    by_cases c6 : x5_1 < (l1.length : Int)
    rotate_left
    ·rw [if_neg c6] at H
     exact absurd H (by simp)
    rw [if_pos c6] at H
    have c6b0 : decide (x5_1 < (l1.length : Int)) = true := decide_eq_true c6
    clear c6
    by_cases c7 : (!(((rd_T74 l0 x5_1).f0) == ((rd_T74 l1 x5_1).f0)) || (!(((rd_T74 l0 x5_1).f1) == ((rd_T74 l1 x5_1).f1)) || (!(((rd_T74 l0 x5_1).f2) == ((rd_T74 l1 x5_1).f2)) || (!(((rd_T74 l0 x5_1).f3) == ((rd_T74 l1 x5_1).f3)) || (!(((rd_T74 l0 x5_1).f4) == ((rd_T74 l1 x5_1).f4))))))) = true
    ·rw [if_pos c7] at H
     have c7b0 : (!(((rd_T74 l0 x5_1).f0) == ((rd_T74 l1 x5_1).f0)) || (!(((rd_T74 l0 x5_1).f1) == ((rd_T74 l1 x5_1).f1)) || (!(((rd_T74 l0 x5_1).f2) == ((rd_T74 l1 x5_1).f2)) || (!(((rd_T74 l0 x5_1).f3) == ((rd_T74 l1 x5_1).f3)) || (!(((rd_T74 l0 x5_1).f4) == ((rd_T74 l1 x5_1).f4))))))) = true := c7
     clear c7
     obtain rfl := Option.some.inj H
     have p260 : 0 ≤ (x5_1 : Int) := zdec
     have q260 : x5_1 < (l0.length : Int) := zdec
     obtain ⟨ad260, e260, hx260_0, hx260_1, hx260_2, hx260_3, hx260_4⟩ := at_T74 HR0.out x5_1 p260 q260
     cases e260
     replace p260 := eq_true p260
     replace q260 := eq_true q260
     have p261 : 0 ≤ (x5_1 : Int) := zdec
     have q261 : x5_1 < (l1.length : Int) := zdec
     obtain ⟨ad261, e261, hx261_0, hx261_1, hx261_2, hx261_3, hx261_4⟩ := at_T74 HR1.out x5_1 p261 q261
     cases e261
     replace p261 := eq_true p261
     replace q261 := eq_true q261
     go_wp2
     repeat (go_quiet (fail); try go_wp2)
     go_ret
     exact ⟨zr, by repeat (first | exact Drawn0.refl _ | apply Drawn0.step)⟩
    rw [if_neg c7] at H
    have c7b0 : (!(((rd_T74 l0 x5_1).f0) == ((rd_T74 l1 x5_1).f0)) || (!(((rd_T74 l0 x5_1).f1) == ((rd_T74 l1 x5_1).f1)) || (!(((rd_T74 l0 x5_1).f2) == ((rd_T74 l1 x5_1).f2)) || (!(((rd_T74 l0 x5_1).f3) == ((rd_T74 l1 x5_1).f3)) || (!(((rd_T74 l0 x5_1).f4) == ((rd_T74 l1 x5_1).f4))))))) = false := by simpa using c7
    clear c7
    have H' := Aside0.mk H
    clear H
    have p260 : 0 ≤ (x5_1 : Int) := zdec
    have q260 : x5_1 < (l0.length : Int) := zdec
    obtain ⟨ad260, e260, hx260_0, hx260_1, hx260_2, hx260_3, hx260_4⟩ := at_T74 HR0.out x5_1 p260 q260
    cases e260
    replace p260 := eq_true p260
    replace q260 := eq_true q260
    have p261 : 0 ≤ (x5_1 : Int) := zdec
    have q261 : x5_1 < (l1.length : Int) := zdec
    obtain ⟨ad261, e261, hx261_0, hx261_1, hx261_2, hx261_3, hx261_4⟩ := at_T74 HR1.out x5_1 p261 q261
    cases e261
    replace p261 := eq_true p261
    replace q261 := eq_true q261
    go_wp2
    repeat (go_quiet (fail); try go_wp2)
    go_roundg k1
    case measure => have := HK1.out; omega
    case rel => exact ⟨(wrap64 (x5_1 + 1)), (zr), H', ⟨by have := HK1.out; omega⟩, by repeat (first | exact Drawn0.refl _ | apply Drawn0.step)⟩
 ·rw [if_neg c3] at H
  have c3b0 : ((l0.length : Int) == (l1.length : Int)) = false := beq_eq_false_iff_ne.mpr c3
  have c3b1 : ((l0.length : Int) != (l1.length : Int)) = true := bne_iff_ne.mpr c3
  have c3b2 : (l0.length == l1.length) = false := by first | simpa using c3 | (simp at c3 ⊢; omega)
  obtain rfl := Option.some.inj H
  go_enter Try.func105, Try.ntmps105
  go_wp2
  repeat (go_quiet (fail); try go_wp2)
  go_ret
  exact ⟨zr, by repeat (first | exact Drawn0.refl _ | apply Drawn0.step)⟩

/-! cellarref0_EqBlock -/
def cellarref0_EqBlock.f (k : Nat) (a0_0 : Int) (l0_1 : List (S74)) (a1_0 : Int) (l1_1 : List (S74)) : Option (Bool) := if a0_0 = a1_0 then ((cellarref0_EqBytes.f k l0_1 l1_1).bind fun t264 => (some t264)) else (some false)
theorem cellarref0_EqBlock.mono : ∀ a0 a1 a2 a3 k, LeO (cellarref0_EqBlock.f k a0 a1 a2 a3) (cellarref0_EqBlock.f (k + 1) a0 a1 a2 a3) := by
 intro a0 a1 a2 a3 k
 unfold cellarref0_EqBlock.f
 repeat' first
   | (with_reducible apply cellarref0_EqBytes.mono)
   | (with_reducible apply LeO.refl)
   | (with_reducible apply LeO.none)
   | (with_reducible refine LeO.ite ?_ ?_)
   | (with_reducible refine LeO.bind ?_ (fun _ => ?_))
set_option maxHeartbeats 8000000 in
set_option maxRecDepth 100000 in
theorem cellarref0_EqBlock.calls (k : Nat) (a0_0 : Int) (A0_1 : Option Addr) (c0_1 : Nat) (l0_1 : List (S74)) (a1_0 : Int) (A1_1 : Option Addr) (c1_1 : Nat) (l1_1 : List (S74)) (r : Bool) (w : World) (hr0_1 : Kd.C k74 w A0_1 l0_1.length l0_1) (hc0_1 : l0_1.length ≤ c0_1) (hr1_1 : Kd.C k74 w A1_1 l1_1.length l1_1) (hc1_1 : l1_1.length ≤ c1_1) (h : cellarref0_EqBlock.f k a0_0 l0_1 a1_0 l1_1 = some r) :
  Calls Try.prog 73 #[.agg #[.int .i64 a0_0, .slice A0_1 l0_1.length c0_1], .agg #[.int .i64 a1_0, .slice A1_1 l1_1.length c1_1]] w fun e w' => e = .returned (.bool r) ∧ Below w.heap.size w w' := by
 have hu76 := Try.underlying76
 have HR0_1 := Aside0.mk hr0_1
 have HC0_1 := Aside0.mk hc0_1
 clear hr0_1 hc0_1
 have HR1_1 := Aside0.mk hr1_1
 have HC1_1 := Aside0.mk hc1_1
 clear hr1_1 hc1_1
 have HB := Aside0.mk (Below.refl w.heap.size w)
 have H : (if a0_0 = a1_0 then ((cellarref0_EqBytes.f k l0_1 l1_1).bind fun t264 => (some t264)) else (some false)) = some r := h
 clear h
 by_cases c3 : a0_0 = a1_0
 ·rw [if_pos c3] at H
  have c3b0 : (a0_0 == a1_0) = true := beq_iff_eq.mpr c3
  have c3b1 : (a0_0 != a1_0) = false := bne_eq_false_iff_eq.mpr c3
  clear c3
  replace H := Option.bind_eq_some_iff.mp H
  obtain ⟨t264, A40, H⟩ := H
  replace H : (some t264) = some r := H
  have A4 := Aside0.mk A40
  clear A40
  obtain rfl := Option.some.inj H
  go_enter Try.func73, Try.ntmps73
  go_wp2_with (first | ((with_reducible refine gate_dst (N := 2) rfl ?_); refine zbox (N := 2) (cs := #[.int .i64 a0_0, .slice A0_1 l0_1.length c0_1]) (t := 76) ?_; intro gb262 hg w5 hbox hb; have n0_ := Aside0.mk (below_step (zw0 HB.out) hb); have BK262 := Aside0.mk (hbox); have GW262 := Aside0.mk (zg hg (below_size (zw0 HB.out))); have GE262 := GW262; clear HB; have HB := n0_; clear n0_; clear hb hbox hg) | ((with_reducible refine gate_dst (N := 3) rfl ?_); refine zbox (N := 3) (cs := #[.int .i64 a1_0, .slice A1_1 l1_1.length c1_1]) (t := 76) ?_; intro gb263 hg w6 hbox hb; have n0_ := Aside0.mk (zbb BK262.out hb); have n1_ := Aside0.mk (below_step (zw1 HB.out GE262.out) hb); have BK263 := Aside0.mk (hbox); have GW263 := Aside0.mk (zg hg (below_size (zw1 HB.out GE262.out))); have GE263 := GW263; have NB262_263 := Aside0.mk (zlt hg BK262.out); have NB263_262 := Aside0.mk (zgt hg BK262.out); clear BK262 HB; have BK262 := n0_; have HB := n1_; clear n0_ n1_; clear hb hbox hg; have hnb7 := NB262_263.out; have hnc7 := NB263_262.out; have hcz8_0 := zc BK262.out 0; have hcz8_1 := zc BK262.out 1; have hfz8_0 := blk_frozen BK262.out 0; have hfz8_1 := blk_frozen BK262.out 1; have hcz9_0 := zc BK263.out 0; have hcz9_1 := zc BK263.out 1; have hfz9_0 := blk_frozen BK263.out 0; have hfz9_1 := blk_frozen BK263.out 1) | (go_at_call 105; (with_reducible refine (cellarref0_EqBytes.calls k _ _ l0_1 _ _ l1_1 t264 _ ?side1 ?side2 ?side3 ?side4 A4.out).mono ?_); (case side1 => repeat (first | exact (Kd.C_below HR0_1.out HB.out) | (with_reducible refine Kd.C_alloc ?_ _) | (with_reducible refine Kd.C_drewN ?_ _) | (with_reducible refine Kd.C_drew ?_))); (case side2 => exact HC0_1.out); (case side3 => repeat (first | exact (Kd.C_below HR1_1.out HB.out) | (with_reducible refine Kd.C_alloc ?_ _) | (with_reducible refine Kd.C_drewN ?_ _) | (with_reducible refine Kd.C_drew ?_))); (case side4 => exact HC1_1.out); rintro e w' ⟨rfl, ⟨nd, rfl⟩⟩))
  go_ret
  exact ⟨ze, zw2 HB.out GE262.out GE263.out⟩
 ·rw [if_neg c3] at H
  have c3b0 : (a0_0 == a1_0) = false := beq_eq_false_iff_ne.mpr c3
  have c3b1 : (a0_0 != a1_0) = true := bne_iff_ne.mpr c3
  obtain rfl := Option.some.inj H
  go_enter Try.func73, Try.ntmps73
  go_wp2_with (first | ((with_reducible refine gate_dst (N := 2) rfl ?_); refine zbox (N := 2) (cs := #[.int .i64 a0_0, .slice A0_1 l0_1.length c0_1]) (t := 76) ?_; intro gb262 hg w10 hbox hb; have n0_ := Aside0.mk (below_step (zw0 HB.out) hb); have BK262 := Aside0.mk (hbox); have GW262 := Aside0.mk (zg hg (below_size (zw0 HB.out))); have GE262 := GW262; clear HB; have HB := n0_; clear n0_; clear hb hbox hg) | ((with_reducible refine gate_dst (N := 3) rfl ?_); refine zbox (N := 3) (cs := #[.int .i64 a1_0, .slice A1_1 l1_1.length c1_1]) (t := 76) ?_; intro gb263 hg w11 hbox hb; have n0_ := Aside0.mk (zbb BK262.out hb); have n1_ := Aside0.mk (below_step (zw1 HB.out GE262.out) hb); have BK263 := Aside0.mk (hbox); have GW263 := Aside0.mk (zg hg (below_size (zw1 HB.out GE262.out))); have GE263 := GW263; have NB262_263 := Aside0.mk (zlt hg BK262.out); have NB263_262 := Aside0.mk (zgt hg BK262.out); clear BK262 HB; have BK262 := n0_; have HB := n1_; clear n0_ n1_; clear hb hbox hg; have hnb12 := NB262_263.out; have hnc12 := NB263_262.out; have hcz13_0 := zc BK262.out 0; have hcz13_1 := zc BK262.out 1; have hfz13_0 := blk_frozen BK262.out 0; have hfz13_1 := blk_frozen BK262.out 1; have hcz14_0 := zc BK263.out 0; have hcz14_1 := zc BK263.out 1; have hfz14_0 := blk_frozen BK263.out 0; have hfz14_1 := blk_frozen BK263.out 1))
  go_ret
  exact ⟨ze, zw2 HB.out GE262.out GE263.out⟩

end Go.Proofs.Ytjoplkillkhiaaa.St
