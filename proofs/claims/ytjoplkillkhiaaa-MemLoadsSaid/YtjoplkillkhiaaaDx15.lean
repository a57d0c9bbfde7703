-- Written by this session's own edition of the print.
import Derived.Test.YtjoplkillkhiaaaDx0
import Derived.Test.YtjoplkillkhiaaaDx3
import Derived.Test.YtjoplkillkhiaaaDx7
import Derived.Test.YtjoplkillkhiaaaDx12
import Derived.Test.YtjoplkillkhiaaaDx14
import Derived.Test.YtjoplkillkhiaaaSq
import Derived.Test.YtjoplkillkhiaaaSq2
namespace Go.Proofs.Ytjoplkillkhiaaa.D
open Go.RowKit Go.Proofs.Ytjoplkillkhiaaa.Fn Go.Proofs.YtjoplkillkhiaaaW.PrintWords Go.Proofs.YtjoplkillkhiaaaW.PrintLast Go.Proofs.YtjoplkillkhiaaaW.PrintMore
attribute [local go_sem] max2_int min2_int max_two min_two max_three min_three max_four min_four   -- for this text's walks alone
set_option linter.unusedVariables false
set_option linter.unusedSimpArgs false

/-! cellarref7_Load -/
def cellarref7_Load.f (k : Nat) (a0_0 : Bool) (a0_1 : Int) (l1 : List (S76)) (a2_0 : Bool) (a2_1 : Int) (a2_2 : Int) (a2_3 : Int) (a3 : Int) : Option (Bool × Int × Int × Int × Int) := (cellarref7_reach.f k a0_0 a0_1 l1 a2_0 a2_1 a2_2 a2_3 a3).bind fun t339 => (if t339 = 0 then (if 0 ≤ a2_2 then (if a2_2 < (l1.length : Int) then ((cellarref1_Size.f k a0_0 a0_1 a3).bind fun t341 => (if 0 ≤ a2_3 then (if a2_3 ≤ (wrap64 (a2_3 + t341)) then (if (wrap64 (a2_3 + t341)) ≤ (((rd_T76 l1 a2_2).f1).length : Int) then ((cellarref7_Get.f k a0_0 a0_1 a3 ((((rd_T76 l1 a2_2).f1).take ((wrap64 (a2_3 + t341)) : Int).toNat).drop (a2_3 : Int).toNat)).bind fun bt346 => (some (bt346.1, bt346.2.1, bt346.2.2.1, bt346.2.2.2.1, bt346.2.2.2.2))) else (none)) else (none)) else (none))) else (none)) else (none)) else (some (false, 0, 0, 0, t339)))
theorem cellarref7_Load.mono : ∀ a0 a1 a2 a3 a4 a5 a6 a7 k, LeO (cellarref7_Load.f k a0 a1 a2 a3 a4 a5 a6 a7) (cellarref7_Load.f (k + 1) a0 a1 a2 a3 a4 a5 a6 a7) := by
 intro a0 a1 a2 a3 a4 a5 a6 a7 k
 unfold cellarref7_Load.f
 repeat' first
   | (with_reducible apply cellarref1_Size.mono)
   | (with_reducible apply cellarref7_Get.mono)
   | (with_reducible apply cellarref7_reach.mono)
   | (with_reducible apply LeO.refl)
   | (with_reducible apply LeO.none)
   | (with_reducible refine LeO.ite ?_ ?_)
   | (with_reducible refine LeO.bind ?_ (fun _ => ?_))
def cellarref7_Load.T4 : Bool × List (List Nat × List Nat) := (true, [([], []), ([], []), ([], []), ([], []), ([3], [3]), ([2, 4], [2, 4]), ([5], [5]), ([6], [6]), ([], []), ([8], [8]), ([], []), ([10], [10]), ([], []), ([], []), ([12, 13], [12, 13]), ([11, 14], [11, 14]), ([7, 9, 15], [7, 9, 15]), ([0, 1, 16, 14], [0, 1, 16]), ([17], [17]), ([17], [17]), ([18, 17, 0, 1, 2, 3, 4, 5, 6, 7, 8, 9, 10, 11, 12, 13, 14, 15, 16, 17, 18, 19], [18]), ([19, 20, 0, 1, 2, 3, 4, 5, 6, 7, 8, 9, 10, 11, 12, 13, 14, 15, 16, 17, 18, 19, 20], [19])])
def cellarref7_Load.B4 : List Nat := [0, 0, 0, 0, 8, 28, 60, 124, 0, 256, 0, 1024, 0, 0, 12288, 31744, 65532, 131071, 262143, 262143, 1048575, 2097151]
theorem cellarref7_Load.tab4 : rtab .any (opsOf Try.f40 4) = cellarref7_Load.T4 := by kernel_rfl
theorem cellarref7_Load.bits4 : waitsOk cellarref7_Load.T4.2 cellarref7_Load.B4 = true := by kernel_rfl
set_option maxHeartbeats 8000000 in
set_option maxRecDepth 100000 in
theorem cellarref7_Load.calls (k : Nat) (a0_0 : Bool) (a0_1 : Int) (A1 : Option Addr) (c1 : Nat) (l1 : List (S76)) (a2_0 : Bool) (a2_1 : Int) (a2_2 : Int) (a2_3 : Int) (a3 : Int) (r1 : Bool) (r2 : Int) (r3 : Int) (r4 : Int) (r5 : Int) (w : World) (hr1 : Kd.C k76 w A1 l1.length l1) (hc1 : l1.length ≤ c1) (h : cellarref7_Load.f k a0_0 a0_1 l1 a2_0 a2_1 a2_2 a2_3 a3 = some (r1, r2, r3, r4, r5)) :
  Calls Try.prog 40 #[.agg #[.bool a0_0, .int .i64 a0_1], .slice A1 l1.length c1, .agg #[.bool a2_0, .int .i64 a2_1, .int .i64 a2_2, .int .i64 a2_3], .int .i64 a3] w fun e w' => e = .returned (.tuple #[.agg #[.bool r1, .int .i64 r2, .int .i64 r3, .int .i64 r4], .int .i64 r5]) ∧ Below w.heap.size w w' := by
 have hu29 := Try.underlying29
 have hu62 := Try.underlying62
 have HR1 := Aside0.mk hr1
 have HC1 := Aside0.mk hc1
 clear hr1 hc1
 have HB := Aside0.mk (Below.refl w.heap.size w)
 have H : ((cellarref7_reach.f k a0_0 a0_1 l1 a2_0 a2_1 a2_2 a2_3 a3).bind fun t339 => (if t339 = 0 then (if 0 ≤ a2_2 then (if a2_2 < (l1.length : Int) then ((cellarref1_Size.f k a0_0 a0_1 a3).bind fun t341 => (if 0 ≤ a2_3 then (if a2_3 ≤ (wrap64 (a2_3 + t341)) then (if (wrap64 (a2_3 + t341)) ≤ (((rd_T76 l1 a2_2).f1).length : Int) then ((cellarref7_Get.f k a0_0 a0_1 a3 ((((rd_T76 l1 a2_2).f1).take ((wrap64 (a2_3 + t341)) : Int).toNat).drop (a2_3 : Int).toNat)).bind fun bt346 => (some (bt346.1, bt346.2.1, bt346.2.2.1, bt346.2.2.2.1, bt346.2.2.2.2))) else (none)) else (none)) else (none))) else (none)) else (none)) else (some (false, 0, 0, 0, t339)))) = some (r1, r2, r3, r4, r5) := h
 clear h
 replace H := Option.bind_eq_some_iff.mp H
 obtain ⟨t339, A50, H⟩ := H
 replace H : (if t339 = 0 then (if 0 ≤ a2_2 then (if a2_2 < (l1.length : Int) then ((cellarref1_Size.f k a0_0 a0_1 a3).bind fun t341 => (if 0 ≤ a2_3 then (if a2_3 ≤ (wrap64 (a2_3 + t341)) then (if (wrap64 (a2_3 + t341)) ≤ (((rd_T76 l1 a2_2).f1).length : Int) then ((cellarref7_Get.f k a0_0 a0_1 a3 ((((rd_T76 l1 a2_2).f1).take ((wrap64 (a2_3 + t341)) : Int).toNat).drop (a2_3 : Int).toNat)).bind fun bt346 => (some (bt346.1, bt346.2.1, bt346.2.2.1, bt346.2.2.2.1, bt346.2.2.2.2))) else (none)) else (none)) else (none))) else (none)) else (none)) else (some (false, 0, 0, 0, t339))) = some (r1, r2, r3, r4, r5) := H
 have A5 := Aside0.mk A50
 clear A50
 by_cases c6 : t339 = 0
 ·rw [if_pos c6] at H
  have c6b0 : (t339 == 0) = true := beq_iff_eq.mpr c6
  have c6b1 : (t339 != 0) = false := bne_eq_false_iff_eq.mpr c6
  clear c6
  by_cases c7 : 0 ≤ a2_2
  rotate_left
  ·rw [if_neg c7] at H
   exact absurd H (by simp)
  rw [if_pos c7] at H
  have c7b0 : decide (0 ≤ a2_2) = true := decide_eq_true c7
  clear c7
  by_cases c8 : a2_2 < (l1.length : Int)
  rotate_left
  ·rw [if_neg c8] at H
   exact absurd H (by simp)
  rw [if_pos c8] at H
  have c8b0 : decide (a2_2 < (l1.length : Int)) = true := decide_eq_true c8
  clear c8
  replace H := Option.bind_eq_some_iff.mp H
  obtain ⟨t341, A90, H⟩ := H
  replace H : (if 0 ≤ a2_3 then (if a2_3 ≤ (wrap64 (a2_3 + t341)) then (if (wrap64 (a2_3 + t341)) ≤ (((rd_T76 l1 a2_2).f1).length : Int) then ((cellarref7_Get.f k a0_0 a0_1 a3 ((((rd_T76 l1 a2_2).f1).take ((wrap64 (a2_3 + t341)) : Int).toNat).drop (a2_3 : Int).toNat)).bind fun bt346 => (some (bt346.1, bt346.2.1, bt346.2.2.1, bt346.2.2.2.1, bt346.2.2.2.2))) else (none)) else (none)) else (none)) = some (r1, r2, r3, r4, r5) := H
  have A9 := Aside0.mk A90
  clear A90
  by_cases c10 : 0 ≤ a2_3
  rotate_left
  ·rw [if_neg c10] at H
   exact absurd H (by simp)
  rw [if_pos c10] at H
  have c10b0 := eq_true c10
  have c10b1 : decide (0 ≤ a2_3) = true := decide_eq_true c10
  clear c10
  by_cases c11 : a2_3 ≤ (wrap64 (a2_3 + t341))
  rotate_left
  ·rw [if_neg c11] at H
   exact absurd H (by simp)
  rw [if_pos c11] at H
  have c11b0 := eq_true c11
  have c11b1 : decide (a2_3 ≤ (wrap64 (a2_3 + t341))) = true := decide_eq_true c11
  by_cases c12 : (wrap64 (a2_3 + t341)) ≤ (((rd_T76 l1 a2_2).f1).length : Int)
  rotate_left
  ·rw [if_neg c12] at H
   exact absurd H (by simp)
  rw [if_pos c12] at H
  have c12b0 := eq_true c12
  have c12b1 : decide ((wrap64 (a2_3 + t341)) ≤ (((rd_T76 l1 a2_2).f1).length : Int)) = true := decide_eq_true c12
  obtain ⟨y342, hy342⟩ : ∃ y_ : List (S74), y_ = ((((rd_T76 l1 a2_2).f1).take ((wrap64 (a2_3 + t341)) : Int).toNat).drop (a2_3 : Int).toNat) := ⟨_, rfl⟩
  replace H : ((cellarref7_Get.f k a0_0 a0_1 a3 y342).bind fun bt346 => (some (bt346.1, bt346.2.1, bt346.2.2.1, bt346.2.2.2.1, bt346.2.2.2.2))) = some (r1, r2, r3, r4, r5) := by first | (rw [hy342]; with_reducible exact H) | (have H2_ := (Option.bind_some _ _).symm.trans H; rw [hy342]; with_reducible exact H2_) | (have H2_ := (Option.bind_some _ _).symm.trans H; with_reducible exact H2_) | with_reducible exact H | (rw [hy342]; exact H) | exact H
  have Ny342 := Aside0.mk hy342
  clear hy342
  replace H := Option.bind_eq_some_iff.mp H
  obtain ⟨⟨t346, t347, t348, t349, t350⟩, A130, H⟩ := H
  replace H : (some (t346, t347, t348, t349, t350)) = some (r1, r2, r3, r4, r5) := H
  have A13 := Aside0.mk A130
  clear A130
  simp only [Option.some.injEq, Prod.mk.injEq] at H
  obtain ⟨rfl, rfl, rfl, rfl, rfl⟩ := H
  go_enter Try.func40, Try.ntmps40
  try go_wp2_with (first | ((with_reducible refine gate_dst (N := 4) rfl ?_); refine zbox (N := 4) (cs := #[.bool a0_0, .int .i64 a0_1]) (t := 29) ?_; intro gb336 hg w14 hbox hb; have n0_ := Aside0.mk (below_step (zw0 HB.out) hb); have BK336 := Aside0.mk (hbox); have GW336 := Aside0.mk (zg hg (below_size (zw0 HB.out))); have GE336 := GW336; clear HB; have HB := n0_; clear n0_; clear hb hbox hg) | ((with_reducible refine gate_dst (N := 6) rfl ?_); refine zbox (N := 6) (cs := #[.bool a2_0, .int .i64 a2_1, .int .i64 a2_2, .int .i64 a2_3]) (t := 62) ?_; intro gb337 hg w15 hbox hb; have n0_ := Aside0.mk (zbb BK336.out hb); have n1_ := Aside0.mk (below_step (zw1 HB.out GE336.out) hb); have BK337 := Aside0.mk (hbox); have GW337 := Aside0.mk (zg hg (below_size (zw1 HB.out GE336.out))); have GE337 := GW337; have NB336_337 := Aside0.mk (zlt hg BK336.out); have NB337_336 := Aside0.mk (zgt hg BK336.out); clear BK336 HB; have BK336 := n0_; have HB := n1_; clear n0_ n1_; clear hb hbox hg) | ((with_reducible refine gate_dst (N := 8) rfl ?_); refine zbox (N := 8) (cs := #[.bool false, .int .i64 0, .int .i64 0, .int .i64 0]) (t := 62) ?_; intro gb338 hg w16 hbox hb; have n0_ := Aside0.mk (zbb BK336.out hb); have n1_ := Aside0.mk (zbb BK337.out hb); have n2_ := Aside0.mk (below_step (zw2 HB.out GE336.out GE337.out) hb); have BK338 := Aside0.mk (hbox); have GW338 := Aside0.mk (zg hg (below_size (zw2 HB.out GE336.out GE337.out))); have GE338 := GW338; have NB336_338 := Aside0.mk (zlt hg BK336.out); have NB338_336 := Aside0.mk (zgt hg BK336.out); have NB337_338 := Aside0.mk (zlt hg BK337.out); have NB338_337 := Aside0.mk (zgt hg BK337.out); clear BK336 BK337 HB; have BK336 := n0_; have BK337 := n1_; have HB := n2_; clear n0_ n1_ n2_; clear hb hbox hg; have hnb17 := NB336_337.out; have hnc17 := NB337_336.out; have hnb18 := NB336_338.out; have hnc18 := NB338_336.out; have hcz19_0 := zc BK336.out 0; have hcz19_1 := zc BK336.out 1; have hfz19_0 := blk_frozen BK336.out 0; have hfz19_1 := blk_frozen BK336.out 1; have hnb20 := NB337_338.out; have hnc20 := NB338_337.out; have hcz21_0 := zc BK337.out 0; have hcz21_1 := zc BK337.out 1; have hcz21_2 := zc BK337.out 2; have hcz21_3 := zc BK337.out 3; have hfz21_0 := blk_frozen BK337.out 0; have hfz21_1 := blk_frozen BK337.out 1; have hfz21_2 := blk_frozen BK337.out 2; have hfz21_3 := blk_frozen BK337.out 3) | ((with_reducible refine gate_callee (f := 71) rfl ?_); refine zgo (some 15) Try.func71 #[.agg #[.bool a0_0, .int .i64 a0_1], .slice A1 l1.length c1, .agg #[.bool a2_0, .int .i64 a2_1, .int .i64 a2_2, .int .i64 a2_3], .int .i64 a3] ?_; (with_reducible refine (cellarref7_reach.calls k a0_0 a0_1 _ _ l1 a2_0 a2_1 a2_2 a2_3 a3 t339 _ ?side1 ?side2 A5.out).mono ?_); (case side1 => repeat (first | exact (Kd.C_below HR1.out HB.out) | (with_reducible refine Kd.C_alloc ?_ _) | (with_reducible refine Kd.C_drewN ?_ _) | (with_reducible refine Kd.C_drew ?_))); (case side2 => exact HC1.out); rintro e w22 ⟨rfl, hb⟩; refine ⟨_, rfl, ?_⟩; have n0_ := Aside0.mk (zbb BK336.out hb); have n1_ := Aside0.mk (zbb BK337.out hb); have n2_ := Aside0.mk (zbb BK338.out hb); have n3_ := Aside0.mk (below_step (zw3 HB.out GE336.out GE337.out GE338.out) hb); clear BK336 BK337 BK338 HB; have BK336 := n0_; have BK337 := n1_; have BK338 := n2_; have HB := n3_; clear n0_ n1_ n2_ n3_; (try clear hb); (try clear hb2); (try clear hk); (try clear hi)))
  have n0_ := Aside0.mk (blk_drew BK336.out)
  have n1_ := Aside0.mk (blk_drew BK337.out)
  have n2_ := Aside0.mk (blk_drew BK338.out)
  have n3_ := Aside0.mk (below_drew1 HB.out)
  clear BK336
  clear BK337
  clear BK338
  clear HB
  have BK336 := n0_
  have BK337 := n1_
  have BK338 := n2_
  have HB := n3_
  clear n0_ n1_ n2_ n3_
  have p340 : 0 ≤ (a2_2 : Int) := zdec
  have q340 : a2_2 < (l1.length : Int) := zdec
  obtain ⟨ad340, A340_1, c340_1, e340, hx340_0, hx340_1, hl340_1, hi340_1⟩ := at_T76 HR1.out a2_2 p340 q340
  have hw340_1 := hx340_1
  have hw340_0 := hx340_0
  cases e340
  replace hx340_0 := zh HB.out hx340_0
  replace hx340_1 := zh HB.out hx340_1
  have HR340_1 := Aside0.mk hi340_1
  have HC340_1 := Aside0.mk hl340_1
  clear hi340_1 hl340_1
  replace p340 := eq_true p340
  replace q340 := eq_true q340
  refine start_ (n := 22) (S := fun w' => w'.cell? ⟨gb336, 0, none⟩ = some (.bool a0_0) ∧ w'.cell? ⟨gb336, 1, none⟩ = some (.int .i64 a0_1) ∧ w'.cell? ⟨gb337, 0, none⟩ = some (.bool a2_0) ∧ w'.cell? ⟨gb337, 1, none⟩ = some (.int .i64 a2_1) ∧ w'.cell? ⟨gb337, 2, none⟩ = some (.int .i64 a2_2) ∧ w'.cell? ⟨gb337, 3, none⟩ = some (.int .i64 a2_3) ∧ w'.cell? (ad340.add ((a2_2).toNat * 2)) = some (.int .i64 ((rd_T76 l1 a2_2).f0)) ∧ w'.cell? ⟨(ad340.add ((a2_2).toNat * 2)).block, (ad340.add ((a2_2).toNat * 2)).off + 1, none⟩ = some (.slice A340_1 ((rd_T76 l1 a2_2).f1).length c340_1)) (ds := []) #[false,false,false,false,false,false,false,false,false,false,false,false,false,false,false,false,false,false,false,false,false,false] (by kernel_rfl) rfl rfl ⟨(blk_cell BK336.out 0).trans rfl, (blk_cell BK336.out 1).trans rfl, (blk_cell BK337.out 0).trans rfl, (blk_cell BK337.out 1).trans rfl, (blk_cell BK337.out 2).trans rfl, (blk_cell BK337.out 3).trans rfl, ((HB.out.cell (World.block_lt_of_cell? w _ hw340_0)).trans hw340_0), ((HB.out.cell (World.block_lt_of_cell? w _ hw340_1)).trans hw340_1)⟩ (fun hHeld => ?_); refine with_tabW cellarref7_Load.tab4 cellarref7_Load.bits4 (fun HT_ HW_ => ?_)
  generalize w22.drew = w23 at BK336 BK337 BK338 HB HR340_1 hx340_0 hx340_1 hHeld ⊢
  refine zp (i := 1) (N := some 21) #[false,true,false,false,false,false,false,false,false,false,false,false,false,false,false,false,false,false,false,false,false,false] (any_of HT_.out (by kernel_rfl)) ?_
  refine zp (i := 2) (N := some 22) #[false,true,true,false,false,false,false,false,false,false,false,false,false,false,false,false,false,false,false,false,false,false] (any_of HT_.out (by kernel_rfl)) ?_
  refine zp (i := 3) (N := some 23) #[false,true,true,true,false,false,false,false,false,false,false,false,false,false,false,false,false,false,false,false,false,false] (any_of HT_.out (by kernel_rfl)) ?_
  refine zp (i := 8) (N := some 28) #[false,true,true,true,false,false,false,false,true,false,false,false,false,false,false,false,false,false,false,false,false,false] (any_of HT_.out (by kernel_rfl)) ?_
  refine zp (i := 10) (N := some 30) #[false,true,true,true,false,false,false,false,true,false,true,false,false,false,false,false,false,false,false,false,false,false] (any_of HT_.out (by kernel_rfl)) ?_
  refine zp (i := 13) (N := some 33) #[false,true,true,true,false,false,false,false,true,false,true,false,false,true,false,false,false,false,false,false,false,false] (any_of HT_.out (by kernel_rfl)) ?_
  refine take_ (i := 0) (N := some 20) (v := ?_) (a' := ?_) #[true,true,true,true,false,false,false,false,true,false,true,false,false,true,false,false,false,false,false,false,false,false] rfl rfl (take_ofW HT_.out HW_.out (by kernel_rfl)) (fun _ _ _ h => h) (Or.inl ⟨by rfl, ?_⟩) hHeld ?_ ?_
  rotate_left
  ·rintro w' ⟨s0, s1, s2, s3, s4, s5, s6, s7⟩
   go_simp
   with_reducible rfl
  rotate_left
  ·simp only [Act.put, List.setIfInBounds_toArray, List.set_cons_zero, List.set_cons_succ, i64_w, i32_w]
   rfl
  refine take_ (i := 4) (N := some 24) (v := ?_) (a' := ?_) #[true,true,true,true,true,false,false,false,true,false,true,false,false,true,false,false,false,false,false,false,false,false] rfl rfl (take_ofW HT_.out HW_.out (by kernel_rfl)) (fun _ _ _ h => h) (Or.inl ⟨by rfl, ?_⟩) hHeld ?_ ?_
  rotate_left
  ·rintro w' ⟨s0, s1, s2, s3, s4, s5, s6, s7⟩
   go_simp
   with_reducible rfl
  rotate_left
  ·simp only [Act.put, List.setIfInBounds_toArray, List.set_cons_zero, List.set_cons_succ, i64_w, i32_w]
   rfl
  refine zp (i := 5) (N := some 25) #[true,true,true,true,true,true,false,false,true,false,true,false,false,true,false,false,false,false,false,false,false,false] (any_of HT_.out (by kernel_rfl)) ?_
  refine zp (i := 6) (N := some 26) #[true,true,true,true,true,true,true,false,true,false,true,false,false,true,false,false,false,false,false,false,false,false] (any_of HT_.out (by kernel_rfl)) ?_
  refine take_ (i := 7) (N := some 27) (v := ?_) (a' := ?_) #[true,true,true,true,true,true,true,true,true,false,true,false,false,true,false,false,false,false,false,false,false,false] rfl rfl (take_ofW HT_.out HW_.out (by kernel_rfl)) (fun _ _ _ h => h) (Or.inl ⟨by rfl, ?_⟩) hHeld ?_ ?_
  rotate_left
  ·rintro w' ⟨s0, s1, s2, s3, s4, s5, s6, s7⟩
   go_simp
   with_reducible rfl
  rotate_left
  ·simp only [Act.put, List.setIfInBounds_toArray, List.set_cons_zero, List.set_cons_succ, i64_w, i32_w]
   rfl
  refine take_ (i := 9) (N := some 29) (v := ?_) (a' := ?_) #[true,true,true,true,true,true,true,true,true,true,true,false,false,true,false,false,false,false,false,false,false,false] rfl rfl (take_ofW HT_.out HW_.out (by kernel_rfl)) (fun _ _ _ h => h) (Or.inl ⟨by rfl, ?_⟩) hHeld ?_ ?_
  rotate_left
  ·rintro w' ⟨s0, s1, s2, s3, s4, s5, s6, s7⟩
   go_simp
   with_reducible rfl
  rotate_left
  ·simp only [Act.put, List.setIfInBounds_toArray, List.set_cons_zero, List.set_cons_succ, i64_w, i32_w]
   rfl
  refine take_ (i := 11) (N := some 31) (v := ?_) (a' := ?_) #[true,true,true,true,true,true,true,true,true,true,true,true,false,true,false,false,false,false,false,false,false,false] rfl rfl (take_ofW HT_.out HW_.out (by kernel_rfl)) (fun _ _ _ h => h) (Or.inl ⟨by rfl, ?_⟩) hHeld ?_ ?_
  rotate_left
  ·rintro w' ⟨s0, s1, s2, s3, s4, s5, s6, s7⟩
   go_simp
   with_reducible rfl
  rotate_left
  ·simp only [Act.put, List.setIfInBounds_toArray, List.set_cons_zero, List.set_cons_succ, i64_w, i32_w]
   rfl
  refine take_ (i := 12) (N := some 32) (v := ?_) (a' := ?_) #[true,true,true,true,true,true,true,true,true,true,true,true,true,true,false,false,false,false,false,false,false,false] rfl rfl (take_ofW HT_.out HW_.out (by kernel_rfl)) (fun _ _ _ h => h) (Or.inl ⟨by rfl, ?_⟩) hHeld ?_ ?_
  rotate_left
  ·rintro w' ⟨s0, s1, s2, s3, s4, s5, s6, s7⟩
   go_simp
   with_reducible rfl
  rotate_left
  ·simp only [Act.put, List.setIfInBounds_toArray, List.set_cons_zero, List.set_cons_succ, i64_w, i32_w]
   rfl
  refine one_ (i := 14) (N := some 34) #[true,true,true,true,true,true,true,true,true,true,true,true,true,true,true,false,false,false,false,false,false,false] rfl rfl (one_of HT_.out (by kernel_rfl)) (by decide) (fun K hK => ?_)
  refine goes_ Try.func43 (by kernel_rfl) rfl #[.agg #[.bool a0_0, .int .i64 a0_1], .int .i64 a3] (by rfl) rfl rfl (by (try simp only [List.map_toArray, List.map_cons, List.map_nil]); first | done | rfl | (simp only [List.length_drop, List.length_take]; rfl)) ?_
  with_reducible refine (cellarref1_Size.calls k a0_0 a0_1 a3 t341 _ A9.out).mono ?_
  rintro e w24 ⟨rfl, hb⟩
  refine ⟨_, rfl, ?_⟩
  have n0_ := Aside0.mk (zbb BK336.out hb)
  have n1_ := Aside0.mk (zbb BK337.out hb)
  have n2_ := Aside0.mk (zbb BK338.out hb)
  have n3_ := Aside0.mk (below_step (zw3 HB.out GE336.out GE337.out GE338.out) hb)
  clear BK336
  clear BK337
  clear BK338
  clear HB
  have BK336 := n0_
  have BK337 := n1_
  have BK338 := n2_
  have HB := n3_
  clear n0_ n1_ n2_ n3_
  (try clear hb)
  (try clear hb2)
  (try clear hk)
  (try clear hi)
  have q25 : ((wrap64 (a2_3 + t341)) : Int) ≤ ((((rd_T76 l1 a2_2).f1).length : Int) : Int) := zdec
  obtain ⟨i025, hi025, _, hsz25, _⟩ := info_parts info74
  have hroom25 : ((rd_T76 l1 a2_2).f1).length ≤ c340_1 := HC340_1.out
  have hC25 : Kd.C k74 _ A340_1 ((rd_T76 l1 a2_2).f1).length ((rd_T76 l1 a2_2).f1) := HR340_1.out
  have ql25 : (a2_3 : Int) ≤ ((wrap64 (a2_3 + t341)) : Int) := zdec
  have q025 : (0 : Int) ≤ (a2_3 : Int) := zdec
  have hcut25 := cut_mid (P := Try.prog) 72 74 .i64 .i64 Try.underlying72 hi025 5 hsz25 A340_1 ((rd_T76 l1 a2_2).f1).length c340_1 a2_3 (wrap64 (a2_3 + t341)) q025 ql25 q25 hroom25
  have hr25 := Kd.C_mid (lo := (a2_3 : Int).toNat) (hi := ((wrap64 (a2_3 + t341)) : Int).toNat) (c := c340_1) hC25 (by omega) (by omega) hroom25
  obtain ⟨A25, hA25⟩ : ∃ A1, A1 = (if c340_1 = (a2_3 : Int).toNat then A340_1 else (A340_1 : Option Addr).map (·.add ((a2_3 : Int).toNat * 5))) := ⟨_, rfl⟩
  obtain ⟨c25, hc25⟩ : ∃ c1, c1 = c340_1 - (a2_3 : Int).toNat := ⟨_, rfl⟩
  have hy25 : y342.length = ((wrap64 (a2_3 + t341)) : Int).toNat - (a2_3 : Int).toNat := (by rw [Ny342.out, List.length_drop, List.length_take] <;> omega)
  rw [show (((rd_T76 l1 a2_2).f1).take ((wrap64 (a2_3 + t341)) : Int).toNat).drop (a2_3 : Int).toNat = y342 from Ny342.out.symm] at hr25
  replace hr25 : Kd.C k74 _ A25 y342.length y342 := (by rw [hA25]; exact hr25)
  rw [← hy25, ← hA25, ← hc25] at hcut25
  have HR345 := Aside0.mk hr25
  have HC345 := Aside0.mk (show y342.length ≤ c25 from by rw [hy25, hc25]; exact Nat.sub_le_sub_right (Nat.le_trans (by omega) hroom25) _)
  clear hr25 hC25 hroom25 hi025 hsz25 hc25
  have KY25 := Aside0.mk hy25
  have KA25 := Aside0.mk hA25
  clear hy25 hA25
  replace q25 := eq_true q25
  refine hK.out _ _ ⟨(blk_cell BK336.out 0).trans rfl, (blk_cell BK336.out 1).trans rfl, (blk_cell BK337.out 0).trans rfl, (blk_cell BK337.out 1).trans rfl, (blk_cell BK337.out 2).trans rfl, (blk_cell BK337.out 3).trans rfl, ((HB.out.cell (World.block_lt_of_cell? w _ hw340_0)).trans hw340_0), ((HB.out.cell (World.block_lt_of_cell? w _ hw340_1)).trans hw340_1)⟩ (fun hHeld => ?_)
  clear hK K
  refine norm_ (a' := ?_) ?_ ?_
  rotate_left
  ·show Act.put _ (some 34) _ = _
   simp only [Act.put, List.setIfInBounds_toArray, List.set_cons_zero, List.set_cons_succ, i64_w, i32_w]
   rfl
  refine zp (i := 15) (N := some 35) #[true,true,true,true,true,true,true,true,true,true,true,true,true,true,true,true,false,false,false,false,false,false] (any_of HT_.out (by kernel_rfl)) ?_
  refine zp (i := 16) (N := some 36) #[true,true,true,true,true,true,true,true,true,true,true,true,true,true,true,true,true,false,false,false,false,false] (any_of HT_.out (by kernel_rfl)) ?_
  refine one_ (i := 17) (N := some 37) #[true,true,true,true,true,true,true,true,true,true,true,true,true,true,true,true,true,true,false,false,false,false] rfl rfl (one_of HT_.out (by kernel_rfl)) (by decide) (fun K hK => ?_)
  refine goes_ Try.func76 (by kernel_rfl) rfl #[.agg #[.bool a0_0, .int .i64 a0_1], .int .i64 a3, .slice A25 y342.length c25] (by rfl) rfl rfl (by (try simp only [List.map_toArray, List.map_cons, List.map_nil]); first | done | rfl | (simp only [List.length_drop, List.length_take]; rfl)) ?_
  with_reducible refine (cellarref7_Get.calls k a0_0 a0_1 a3 _ _ y342 t346 t347 t348 t349 t350 _ ?side1 ?side2 A13.out).mono ?_
  (case side1 => repeat (first | exact (Kd.C_below HR345.out HB.out) | (with_reducible refine Kd.C_alloc ?_ _) | (with_reducible refine Kd.C_drewN ?_ _) | (with_reducible refine Kd.C_drew ?_)))
  (case side2 => exact HC345.out)
  rintro e w26 ⟨rfl, hb⟩
  refine ⟨_, rfl, ?_⟩
  have n0_ := Aside0.mk (zbb BK336.out hb)
  have n1_ := Aside0.mk (zbb BK337.out hb)
  have n2_ := Aside0.mk (zbb BK338.out hb)
  have n3_ := Aside0.mk (below_step (zw3 HB.out GE336.out GE337.out GE338.out) hb)
  clear BK336
  clear BK337
  clear BK338
  clear HB
  have BK336 := n0_
  have BK337 := n1_
  have BK338 := n2_
  have HB := n3_
  clear n0_ n1_ n2_ n3_
  (try clear hb)
  (try clear hb2)
  (try clear hk)
  (try clear hi)
  refine hK.out _ _ ⟨(blk_cell BK336.out 0).trans rfl, (blk_cell BK336.out 1).trans rfl, (blk_cell BK337.out 0).trans rfl, (blk_cell BK337.out 1).trans rfl, (blk_cell BK337.out 2).trans rfl, (blk_cell BK337.out 3).trans rfl, ((HB.out.cell (World.block_lt_of_cell? w _ hw340_0)).trans hw340_0), ((HB.out.cell (World.block_lt_of_cell? w _ hw340_1)).trans hw340_1)⟩ (fun hHeld => ?_)
  clear hK K
  refine norm_ (a' := ?_) ?_ ?_
  rotate_left
  ·show Act.put _ (some 37) _ = _
   simp only [Act.put, List.setIfInBounds_toArray, List.set_cons_zero, List.set_cons_succ, i64_w, i32_w]
   rfl
  refine zp (i := 18) (N := some 38) #[true,true,true,true,true,true,true,true,true,true,true,true,true,true,true,true,true,true,true,false,false,false] (any_of HT_.out (by kernel_rfl)) ?_
  refine zp (i := 19) (N := some 39) #[true,true,true,true,true,true,true,true,true,true,true,true,true,true,true,true,true,true,true,true,false,false] (any_of HT_.out (by kernel_rfl)) ?_
  refine one_ (i := 20) (N := none) #[true,true,true,true,true,true,true,true,true,true,true,true,true,true,true,true,true,true,true,true,true,false] rfl rfl (one_of HT_.out (by kernel_rfl)) (by decide) (fun K hK => ?_)
  have hs27 : w26.cell? ⟨gb338, 0, none⟩ = some (.bool false) := (blk_cell BK338.out 0).trans rfl
  have hfs27 := blk_frozen BK338.out 0
  have hns27_0 := NB336_338.out
  have hns27_1 := NB337_338.out
  have hms27_0 := NB338_336.out
  have hms27_1 := NB338_337.out
  have hs28 : w26.cell? ⟨gb338, 1, none⟩ = some (.int .i64 0) := (blk_cell BK338.out 1).trans rfl
  have hfs28 := blk_frozen BK338.out 1
  have hns28_0 := NB336_338.out
  have hns28_1 := NB337_338.out
  have hms28_0 := NB338_336.out
  have hms28_1 := NB338_337.out
  have hs29 : w26.cell? ⟨gb338, 2, none⟩ = some (.int .i64 0) := (blk_cell BK338.out 2).trans rfl
  have hfs29 := blk_frozen BK338.out 2
  have hns29_0 := NB336_338.out
  have hns29_1 := NB337_338.out
  have hms29_0 := NB338_336.out
  have hms29_1 := NB338_337.out
  have hs30 : w26.cell? ⟨gb338, 3, none⟩ = some (.int .i64 0) := (blk_cell BK338.out 3).trans rfl
  have hfs30 := blk_frozen BK338.out 3
  have hns30_0 := NB336_338.out
  have hns30_1 := NB337_338.out
  have hms30_0 := NB338_336.out
  have hms30_1 := NB338_337.out
  refine skip_ (w1 := ?_) (by rfl) rfl ?_ ?_
  rotate_left
  ·go_simp
   rfl
  refine hK.out _ _ ⟨((cell_far (p := ⟨gb338, _, none⟩) NB336_338.out _).trans (((cell_far (p := ⟨gb338, _, none⟩) NB336_338.out _).trans (((cell_far (p := ⟨gb338, _, none⟩) NB336_338.out _).trans (((cell_far (p := ⟨gb338, _, none⟩) NB336_338.out _).trans (hHeld.1)))))))), ((cell_far (p := ⟨gb338, _, none⟩) NB336_338.out _).trans (((cell_far (p := ⟨gb338, _, none⟩) NB336_338.out _).trans (((cell_far (p := ⟨gb338, _, none⟩) NB336_338.out _).trans (((cell_far (p := ⟨gb338, _, none⟩) NB336_338.out _).trans (hHeld.2.1)))))))), ((cell_far (p := ⟨gb338, _, none⟩) NB337_338.out _).trans (((cell_far (p := ⟨gb338, _, none⟩) NB337_338.out _).trans (((cell_far (p := ⟨gb338, _, none⟩) NB337_338.out _).trans (((cell_far (p := ⟨gb338, _, none⟩) NB337_338.out _).trans (hHeld.2.2.1)))))))), ((cell_far (p := ⟨gb338, _, none⟩) NB337_338.out _).trans (((cell_far (p := ⟨gb338, _, none⟩) NB337_338.out _).trans (((cell_far (p := ⟨gb338, _, none⟩) NB337_338.out _).trans (((cell_far (p := ⟨gb338, _, none⟩) NB337_338.out _).trans (hHeld.2.2.2.1)))))))), ((cell_far (p := ⟨gb338, _, none⟩) NB337_338.out _).trans (((cell_far (p := ⟨gb338, _, none⟩) NB337_338.out _).trans (((cell_far (p := ⟨gb338, _, none⟩) NB337_338.out _).trans (((cell_far (p := ⟨gb338, _, none⟩) NB337_338.out _).trans (hHeld.2.2.2.2.1)))))))), ((cell_far (p := ⟨gb338, _, none⟩) NB337_338.out _).trans (((cell_far (p := ⟨gb338, _, none⟩) NB337_338.out _).trans (((cell_far (p := ⟨gb338, _, none⟩) NB337_338.out _).trans (((cell_far (p := ⟨gb338, _, none⟩) NB337_338.out _).trans (hHeld.2.2.2.2.2.1)))))))), ((cell_far (p := ⟨gb338, _, none⟩) (zx (zfar hw340_0 GW338.out)) _).trans (((cell_far (p := ⟨gb338, _, none⟩) (zx (zfar hw340_0 GW338.out)) _).trans (((cell_far (p := ⟨gb338, _, none⟩) (zx (zfar hw340_0 GW338.out)) _).trans (((cell_far (p := ⟨gb338, _, none⟩) (zx (zfar hw340_0 GW338.out)) _).trans (hHeld.2.2.2.2.2.2.1)))))))), ((cell_far (p := ⟨gb338, _, none⟩) (zx (zfar hw340_1 GW338.out)) _).trans (((cell_far (p := ⟨gb338, _, none⟩) (zx (zfar hw340_1 GW338.out)) _).trans (((cell_far (p := ⟨gb338, _, none⟩) (zx (zfar hw340_1 GW338.out)) _).trans (((cell_far (p := ⟨gb338, _, none⟩) (zx (zfar hw340_1 GW338.out)) _).trans (hHeld.2.2.2.2.2.2.2))))))))⟩ (fun hHeld => ?_)
  clear hK K
  refine zp (i := 21) (N := some 9) #[true,true,true,true,true,true,true,true,true,true,true,true,true,true,true,true,true,true,true,true,true,true] (any_of HT_.out (by kernel_rfl)) ?_
  refine done_ (done_of HT_.out (by kernel_rfl)) ?_
  try go_wp2
  refine bodyPost_ret (results_ct rfl _ _ gb338 62 #[.bool t346, .int .i64 t347, .int .i64 t348, .int .i64 t349] (0, 0) _ rfl (by (with_reducible repeat (first | refine blk_drewN ?_ _ | refine blk_drew ?_ | refine blk_alloc ?_ _)); refine blk_put (cs := #[.bool t346, .int .i64 t347, .int .i64 t348, .int .i64 0]) ?_ 3 _ rfl; (with_reducible repeat (first | refine blk_drewN ?_ _ | refine blk_drew ?_ | refine blk_alloc ?_ _)); refine blk_put (cs := #[.bool t346, .int .i64 t347, .int .i64 0, .int .i64 0]) ?_ 2 _ rfl; (with_reducible repeat (first | refine blk_drewN ?_ _ | refine blk_drew ?_ | refine blk_alloc ?_ _)); refine blk_put (cs := #[.bool t346, .int .i64 0, .int .i64 0, .int .i64 0]) ?_ 1 _ rfl; (with_reducible repeat (first | refine blk_drewN ?_ _ | refine blk_drew ?_ | refine blk_alloc ?_ _)); refine blk_put (cs := #[.bool false, .int .i64 0, .int .i64 0, .int .i64 0]) ?_ 0 _ rfl; (with_reducible repeat (first | refine blk_drewN ?_ _ | refine blk_drew ?_ | refine blk_alloc ?_ _)); exact BK338.out) Try.underlying62 rfl (by kernel_rfl)) rfl ?_
  exact ⟨ze, zw3 HB.out GE336.out GE337.out GE338.out⟩
 ·rw [if_neg c6] at H
  have c6b0 : (t339 == 0) = false := beq_eq_false_iff_ne.mpr c6
  have c6b1 : (t339 != 0) = true := bne_iff_ne.mpr c6
  simp only [Option.some.injEq, Prod.mk.injEq] at H
  obtain ⟨rfl, rfl, rfl, rfl, rfl⟩ := H
  go_enter Try.func40, Try.ntmps40
  go_wp2_with (first | ((with_reducible refine gate_dst (N := 4) rfl ?_); refine zbox (N := 4) (cs := #[.bool a0_0, .int .i64 a0_1]) (t := 29) ?_; intro gb336 hg w31 hbox hb; have n0_ := Aside0.mk (below_step (zw0 HB.out) hb); have BK336 := Aside0.mk (hbox); have GW336 := Aside0.mk (zg hg (below_size (zw0 HB.out))); have GE336 := GW336; clear HB; have HB := n0_; clear n0_; clear hb hbox hg) | ((with_reducible refine gate_dst (N := 6) rfl ?_); refine zbox (N := 6) (cs := #[.bool a2_0, .int .i64 a2_1, .int .i64 a2_2, .int .i64 a2_3]) (t := 62) ?_; intro gb337 hg w32 hbox hb; have n0_ := Aside0.mk (zbb BK336.out hb); have n1_ := Aside0.mk (below_step (zw1 HB.out GE336.out) hb); have BK337 := Aside0.mk (hbox); have GW337 := Aside0.mk (zg hg (below_size (zw1 HB.out GE336.out))); have GE337 := GW337; have NB336_337 := Aside0.mk (zlt hg BK336.out); have NB337_336 := Aside0.mk (zgt hg BK336.out); clear BK336 HB; have BK336 := n0_; have HB := n1_; clear n0_ n1_; clear hb hbox hg) | ((with_reducible refine gate_dst (N := 8) rfl ?_); refine zbox (N := 8) (cs := #[.bool false, .int .i64 0, .int .i64 0, .int .i64 0]) (t := 62) ?_; intro gb338 hg w33 hbox hb; have n0_ := Aside0.mk (zbb BK336.out hb); have n1_ := Aside0.mk (zbb BK337.out hb); have n2_ := Aside0.mk (below_step (zw2 HB.out GE336.out GE337.out) hb); have BK338 := Aside0.mk (hbox); have GW338 := Aside0.mk (zg hg (below_size (zw2 HB.out GE336.out GE337.out))); have GE338 := GW338; have NB336_338 := Aside0.mk (zlt hg BK336.out); have NB338_336 := Aside0.mk (zgt hg BK336.out); have NB337_338 := Aside0.mk (zlt hg BK337.out); have NB338_337 := Aside0.mk (zgt hg BK337.out); clear BK336 BK337 HB; have BK336 := n0_; have BK337 := n1_; have HB := n2_; clear n0_ n1_ n2_; clear hb hbox hg; have hnb34 := NB336_337.out; have hnc34 := NB337_336.out; have hnb35 := NB336_338.out; have hnc35 := NB338_336.out; have hcz36_0 := zc BK336.out 0; have hcz36_1 := zc BK336.out 1; have hfz36_0 := blk_frozen BK336.out 0; have hfz36_1 := blk_frozen BK336.out 1; have hnb37 := NB337_338.out; have hnc37 := NB338_337.out; have hcz38_0 := zc BK337.out 0; have hcz38_1 := zc BK337.out 1; have hcz38_2 := zc BK337.out 2; have hcz38_3 := zc BK337.out 3; have hfz38_0 := blk_frozen BK337.out 0; have hfz38_1 := blk_frozen BK337.out 1; have hfz38_2 := blk_frozen BK337.out 2; have hfz38_3 := blk_frozen BK337.out 3) | ((with_reducible refine gate_callee (f := 71) rfl ?_); refine zgo (some 15) Try.func71 #[.agg #[.bool a0_0, .int .i64 a0_1], .slice A1 l1.length c1, .agg #[.bool a2_0, .int .i64 a2_1, .int .i64 a2_2, .int .i64 a2_3], .int .i64 a3] ?_; (with_reducible refine (cellarref7_reach.calls k a0_0 a0_1 _ _ l1 a2_0 a2_1 a2_2 a2_3 a3 t339 _ ?side1 ?side2 A5.out).mono ?_); (case side1 => repeat (first | exact (Kd.C_below HR1.out HB.out) | (with_reducible refine Kd.C_alloc ?_ _) | (with_reducible refine Kd.C_drewN ?_ _) | (with_reducible refine Kd.C_drew ?_))); (case side2 => exact HC1.out); rintro e w39 ⟨rfl, hb⟩; refine ⟨_, rfl, ?_⟩; have n0_ := Aside0.mk (zbb BK336.out hb); have n1_ := Aside0.mk (zbb BK337.out hb); have n2_ := Aside0.mk (zbb BK338.out hb); have n3_ := Aside0.mk (below_step (zw3 HB.out GE336.out GE337.out GE338.out) hb); clear BK336 BK337 BK338 HB; have BK336 := n0_; have BK337 := n1_; have BK338 := n2_; have HB := n3_; clear n0_ n1_ n2_ n3_; (try clear hb); (try clear hb2); (try clear hk); (try clear hi); have hcz40_0 := zc BK338.out 0; have hcz40_1 := zc BK338.out 1; have hcz40_2 := zc BK338.out 2; have hcz40_3 := zc BK338.out 3; have hfz40_0 := blk_frozen BK338.out 0; have hfz40_1 := blk_frozen BK338.out 1; have hfz40_2 := blk_frozen BK338.out 2; have hfz40_3 := blk_frozen BK338.out 3))
  refine bodyPost_ret (results_ct rfl _ _ gb338 62 #[.bool false, .int .i64 0, .int .i64 0, .int .i64 0] (0, 0) _ rfl (by (with_reducible repeat (first | refine blk_drewN ?_ _ | refine blk_drew ?_ | refine blk_alloc ?_ _)); refine blk_put (cs := #[.bool false, .int .i64 0, .int .i64 0, .int .i64 0]) ?_ 3 _ rfl; (with_reducible repeat (first | refine blk_drewN ?_ _ | refine blk_drew ?_ | refine blk_alloc ?_ _)); refine blk_put (cs := #[.bool false, .int .i64 0, .int .i64 0, .int .i64 0]) ?_ 2 _ rfl; (with_reducible repeat (first | refine blk_drewN ?_ _ | refine blk_drew ?_ | refine blk_alloc ?_ _)); refine blk_put (cs := #[.bool false, .int .i64 0, .int .i64 0, .int .i64 0]) ?_ 1 _ rfl; (with_reducible repeat (first | refine blk_drewN ?_ _ | refine blk_drew ?_ | refine blk_alloc ?_ _)); refine blk_put (cs := #[.bool false, .int .i64 0, .int .i64 0, .int .i64 0]) ?_ 0 _ rfl; (with_reducible repeat (first | refine blk_drewN ?_ _ | refine blk_drew ?_ | refine blk_alloc ?_ _)); exact BK338.out) Try.underlying62 rfl (by kernel_rfl)) rfl ?_
  exact ⟨ze, zw3 HB.out GE336.out GE337.out GE338.out⟩

/-! cellarref1_Kind -/
def cellarref1_Kind.f (a0 : Int) : Option (Bool) := (cellarref0_Between.f a0 1 7).bind fun t351 => (some t351)
set_option maxHeartbeats 8000000 in
set_option maxRecDepth 100000 in
theorem cellarref1_Kind.calls (a0 : Int) (r : Bool) (w : World) (h : cellarref1_Kind.f a0 = some r) :
  Calls Try.prog 41 #[.int .i64 a0] w fun e w' => e = .returned (.bool r) ∧ Drawn0 w w' := by
 have H : ((cellarref0_Between.f a0 1 7).bind fun t351 => (some t351)) = some r := h
 clear h
 replace H := Option.bind_eq_some_iff.mp H
 obtain ⟨t351, A20, H⟩ := H
 replace H : (some t351) = some r := H
 have A2 := Aside0.mk A20
 clear A20
 obtain rfl := Option.some.inj H
 go_enter Try.func41, Try.ntmps41
 go_wp2_with (first | ((with_reducible refine gate_callee (f := 64) rfl ?_); refine zgo (some 4) Try.func64 #[.int .i64 a0, .int .i64 1, .int .i64 7] ?_; (with_reducible refine (cellarref0_Between.calls a0 1 7 t351 _ A2.out).mono ?_); rintro e w' ⟨rfl, ⟨nd, rfl⟩⟩; refine ⟨_, rfl, ?_⟩))
 go_ret
 exact ⟨zr, by repeat (first | exact Drawn0.refl _ | apply Drawn0.step)⟩

/-! mem_Check -/
def mem_Check.f (l0 : List (S76)) : Option (Int) := (mem_May.f l0).bind fun t352 => (if t352 = true then (some 0) else (some 1))
set_option maxHeartbeats 8000000 in
set_option maxRecDepth 100000 in
theorem mem_Check.calls (A0 : Option Addr) (c0 : Nat) (l0 : List (S76)) (r : Int) (w : World) (hr0 : Kd.C k76 w A0 l0.length l0) (hc0 : l0.length ≤ c0) (h : mem_Check.f l0 = some r) :
  Calls Try.prog 42 #[.slice A0 l0.length c0] w fun e w' => e = .returned (.int .i64 r) ∧ Below w.heap.size w w' := by
 have HR0 := Aside0.mk hr0
 have HC0 := Aside0.mk hc0
 clear hr0 hc0
 have HB := Aside0.mk (Below.refl w.heap.size w)
 have H : ((mem_May.f l0).bind fun t352 => (if t352 = true then (some 0) else (some 1))) = some r := h
 clear h
 replace H := Option.bind_eq_some_iff.mp H
 obtain ⟨t352, A20, H⟩ := H
 replace H : (if t352 = true then (some 0) else (some 1)) = some r := H
 have A2 := Aside0.mk A20
 clear A20
 by_cases c3 : t352 = true
 ·subst c3
  have H1 : (some 0) = some r := by rw [if_pos rfl] at H; exact H
  clear H
  have H := H1
  clear H1
  obtain rfl := Option.some.inj H
  go_enter Try.func42, Try.ntmps42
  go_wp2_with (first | ((with_reducible refine gate_callee (f := 77) rfl ?_); refine zgo (some 4) Try.func77 #[.slice A0 l0.length c0] ?_; (with_reducible refine (mem_May.calls _ _ l0 true _ ?side1 ?side2 A2.out).mono ?_); (case side1 => repeat (first | exact HR0.out | (with_reducible refine Kd.C_alloc ?_ _) | (with_reducible refine Kd.C_drewN ?_ _) | (with_reducible refine Kd.C_drew ?_))); (case side2 => exact HC0.out); rintro e w4 ⟨rfl, hb⟩; refine ⟨_, rfl, ?_⟩; have n0_ := Aside0.mk (below_step (zw0 HB.out) hb); clear HB; have HB := n0_; clear n0_; (try clear hb); (try clear hb2); (try clear hk); (try clear hi)))
  go_ret
  exact ⟨ze, zw0 HB.out⟩
 ·replace c3 := Bool.eq_false_iff.mpr c3
  subst c3
  have H1 : (some 1) = some r := by rw [if_neg (show ¬ (false = true) by decide)] at H; exact H
  clear H
  have H := H1
  clear H1
  obtain rfl := Option.some.inj H
  go_enter Try.func42, Try.ntmps42
  go_wp2_with (first | ((with_reducible refine gate_callee (f := 77) rfl ?_); refine zgo (some 4) Try.func77 #[.slice A0 l0.length c0] ?_; (with_reducible refine (mem_May.calls _ _ l0 false _ ?side1 ?side2 A2.out).mono ?_); (case side1 => repeat (first | exact HR0.out | (with_reducible refine Kd.C_alloc ?_ _) | (with_reducible refine Kd.C_drewN ?_ _) | (with_reducible refine Kd.C_drew ?_))); (case side2 => exact HC0.out); rintro e w5 ⟨rfl, hb⟩; refine ⟨_, rfl, ?_⟩; have n0_ := Aside0.mk (below_step (zw0 HB.out) hb); clear HB; have HB := n0_; clear n0_; (try clear hb); (try clear hb2); (try clear hk); (try clear hi)))
  go_ret
  exact ⟨ze, zw0 HB.out⟩

end Go.Proofs.Ytjoplkillkhiaaa.D
