-- Written by this session's own edition of the print.
import Derived.Test.YtjoplkillkhiaaaStx0
import Derived.Test.YtjoplkillkhiaaaStx2
import Derived.Test.YtjoplkillkhiaaaStx3
import Derived.Test.YtjoplkillkhiaaaStx4
import Derived.Test.YtjoplkillkhiaaaStx7
import Derived.Test.YtjoplkillkhiaaaStx8
import Derived.Test.YtjoplkillkhiaaaStx9
import Derived.Test.YtjoplkillkhiaaaStx10
import Derived.Test.YtjoplkillkhiaaaStx13
import Derived.Test.YtjoplkillkhiaaaZSq
import Derived.Test.YtjoplkillkhiaaaZSq2
import Derived.Test.YtjoplkillkhiaaaZSq3
import Derived.Test.YtjoplkillkhiaaaStx14
import Derived.Test.YtjoplkillkhiaaaCut
import Derived.Test.YtjoplkillkhiaaaSty
import Derived.Test.YtjoplkillkhiaaaStya
import Derived.Test.YtjoplkillkhiaaaStyaa
import Derived.Test.YtjoplkillkhiaaaStyaaa
namespace Go.Proofs.Ytjoplkillkhiaaa.St
open Go.Proofs.Ytjoplkillkhiaaa.Cuts Go.RowKit Go.Proofs.Ytjoplkillkhiaaa.Fn Go.Proofs.YtjoplkillkhiaaaW.PrintWords Go.Proofs.YtjoplkillkhiaaaW.PrintLast Go.Proofs.YtjoplkillkhiaaaW.PrintMore
set_option linter.unusedVariables false
set_option linter.unusedSimpArgs false
set_option maxHeartbeats 60000000 in
set_option maxRecDepth 100000 in
noncomputable def cellarlaw9_MemStores.cut_aaaa : Cut1 (cellarlaw9_MemStores.cut_aaa.P1) := by
 apply Cut1.mk
 case h =>
 intro cutP1
 intro k c0_0 l0_0 A0_1 c0_1 l0_1 A0_2 c0_2 l0_2 A0_3 c0_3 l0_3 r w hu54 hu29 hu62 HC0_0 HR0_1 HC0_1 HR0_2 HC0_2 HR0_3 HC0_3 A2 t342 A7 q1_ gb340 w8 GW340 GE340 hfz9_0 hfz9_1 hfz9_2 hfz9_3 w10 hfz11_0 hfz11_1 hfz11_2 hfz11_3 w12 v343 HO344 q2_ q3_ q4_ q5_ x4_1 k1 q7_ HK1 wc u24 u25 u26 u27 u28 u29 u30 u31 u33 u34 kj12 HJ12 c18b0 c19b0 t346 A20 t350 A21 t351 A22 hfz23_0 hfz23_1 hfz23_2 hfz23_3 ad345 A345_0 c345_0 HR0_0 hcz9_0 hcz9_1 hcz9_2 hcz9_3 hcz11_0 hcz11_1 hcz11_2 hcz11_3 q6_ hcz23_0 hcz23_1 hcz23_2 hcz23_3 hx345_0 HR345_0 HC345_0 p345 q345 q11_ q12_ w24 hcz25_0 hcz25_1 hcz25_2 hcz25_3 hfz25_0 hfz25_1 hfz25_2 hfz25_3 A349_0 c349_0 hx349_0 HR349_0 HC349_0 p349 q349 w26 hcz27_0 hcz27_1 hcz27_2 hcz27_3 hfz27_0 hfz27_1 hfz27_2 hfz27_3 Ao28 co28 w29 HO348 e349 q17_ u54 u55 q13_ q14_ x8_3 HO_3 HO_5 BK340 HB k3 q16_ HK3 c30b0 H' Ao31 co31 HO353 q15_ HO_7 q18_ q19_ gk wr u2 u9 u10 u11 u12 u13 u14 u15 u16 u17 u18 u56 u57 u58 u59 u60 u61 u62 u63 u64 u65 u66 u67 u68 u69 u70 u71 u72 u73 u74 u75 u76 u77 u78 u79 u80 u81 u82 u83 u84 u85 u86 u87 u88 u89 u90 u91 u92 u93 u94 u95 u96 u97 u98 u99 u100 u101 u102 u103 u104 u105 u106 u107 u108 u109 u110 u111 u112 u113 u114 u115 u116 u117 u118 u119 u120 u121 u122 u123 u124 u125 u126 u127 u128 u129 u130 u131 u132 u133 u134 u135 u136 u137 u138 u139 u140 u141 u142 u143 u144 u145 u146 u147 u148 u149 u150 u151 u152 u153 u154 u155 u156 u157 u158 u159 u160 u161 u162 u163 u164 u165 u166 u167 u168 u169 u170 u171 u172 u173 u174 u175 u176 u177 u178 hrel q20_ q21_ q22_ q23_
 clear H'
 try clear c1; try clear c2; try clear p2; try clear c3; try clear p3; try clear q3; try clear c5; try clear c14; try clear c14b0; try clear c17; try clear c18; try clear c18b0; try clear c19; try clear c19b0; try clear c25; try clear c26; try clear c27; try clear c28; try clear c29; try clear c30; try clear c30b0; try clear p2; try clear p3; try clear p345; try clear p349; try clear q3; try clear q345; try clear q349
 obtain ⟨x9_4, rfl, HA, HK4, HO_3, HO_5, HO_7, BK340, HB⟩ := hrel
 cases gk with
 | zero => exact absurd HA.out (by simp [cellarlaw9_MemStores.l2])
 | succ k4 =>
 have H := HA.out
 clear HA
 simp only [cellarlaw9_MemStores.l2] at H
 by_cases c32 : x9_4 ≤ 7
 rotate_left
 ·rw [if_neg c32] at H
  have c32b0 : decide (x9_4 ≤ 7) = false := decide_eq_false c32
  clear c32
  have H' := Aside0.mk H
  clear H
  go_wp2
  go_roundg k4
  case measure => have := HK1.out; have := HJ12.out; have := HK3.out; have := HK4.out; omega
  case rel => exact ⟨(wrap64 (x8_3 + 1)), (zr), H', ⟨by have := HK1.out; have := HJ12.out; have := HK3.out; have := HK4.out; omega⟩, ⟨by (with_reducible repeat (first | apply Kd.R_alloc | apply Kd.R_drewN | apply Kd.R_drew)); exact HO_3.out⟩, ⟨by (with_reducible repeat (first | apply Kd.S_alloc | apply Kd.S_drewN | apply Kd.S_drew)); exact HO_5.out⟩, ⟨by (with_reducible repeat (first | apply Kd.R_alloc | apply Kd.R_drewN | apply Kd.R_drew)); exact HO_7.out⟩, ⟨zb BK340.out⟩, ⟨zw1 HB.out GE340.out⟩⟩
 rw [if_pos c32] at H
 have c32b0 : decide (x9_4 ≤ 7) = true := decide_eq_true c32
 clear c32
 by_cases c33 : (t342.length : Int) = 0
 ·rw [if_pos c33] at H
  exact absurd H (by simp)
 rw [if_neg c33] at H
 have c33b0 : ((t342.length : Int) == 0) = false := beq_eq_false_iff_ne.mpr c33
 have c33b1 : ((t342.length : Int) != 0) = true := bne_iff_ne.mpr c33
 have c33b2 : ¬ (t342 = []) := fun h_ => c33 (by rw [h_]; rfl)
 obtain ⟨ji34, hji34⟩ : ∃ j_ : Int, (Int.tmod (wrap64 (x8_3 + x9_4)) (t342.length : Int)) = j_ := ⟨_, rfl⟩
 replace H : (if 0 ≤ (ji34) then (if (ji34) < (t342.length : Int) then (if (t351.length : Int) = 0 then (none) else (if 0 ≤ (Int.tmod (wrap64 (x8_3 + 1)) (t351.length : Int)) then (if (Int.tmod (wrap64 (x8_3 + 1)) (t351.length : Int)) < (t351.length : Int) then ((some (([(⟨false, 200, 0, 0⟩ : S62), (⟨(rd_T62 t351 (Int.tmod (wrap64 (x8_3 + 1)) (t351.length : Int))).f0, (rd_T62 t351 (Int.tmod (wrap64 (x8_3 + 1)) (t351.length : Int))).f1, (rd_T62 t351 (Int.tmod (wrap64 (x8_3 + 1)) (t351.length : Int))).f2, (rd_T62 t351 (Int.tmod (wrap64 (x8_3 + 1)) (t351.length : Int))).f3⟩ : S62)] : List (S62)) : List (S62))).bind fun y357 => (if y357.length + l0_1.length < 4398046511104 then (cellarlaw9_MemStores.l3 k4 t342 x4_1 t346 t350 t351 x8_3 x9_4 (y357 ++ l0_1) 0 l0_0 l0_1 l0_2 l0_3 ((rd_T29 t342 (ji34)).f0) ((rd_T29 t342 (ji34)).f1)) else (none))) else (none)) else (none))) else (none)) else (none)) = some r := by first | (rw [hji34] at H; exact H) | (simp only [hji34] at H ⊢; exact H)
 by_cases c35 : 0 ≤ (ji34)
 rotate_left
 ·rw [if_neg c35] at H
  exact absurd H (by simp)
 rw [if_pos c35] at H
 have c35b0 : decide (0 ≤ (ji34)) = true := decide_eq_true c35
 clear c35
 by_cases c36 : (ji34) < (t342.length : Int)
 rotate_left
 ·rw [if_neg c36] at H
  exact absurd H (by simp)
 rw [if_pos c36] at H
 have c36b0 : decide ((ji34) < (t342.length : Int)) = true := decide_eq_true c36
 clear c36
 by_cases c37 : (t351.length : Int) = 0
 ·rw [if_pos c37] at H
  exact absurd H (by simp)
 rw [if_neg c37] at H
 have c37b0 : ((t351.length : Int) == 0) = false := beq_eq_false_iff_ne.mpr c37
 have c37b1 : ((t351.length : Int) != 0) = true := bne_iff_ne.mpr c37
 have c37b2 : ¬ (t351 = []) := fun h_ => c37 (by rw [h_]; rfl)
 obtain ⟨ji38, hji38⟩ : ∃ j_ : Int, (Int.tmod (wrap64 (x8_3 + 1)) (t351.length : Int)) = j_ := ⟨_, rfl⟩
 replace H : (if 0 ≤ (ji38) then (if (ji38) < (t351.length : Int) then ((some (([(⟨false, 200, 0, 0⟩ : S62), (⟨(rd_T62 t351 (ji38)).f0, (rd_T62 t351 (ji38)).f1, (rd_T62 t351 (ji38)).f2, (rd_T62 t351 (ji38)).f3⟩ : S62)] : List (S62)) : List (S62))).bind fun y357 => (if y357.length + l0_1.length < 4398046511104 then (cellarlaw9_MemStores.l3 k4 t342 x4_1 t346 t350 t351 x8_3 x9_4 (y357 ++ l0_1) 0 l0_0 l0_1 l0_2 l0_3 ((rd_T29 t342 (ji34)).f0) ((rd_T29 t342 (ji34)).f1)) else (none))) else (none)) else (none)) = some r := by first | (rw [hji38] at H; exact H) | (simp only [hji38] at H ⊢; exact H)
 by_cases c39 : 0 ≤ (ji38)
 rotate_left
 ·rw [if_neg c39] at H
  exact absurd H (by simp)
 rw [if_pos c39] at H
 have c39b0 : decide (0 ≤ (ji38)) = true := decide_eq_true c39
 clear c39
 by_cases c40 : (ji38) < (t351.length : Int)
 rotate_left
 ·rw [if_neg c40] at H
  exact absurd H (by simp)
 rw [if_pos c40] at H
 have c40b0 : decide ((ji38) < (t351.length : Int)) = true := decide_eq_true c40
 clear c40
 obtain ⟨y357, hy357⟩ : ∃ y_ : List (S62), y_ = (([(⟨false, 200, 0, 0⟩ : S62), (⟨(rd_T62 t351 (ji38)).f0, (rd_T62 t351 (ji38)).f1, (rd_T62 t351 (ji38)).f2, (rd_T62 t351 (ji38)).f3⟩ : S62)] : List (S62))) := ⟨_, rfl⟩
 replace H : (if y357.length + l0_1.length < 4398046511104 then (cellarlaw9_MemStores.l3 k4 t342 x4_1 t346 t350 t351 x8_3 x9_4 (y357 ++ l0_1) 0 l0_0 l0_1 l0_2 l0_3 ((rd_T29 t342 (ji34)).f0) ((rd_T29 t342 (ji34)).f1)) else (none)) = some r := by first | (rw [hy357]; with_reducible exact H) | (have H2_ := (Option.bind_some _ _).symm.trans H; rw [hy357]; with_reducible exact H2_) | (have H2_ := (Option.bind_some _ _).symm.trans H; with_reducible exact H2_) | with_reducible exact H | (rw [hy357]; exact H) | exact H
 have Ny357 := Aside0.mk hy357
 clear hy357
 by_cases c41 : y357.length + l0_1.length < 4398046511104
 rotate_left
 ·rw [if_neg c41] at H
  exact absurd H (by simp)
 rw [if_pos c41] at H
 have LMc41 := Aside0.mk c41
 clear c41
 obtain ⟨y360, hy360⟩ : ∃ y_ : List (S62), y_ = (y357 ++ l0_1) := ⟨_, rfl⟩
 replace H : (cellarlaw9_MemStores.l3 k4 t342 x4_1 t346 t350 t351 x8_3 x9_4 y360 0 l0_0 l0_1 l0_2 l0_3 ((rd_T29 t342 (ji34)).f0) ((rd_T29 t342 (ji34)).f1)) = some r := by first | (rw [hy360]; with_reducible exact H) | (have H2_ := (Option.bind_some _ _).symm.trans H; rw [hy360]; with_reducible exact H2_) | (have H2_ := (Option.bind_some _ _).symm.trans H; with_reducible exact H2_) | with_reducible exact H | (rw [hy360]; exact H) | exact H
 have Ny360 := Aside0.mk hy360
 clear hy360
 have H' := Aside0.mk H
 clear H
 obtain ⟨Ao42, co42, eo42⟩ := Kd.R_slice HO_3.out
 subst eo42
 have p354 : 0 ≤ ((ji34) : Int) := zdec
 have q354 : (ji34) < (t342.length : Int) := zdec
 obtain ⟨ad354, e354, hx354_0, hx354_1⟩ := at_T29 (Kd.R_reads' HO_3.out).2.2 (ji34) p354 q354
 cases e354
 replace p354 := eq_true p354
 replace q354 := eq_true q354
 try go_wp2_with (first | ((with_reducible refine gate_dst (N := 10) rfl ?_); refine zbox (N := 10) (cs := #[.bool false, .int .i64 0]) (t := 29) ?_; intro gb355 hg w43 hbox hb; have n0_ := Aside0.mk (Kd.R_below (Kd.R_elderB (by (with_reducible repeat (first | apply Kd.R_alloc | apply Kd.R_drewN | apply Kd.R_drew)); exact HO_3.out) gb355 (Nat.le_of_eq hg.symm)) hb); have n1_ := Aside0.mk (Kd.S_below (by (with_reducible repeat (first | apply Kd.S_alloc | apply Kd.S_drewN | apply Kd.S_drew)); exact HO_5.out) hb); have n2_ := Aside0.mk (Kd.R_below (by (with_reducible repeat (first | apply Kd.R_alloc | apply Kd.R_drewN | apply Kd.R_drew)); exact HO_7.out) hb); have n3_ := Aside0.mk (zbb BK340.out hb); have n4_ := Aside0.mk (below_step (zw1 HB.out GE340.out) hb); have BK355 := Aside0.mk (hbox); have GW355 := Aside0.mk (zg hg (below_size (zw1 HB.out GE340.out))); have GE355 := GW355; have NB340_355 := Aside0.mk (zlt hg BK340.out); have NB355_340 := Aside0.mk (zgt hg BK340.out); clear HO_3 HO_5 HO_7 BK340 HB; have HO_3 := n0_; have HO_5 := n1_; have HO_7 := n2_; have BK340 := n3_; have HB := n4_; clear n0_ n1_ n2_ n3_ n4_; clear hb hbox hg; have hnb44 := NB355_340.out; have hnc44 := NB340_355.out; have hcz45_0 := zc BK355.out 0; have hcz45_1 := zc BK355.out 1; have hfz45_0 := blk_frozen BK355.out 0; have hfz45_1 := blk_frozen BK355.out 1))
 have n0_ : Aside0 (Kd.R k29 29 ((w43.setCell ⟨gb355, 0, none⟩ (.bool ((rd_T29 t342 (ji34)).f0))).setCell ⟨gb355, 1, none⟩ (.int .i64 ((rd_T29 t342 (ji34)).f1))) w.heap.size (fun k_ => k_ ≠ gb355) (.slice (some ad354) t342.length co42) t342) := ⟨by (with_reducible repeat (first | apply Kd.R_alloc | apply Kd.R_drewN | apply Kd.R_drew)); exact Kd.R_mono (Kd.R_far (p := ⟨gb355, 1, none⟩) (Kd.R_far (p := ⟨gb355, 0, none⟩) (Kd.R_mono HO_3.out (fun k_ hk => (⟨hk, hk.2⟩ : _ ∧ k_ ≠ gb355))) (fun _ hk => hk.2) (.bool ((rd_T29 t342 (ji34)).f0))) (fun _ hk => hk.2) (.int .i64 ((rd_T29 t342 (ji34)).f1))) (fun _ hk => hk.1.2)⟩
 have n1_ : Aside0 (Kd.S k76 76 ((w43.setCell ⟨gb355, 0, none⟩ (.bool ((rd_T29 t342 (ji34)).f0))).setCell ⟨gb355, 1, none⟩ (.int .i64 ((rd_T29 t342 (ji34)).f1))) w.heap.size (fun _ => True) (.slice Ao28 t346.length co28) t346) := ⟨by (with_reducible repeat (first | apply Kd.S_alloc | apply Kd.S_drewN | apply Kd.S_drew)); exact Kd.S_mono (Kd.S_far (p := ⟨gb355, 1, none⟩) (Kd.S_far (p := ⟨gb355, 0, none⟩) (Kd.S_types HO_5.out BK355.out (by decide)) (fun _ hk => hk.2) (.bool ((rd_T29 t342 (ji34)).f0))) (fun _ hk => hk.2) (.int .i64 ((rd_T29 t342 (ji34)).f1))) (fun _ hk => trivial)⟩
 have n2_ : Aside0 (Kd.R k62 62 ((w43.setCell ⟨gb355, 0, none⟩ (.bool ((rd_T29 t342 (ji34)).f0))).setCell ⟨gb355, 1, none⟩ (.int .i64 ((rd_T29 t342 (ji34)).f1))) w.heap.size (fun _ => True) (.slice Ao31 t351.length co31) t351) := ⟨by (with_reducible repeat (first | apply Kd.R_alloc | apply Kd.R_drewN | apply Kd.R_drew)); exact Kd.R_mono (Kd.R_far (p := ⟨gb355, 1, none⟩) (Kd.R_far (p := ⟨gb355, 0, none⟩) (Kd.R_types HO_7.out BK355.out (by decide)) (fun _ hk => hk.2) (.bool ((rd_T29 t342 (ji34)).f0))) (fun _ hk => hk.2) (.int .i64 ((rd_T29 t342 (ji34)).f1))) (fun _ hk => trivial)⟩
 have n3_ : Aside0 (((w43.setCell ⟨gb355, 0, none⟩ (.bool ((rd_T29 t342 (ji34)).f0))).setCell ⟨gb355, 1, none⟩ (.int .i64 ((rd_T29 t342 (ji34)).f1))).heap[gb340]? = some (.cells #[.slice (some ad345) l0_0.length c0_0, .slice A0_1 l0_1.length c0_1, .slice A0_2 l0_2.length c0_2, .slice A0_3 l0_3.length c0_3] 54 (0, 0))) := ⟨zf1 BK340.out NB340_355.out⟩
 have n4_ : Aside0 (((w43.setCell ⟨gb355, 0, none⟩ (.bool ((rd_T29 t342 (ji34)).f0))).setCell ⟨gb355, 1, none⟩ (.int .i64 ((rd_T29 t342 (ji34)).f1))).heap[gb355]? = some (.cells #[.bool ((rd_T29 t342 (ji34)).f0), .int .i64 ((rd_T29 t342 (ji34)).f1)] 29 (0, 0))) := ⟨by (with_reducible repeat (first | refine blk_drewN ?_ _ | refine blk_drew ?_ | refine blk_alloc ?_ _)); refine blk_put (cs := #[.bool ((rd_T29 t342 (ji34)).f0), .int .i64 0]) ?_ 1 _ rfl; (with_reducible repeat (first | refine blk_drewN ?_ _ | refine blk_drew ?_ | refine blk_alloc ?_ _)); refine blk_put (cs := #[.bool false, .int .i64 0]) ?_ 0 _ rfl; (with_reducible repeat (first | refine blk_drewN ?_ _ | refine blk_drew ?_ | refine blk_alloc ?_ _)); exact BK355.out⟩
 have n5_ : Aside0 (Below w.heap.size w ((w43.setCell ⟨gb355, 0, none⟩ (.bool ((rd_T29 t342 (ji34)).f0))).setCell ⟨gb355, 1, none⟩ (.int .i64 ((rd_T29 t342 (ji34)).f1)))) := ⟨zw2 HB.out GE340.out GE355.out⟩
 (try clear HO_3)
 (try clear HO_5)
 (try clear HO_7)
 (try clear BK340)
 (try clear BK355)
 (try clear HB)
 generalize ((w43.setCell ⟨gb355, 0, none⟩ (.bool ((rd_T29 t342 (ji34)).f0))).setCell ⟨gb355, 1, none⟩ (.int .i64 ((rd_T29 t342 (ji34)).f1))) = w46 at n0_ n1_ n2_ n3_ n4_ n5_ ⊢
 have HO_3 := n0_
 have HO_5 := n1_
 have HO_7 := n2_
 have BK340 := n3_
 have BK355 := n4_
 have HB := n5_
 clear n0_ n1_ n2_ n3_ n4_ n5_
 have n0_ := Aside0.mk (Kd.R_drew HO_3.out)
 have n1_ := Aside0.mk (Kd.S_drew HO_5.out)
 have n2_ := Aside0.mk (Kd.R_drew HO_7.out)
 have n3_ := Aside0.mk (blk_drew BK340.out)
 have n4_ := Aside0.mk (blk_drew BK355.out)
 have n5_ := Aside0.mk (below_drew1 HB.out)
 clear HO_3
 clear HO_5
 clear HO_7
 clear BK340
 clear BK355
 clear HB
 have HO_3 := n0_
 have HO_5 := n1_
 have HO_7 := n2_
 have BK340 := n3_
 have BK355 := n4_
 have HB := n5_
 clear n0_ n1_ n2_ n3_ n4_ n5_
 have p356 : 0 ≤ ((ji38) : Int) := zdec
 have q356 : (ji38) < (t351.length : Int) := zdec
 obtain ⟨ad356, e356, hx356_0, hx356_1, hx356_2, hx356_3⟩ := at_T62 (Kd.R_reads' HO_7.out).2.2 (ji38) p356 q356
 cases e356
 replace p356 := eq_true p356
 replace q356 := eq_true q356
 refine start_ (n := 14) (S := fun w' => w'.cell? ⟨gb340, 0, none⟩ = some (.slice (some ad345) l0_0.length c0_0) ∧ w'.cell? ⟨gb340, 1, none⟩ = some (.slice A0_1 l0_1.length c0_1) ∧ w'.cell? ⟨gb340, 2, none⟩ = some (.slice A0_2 l0_2.length c0_2) ∧ w'.cell? ⟨gb340, 3, none⟩ = some (.slice A0_3 l0_3.length c0_3) ∧ w'.cell? (ad356.add (((ji38)).toNat * 4)) = some (.bool ((rd_T62 t351 (ji38)).f0)) ∧ w'.cell? ⟨(ad356.add (((ji38)).toNat * 4)).block, (ad356.add (((ji38)).toNat * 4)).off + 1, none⟩ = some (.int .i64 ((rd_T62 t351 (ji38)).f1)) ∧ w'.cell? ⟨(ad356.add (((ji38)).toNat * 4)).block, (ad356.add (((ji38)).toNat * 4)).off + 2, none⟩ = some (.int .i64 ((rd_T62 t351 (ji38)).f2)) ∧ w'.cell? ⟨(ad356.add (((ji38)).toNat * 4)).block, (ad356.add (((ji38)).toNat * 4)).off + 3, none⟩ = some (.int .i64 ((rd_T62 t351 (ji38)).f3))) (ds := [12]) cellarlaw9_MemStores.b0 (by kernel_rfl) rfl rfl ⟨(blk_cell BK340.out 0).trans rfl, (blk_cell BK340.out 1).trans rfl, (blk_cell BK340.out 2).trans rfl, (blk_cell BK340.out 3).trans rfl, hx356_0, hx356_1, hx356_2, hx356_3⟩ (fun hHeld => ?_); refine with_tabW cellarlaw9_MemStores.tab17 cellarlaw9_MemStores.bits17 (fun HT_ HW_ => ?_)
 generalize w46.drew = w47 at HO_3 HO_5 HO_7 BK340 BK355 HB hx356_0 hx356_1 hx356_2 hx356_3 hHeld ⊢
 refine zq 0 (some 69) HT_ ?_; refine zq 1 (some 70) HT_ ?_; refine zq 2 (some 71) HT_ ?_; refine zq 3 (some 72) HT_ ?_; refine zq 4 (some 73) HT_ ?_; refine zq 5 (some 74) HT_ ?_; refine zq 6 (some 75) HT_ ?_; refine zq 7 (some 76) HT_ ?_; refine zq 10 (some 79) HT_ ?_; refine zt 8 (some 77) HT_ HW_ hHeld ?_; refine zt 11 (some 80) HT_ HW_ hHeld ?_
 refine one_ (i := 9) (N := some 78) cellarlaw9_MemStores.b12 rfl rfl (one_of HT_.out (by kernel_rfl)) (by decide) (fun K hK => ?_)
 refine Kd.R_lit_step k62 _ 62 ?hg (N := 78) ?hd (xs := ([(⟨false, 200, 0, 0⟩ : S62), (⟨(rd_T62 t351 (ji38)).f0, (rd_T62 t351 (ji38)).f1, (rd_T62 t351 (ji38)).f2, (rd_T62 t351 (ji38)).f3⟩ : S62)] : List (S62))) (inner := [.bool false, .int .i64 200, .int .i64 0, .int .i64 0, .bool ((rd_T62 t351 (ji38)).f0), .int .i64 ((rd_T62 t351 (ji38)).f1), .int .i64 ((rd_T62 t351 (ji38)).f2), .int .i64 ((rd_T62 t351 (ji38)).f3)]) (ok := fun _ => True) (okp := fun _ => True) ?hr ?hp (fun _ hk => hk) trivial (Below.refl _ _) (Nat.le_refl _) (by simp) ?_; (case hd => rfl); (case hg => rfl); (case hr => first | (go_simp; done) | (go_simp; rfl)); (case hp => exact (Reps.c4 (show Kd.M k62 _ _ _ (⟨false, 200, 0, 0⟩ : S62) [.bool false, .int .i64 200, .int .i64 0, .int .i64 0] from (k62_mkM _ _ _ (⟨false, 200, 0, 0⟩ : S62) )) (Reps.c4 (show Kd.M k62 _ _ _ (⟨(rd_T62 t351 (ji38)).f0, (rd_T62 t351 (ji38)).f1, (rd_T62 t351 (ji38)).f2, (rd_T62 t351 (ji38)).f3⟩ : S62) [.bool ((rd_T62 t351 (ji38)).f0), .int .i64 ((rd_T62 t351 (ji38)).f1), .int .i64 ((rd_T62 t351 (ji38)).f2), .int .i64 ((rd_T62 t351 (ji38)).f3)] from (k62_mkM _ _ _ (⟨(rd_T62 t351 (ji38)).f0, (rd_T62 t351 (ji38)).f1, (rd_T62 t351 (ji38)).f2, (rd_T62 t351 (ji38)).f3⟩ : S62) )) (Reps.none _ _))))
 intro v358 w48 ho49 hb hg_ hnew_
 have HS4_ := (hb.cell (World.block_lt_of_cell? _ _ (hHeld.2.2.2.2.1))).trans (hHeld.2.2.2.2.1)
 have HS5_ := (hb.cell (World.block_lt_of_cell? _ _ (hHeld.2.2.2.2.2.1))).trans (hHeld.2.2.2.2.2.1)
 have HS6_ := (hb.cell (World.block_lt_of_cell? _ _ (hHeld.2.2.2.2.2.2.1))).trans (hHeld.2.2.2.2.2.2.1)
 have HS7_ := (hb.cell (World.block_lt_of_cell? _ _ (hHeld.2.2.2.2.2.2.2))).trans (hHeld.2.2.2.2.2.2.2)
 clear hg_ hnew_
 (first | rw [← Ny357.out] at ho49 | (simp only [Int.reduceToNat] at ho49; rw [← Ny357.out] at ho49))
 have n0_ := Aside0.mk (Kd.R_below (by (with_reducible repeat (first | apply Kd.R_alloc | apply Kd.R_drewN | apply Kd.R_drew)); exact HO_3.out) hb)
 have n1_ := Aside0.mk (Kd.S_below (by (with_reducible repeat (first | apply Kd.S_alloc | apply Kd.S_drewN | apply Kd.S_drew)); exact HO_5.out) hb)
 have n2_ := Aside0.mk (Kd.R_elder' (by (with_reducible repeat (first | apply Kd.R_alloc | apply Kd.R_drewN | apply Kd.R_drew)); exact HO_7.out) (Kd.R_base ho49) hb)
 have n3_ := Aside0.mk (Kd.R_lower (Kd.R_new' ho49 (Kd.R_lt (by (with_reducible repeat (first | apply Kd.R_alloc | apply Kd.R_drewN | apply Kd.R_drew)); exact HO_7.out))) (below_size (zw2 HB.out GE340.out GE355.out)))
 have n4_ := Aside0.mk (zbb BK340.out hb)
 have n5_ := Aside0.mk (zbb BK355.out hb)
 have n6_ := Aside0.mk (below_step (zw2 HB.out GE340.out GE355.out) hb)
 clear HO_3
 clear HO_5
 clear HO_7
 clear BK340
 clear BK355
 clear HB
 have HO_3 := n0_
 have HO_5 := n1_
 have HO_7 := n2_
 have HO359 := n3_
 have BK340 := n4_
 have BK355 := n5_
 have HB := n6_
 clear n0_ n1_ n2_ n3_ n4_ n5_ n6_
 clear hb ho49
 refine hK.out _ _ ⟨(blk_cell BK340.out 0).trans rfl, (blk_cell BK340.out 1).trans rfl, (blk_cell BK340.out 2).trans rfl, (blk_cell BK340.out 3).trans rfl, HS4_, HS5_, HS6_, HS7_⟩ (fun hHeld => ?_)
 clear hK K
 refine norm_ (a' := ?_) ?_ ?_
 rotate_left
 ·show Act.put _ (some 78) _ = _
  simp only [Act.put, List.setIfInBounds_toArray, List.set_cons_zero, List.set_cons_succ, i64_w, i32_w]
  rfl
 refine last_ (i := 12) (N := some 81) cellarlaw9_MemStores.b13 rfl rfl (one_of HT_.out (by kernel_rfl)) (by decide) (fun K hK => ?_)
 refine Kd.R_append_rows_step k62 (w0 := w) w.heap.size (by rfl) (.tmp 78) (.tmp 80) 52 62 (.agg #[(.bool false), (.int .i64 0), (.int .i64 0), (.int .i64 0)]) 32 rfl Try.underlying52 info62 rfl (by decide) (by omega) v358 y357 l0_1 _ _ _ (fun k_ => some k_ ≠ (.slice (some ad356) t351.length co31 : Value).ownBlock) (fun _ => False) rfl rfl ?aO ?aR (fun _ _ h => h) (fun _ h => h.elim) ?aF ?aB ?aS ?aL ?_
 (case aR => repeat (first | exact (Kd.C_below HR0_1.out HB.out) | (with_reducible refine Kd.C_alloc ?_ _) | (with_reducible refine Kd.C_drewN ?_ _) | (with_reducible refine Kd.C_drew ?_)))
 (case aB => exact (zw2 HB.out GE340.out GE355.out))
 (case aF => exact (fun k_ hk => Kd.fresh' (Kd.R_lt (by (with_reducible repeat (first | apply Kd.R_alloc | apply Kd.R_drewN | apply Kd.R_drew)); exact HO_7.out)) k_ hk))
 (case aO => exact (by (with_reducible repeat (first | apply Kd.R_alloc | apply Kd.R_drewN | apply Kd.R_drew)); exact Kd.R_mono HO359.out (fun _ hk => hk.2)))
 (case aS => exact (below_size (zw2 HB.out GE340.out GE355.out)))
 (case aL => have := LMc41.out; omega)
 intro v361 w50 ho hb hg hat
 rw [← Ny360.out] at ho
 have n0_ := Aside0.mk (Kd.R_over' (by (with_reducible repeat (first | apply Kd.R_alloc | apply Kd.R_drewN | apply Kd.R_drew)); exact HO_3.out) (Kd.R_typed (by (with_reducible repeat (first | apply Kd.R_alloc | apply Kd.R_drewN | apply Kd.R_drew)); exact HO359.out)) (by decide) hg)
 have n1_ := Aside0.mk (Kd.S_over' (by (with_reducible repeat (first | apply Kd.S_alloc | apply Kd.S_drewN | apply Kd.S_drew)); exact HO_5.out) (Kd.R_typed (by (with_reducible repeat (first | apply Kd.R_alloc | apply Kd.R_drewN | apply Kd.R_drew)); exact HO359.out)) (by decide) hg)
 have n2_ := Aside0.mk (Kd.R_after (ok := (fun _ => True)) (by (with_reducible repeat (first | apply Kd.R_alloc | apply Kd.R_drewN | apply Kd.R_drew)); exact HO_7.out) hg hat)
 have n3_ := Aside0.mk (blk_grown (g := gb340) (o := .cells #[.slice (some ad345) l0_0.length c0_0, .slice A0_1 l0_1.length c0_1, .slice A0_2 l0_2.length c0_2, .slice A0_3 l0_3.length c0_3] 54 (0, 0)) (zb BK340.out) hg (Kd.R_ne HO359.out BK340.out (by decide)))
 have n4_ := Aside0.mk (blk_grown (g := gb355) (o := .cells #[.bool ((rd_T29 t342 (ji34)).f0), .int .i64 ((rd_T29 t342 (ji34)).f1)] 29 (0, 0)) (zb BK355.out) hg (Kd.R_ne HO359.out BK355.out (by decide)))
 have n5_ := Aside0.mk (hb)
 have n6_ := Aside0.mk (ho)
 clear HO_3
 clear HO_5
 clear HO_7
 clear BK340
 clear BK355
 clear HB
 clear HO359
 have HO_3 := n0_
 have HO_5 := n1_
 have HO_7 := n2_
 have BK340 := n3_
 have BK355 := n4_
 have HB := n5_
 have HO362 := n6_
 clear n0_ n1_ n2_ n3_ n4_ n5_ n6_
 clear ho hb hg hat
 refine hK.out _ _ ?_
 clear hK K
 refine norm_ (a' := ?_) ?_ ?_
 rotate_left
 ·show Act.put _ (some 81) _ = _
  simp only [Act.put, List.setIfInBounds_toArray, List.set_cons_zero, List.set_cons_succ, i64_w, i32_w]
  rfl
 refine zq 13 (some 11) HT_ ?_
 refine done_ (done_of HT_.out (by kernel_rfl)) ?_
 try go_wp2
 go_loopg [12] k4 (fun kq v12 w' => ∃ (x12_5 : Int), v12 = .int .i64 x12_5 ∧ Aside0 (cellarlaw9_MemStores.l3 kq t342 x4_1 t346 t350 t351 x8_3 x9_4 y360 x12_5 l0_0 l0_1 l0_2 l0_3 ((rd_T29 t342 (ji34)).f0) ((rd_T29 t342 (ji34)).f1) = some r) ∧ Aside0 (kq ≤ k4) ∧ Aside0 (Kd.R k29 29 w' w.heap.size (fun k_ => k_ ≠ gb355) (.slice (some ad354) t342.length co42) t342) ∧ Aside0 (Kd.S k76 76 w' w.heap.size (fun _ => True) (.slice Ao28 t346.length co28) t346) ∧ Aside0 (Kd.R k62 62 w' w.heap.size (fun k_ => some k_ ≠ (v361 : Value).ownBlock) (.slice (some ad356) t351.length co31) t351) ∧ Aside0 (Kd.R k62 62 w' w.heap.size (fun k_ => some k_ ≠ ((.slice (some ad356) t351.length co31) : Value).ownBlock) v361 y360) ∧ Aside0 (w'.heap[gb340]? = some (.cells #[(.slice (some ad345) l0_0.length c0_0), (.slice A0_1 l0_1.length c0_1), (.slice A0_2 l0_2.length c0_2), (.slice A0_3 l0_3.length c0_3)] 54 (0, 0))) ∧ Aside0 (w'.heap[gb355]? = some (.cells #[.bool ((rd_T29 t342 (ji34)).f0), .int .i64 ((rd_T29 t342 (ji34)).f1)] 29 (0, 0))) ∧ Aside0 (Below w.heap.size w w'))
 case atStart => exact ⟨(0), (zr), H', ⟨Nat.le_refl _⟩, ⟨by (with_reducible repeat (first | apply Kd.R_alloc | apply Kd.R_drewN | apply Kd.R_drew)); exact HO_3.out⟩, ⟨by (with_reducible repeat (first | apply Kd.S_alloc | apply Kd.S_drewN | apply Kd.S_drew)); exact HO_5.out⟩, ⟨by (with_reducible repeat (first | apply Kd.R_alloc | apply Kd.R_drewN | apply Kd.R_drew)); exact Kd.R_mono HO_7.out (fun _ hk => hk.2)⟩, ⟨by (with_reducible repeat (first | apply Kd.R_alloc | apply Kd.R_drewN | apply Kd.R_drew)); exact HO362.out⟩, ⟨zb BK340.out⟩, ⟨zb BK355.out⟩, ⟨zw2 HB.out GE340.out GE355.out⟩⟩
 case round =>
 rename_i q8_ q9_ q10_ q24_ _ _ _ _ _ _ _ _ _ _ _ _ _ _ _ _ _ _ _ _ _ _ _ _ _ _ _ _ _ _ _ _ _ _ _ _ _ _ _ _ _ _ _ _ _ _ _ _ _ _ _ _ _ _ _ _ _ _ _ _ _ _ _ _ _ _ _ _ _ _ _ _ _ _ _ _ _ _ _ _ _ _ _ _ _ _ _ _ _ _ _ _ _ _ _ _ _ _ _ _ _ _ _ _ _ q25_ q26_ q27_ q28_ q29_ q30_ q31_ q32_ q33_
 clear q8_ q9_ q10_ q25_ q28_ q29_
 revert k c0_0 l0_0 A0_1 c0_1 l0_1 A0_2 c0_2 l0_2 A0_3 c0_3 l0_3 r w hu54 hu29 hu62 HC0_0 HR0_1 HC0_1 HR0_2 HC0_2 HR0_3 HC0_3 A2 t342 A7 q1_ gb340 w8 GW340 GE340 hfz9_0 hfz9_1 hfz9_2 hfz9_3 w10 hfz11_0 hfz11_1 hfz11_2 hfz11_3 w12 q2_ q3_ q4_ q5_ x4_1 k1 q7_ HK1 wc u24 u25 u26 u27 u28 u29 u30 u31 u33 u34 kj12 HJ12 c18b0 c19b0 t346 A20 t350 A21 t351 A22 hfz23_0 hfz23_1 hfz23_2 hfz23_3 ad345 A345_0 c345_0 HR0_0 hcz9_0 hcz9_1 hcz9_2 hcz9_3 hcz11_0 hcz11_1 hcz11_2 hcz11_3 hcz23_0 hcz23_1 hcz23_2 hcz23_3 hx345_0 HR345_0 HC345_0 p345 q345 q11_ q12_ w24 hcz25_0 hcz25_1 hcz25_2 hcz25_3 hfz25_0 hfz25_1 hfz25_2 hfz25_3 A349_0 c349_0 hx349_0 HR349_0 HC349_0 p349 q349 w26 hcz27_0 hcz27_1 hcz27_2 hcz27_3 hfz27_0 hfz27_1 hfz27_2 hfz27_3 Ao28 co28 w29 HO348 e349 u54 u55 q13_ q14_ x8_3 k3 q16_ HK3 c30b0 co31 q18_ q19_ q24_ u58 u59 q20_ q21_ x9_4 k4 q23_ HK4 c32b0 c33 c33b0 c33b1 c33b2 ji34 hji34 c35b0 c36b0 c37 c37b0 c37b1 c37b2 ji38 hji38 c39b0 c40b0 y357 Ny357 LMc41 y360 Ny360 H' co42 ad354 hx354_0 hx354_1 HO344 q6_ p354 q354 q26_ q27_ gb355 w43 GW355 GE355 NB340_355 NB355_340 hnb44 hnc44 hcz45_0 hcz45_1 hfz45_0 hfz45_1 ad356 HO353 q15_ q22_ p356 q356 HT_ HW_ w47 hx356_0 hx356_1 hx356_2 hx356_3 v358 w48 HS4_ HS5_ HS6_ HS7_ hHeld v361 w50 HO_3 HO_5 HO_7 BK340 BK355 HB HO362 gk wr u2 u12 u13 u14 u15 u16 u17 u18 u82 u83 u84 u85 u86 u87 u88 u89 u90 u91 u92 u93 u94 u95 u96 u97 u98 u99 u100 u101 u102 u103 u104 u105 u106 u107 u108 u109 u110 u111 u112 u113 u114 u115 u116 u117 u118 u119 u120 u121 u122 u123 u124 u125 u126 u127 u128 u129 u130 u131 u132 u133 u134 u135 u136 u137 u138 u139 u140 u141 u142 u143 u144 u145 u146 u147 u148 u149 u150 u151 u152 u153 u154 u155 u156 u157 u158 u159 u160 u161 u162 u163 u164 u165 u166 u167 u168 u169 u170 u171 u172 u173 u174 u175 u176 u177 u178 hrel q30_ q31_ q32_ q33_
 exact cutP1.out
end Go.Proofs.Ytjoplkillkhiaaa.St
