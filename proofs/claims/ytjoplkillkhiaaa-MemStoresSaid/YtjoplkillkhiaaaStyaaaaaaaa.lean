-- Written by this session's own edition of the print.
import Derived.Test.YtjoplkillkhiaaaStx0
import Derived.Test.YtjoplkillkhiaaaStx2
import Derived.Test.YtjoplkillkhiaaaStx3
import Derived.Test.YtjoplkillkhiaaaStx4
import Derived.Test.YtjoplkillkhiaaaStx7
import Derived.Test.YtjoplkillkhiaaaStx8
import Derived.Test.YtjoplkillkhiaaaStx9
import Derived.Test.YtjoplkillkhiaaaStx10
import Derived.Test.YtjoplkillkhiaaaStx13
import Derived.Test.YtjoplkillkhiaaaZSq
import Derived.Test.YtjoplkillkhiaaaZSq2
import Derived.Test.YtjoplkillkhiaaaZSq3
import Derived.Test.YtjoplkillkhiaaaStx14
import Derived.Test.YtjoplkillkhiaaaCut
import Derived.Test.YtjoplkillkhiaaaSty
import Derived.Test.YtjoplkillkhiaaaStya
import Derived.Test.YtjoplkillkhiaaaStyaa
import Derived.Test.YtjoplkillkhiaaaStyaaa
import Derived.Test.YtjoplkillkhiaaaStyaaaa
import Derived.Test.YtjoplkillkhiaaaStyaaaaa
import Derived.Test.YtjoplkillkhiaaaStyaaaaaa
import Derived.Test.YtjoplkillkhiaaaStyaaaaaaa
namespace Go.Proofs.Ytjoplkillkhiaaa.St
open Go.Proofs.Ytjoplkillkhiaaa.Cuts Go.RowKit Go.Proofs.Ytjoplkillkhiaaa.Fn Go.Proofs.YtjoplkillkhiaaaW.PrintWords Go.Proofs.YtjoplkillkhiaaaW.PrintLast Go.Proofs.YtjoplkillkhiaaaW.PrintMore
set_option linter.unusedVariables false
set_option linter.unusedSimpArgs false
set_option maxHeartbeats 60000000 in
set_option maxRecDepth 100000 in
theorem cellarlaw9_MemStores.part_aaaaaaaa : cellarlaw9_MemStores.cut_aaaaaaa.P1 := by
 intro k c0_0 l0_0 A0_1 c0_1 l0_1 A0_2 c0_2 l0_2 A0_3 c0_3 l0_3 r w hu54 hu29 hu62 HC0_0 HR0_1 HC0_1 HR0_2 HC0_2 HR0_3 HC0_3 A2 t342 A7 q1_ gb340 w8 GW340 GE340 hfz9_0 hfz9_1 hfz9_2 hfz9_3 w10 hfz11_0 hfz11_1 hfz11_2 hfz11_3 w12 q2_ q3_ q4_ q5_ x4_1 k1 q7_ HK1 q8_ u24 u25 u26 u27 u28 u29 u30 u31 u33 u34 kj12 HJ12 c18b0 c19b0 t346 A20 t350 A21 t351 A22 hfz23_0 hfz23_1 hfz23_2 hfz23_3 ad345 A345_0 c345_0 HR0_0 hcz9_0 hcz9_1 hcz9_2 hcz9_3 hcz11_0 hcz11_1 hcz11_2 hcz11_3 hcz23_0 hcz23_1 hcz23_2 hcz23_3 hx345_0 HR345_0 HC345_0 p345 q345 q11_ q12_ w24 hcz25_0 hcz25_1 hcz25_2 hcz25_3 hfz25_0 hfz25_1 hfz25_2 hfz25_3 A349_0 c349_0 hx349_0 HR349_0 HC349_0 p349 q349 w26 hcz27_0 hcz27_1 hcz27_2 hcz27_3 hfz27_0 hfz27_1 hfz27_2 hfz27_3 Ao28 co28 w29 HO348 e349 u54 u55 q13_ q14_ x8_3 k3 q16_ HK3 c30b0 co31 q18_ q19_ q24_ u58 u59 q20_ q21_ x9_4 k4 q23_ HK4 c32b0 c33 c33b0 c33b1 c33b2 ji34 hji34 c35b0 c36b0 c37 c37b0 c37b1 c37b2 ji38 hji38 c39b0 c40b0 y357 Ny357 LMc41 y360 Ny360 co42 ad354 hx354_0 hx354_1 HO344 q6_ p354 q354 q26_ q27_ gb355 w43 GW355 GE355 NB340_355 NB355_340 hnb44 hnc44 hcz45_0 hcz45_1 hfz45_0 hfz45_1 ad356 HO353 q15_ q22_ p356 q356 w47 hx356_0 hx356_1 hx356_2 hx356_3 v358 w50 u2 q30_ q31_ x12_5 k5 q33_ HK5 kj50 HJ50 c56b0 c57b0 c58b0 c59b0 t365 t368 t369 A60 q38_ q39_ e363 p363 q363 co63 ad364 HO362 q32_ p364 q364 HT_ HW_ w62 hx363_0 hx363_1 hx363_2 hx363_3 hx364_0 hx364_1 hx364_2 hx364_3 w64 v366 HS2_ HS3_ HS4_ HS5_ HS6_ HS7_ HS8_ HS9_ SV_HO_3 SV_HO_5 SV_HO_7 SV_HO_11 SV_BK340 SV_BK355 SV_HB HO367 hHeld q43_ q44_ wc u82 u83 u84 u85 u86 u87 u88 u89 u90 u91 u92 u93 u94 u95 u96 u97 u98 u99 u100 u101 u102 u103 u104 u105 u106 u107 u108 u109 u110 u111 u112 u113 u114 u115 u116 u117 u118 u119 u120 u121 u122 u123 u124 u125 u126 u127 u129 u130 u131 u132 u133 u134 u135 u136 u137 u138 u139 u140 u141 u142 u143 u144 u145 u146 u147 u148 u149 u150 u151 u152 u153 u154 u155 u156 u157 u158 u159 u160 u161 u162 u163 u164 u165 u166 u167 u168 u169 u170 u171 u172 u173 u174 u175 u176 u177 u178 x128_60 HO_3 HO_5 HO_7 HO_11 HO_13 HO_18 BK340 BK355 HB kj60 HJ60 HC83 q35_ q36_ q37_ q40_
 have H := HC83.out
 clear HC83
 by_cases c84 : x128_60 = true
 rotate_left
 ·replace c84 := Bool.eq_false_iff.mpr c84
  subst c84
  have H1 : (cellarlaw9_MemStores.j7 kj60 t342 x4_1 t346 t350 t351 x8_3 x9_4 y360 x12_5 t365 t368 t369 1 0 ([] : List (S76)) l0_0 l0_1 l0_2 l0_3 ((rd_T29 t342 (ji34)).f0) ((rd_T29 t342 (ji34)).f1)) = some r := by rw [if_neg (show ¬ (false = true) by decide)] at H; exact H
  clear H
  have H := H1
  clear H1
  have H' := Aside0.mk H
  clear H
  go_wp2
  go_meet
  case rel => exact ⟨_, (1), (0), (([] : List (S76))), (zr), (zr), H', ⟨by have := HK1.out; have := HJ12.out; have := HK3.out; have := HK4.out; have := HK5.out; have := HJ50.out; have := HJ60.out; first | omega | exact Nat.le_refl _⟩, ⟨by (with_reducible repeat (first | apply Kd.R_alloc | apply Kd.R_drewN | apply Kd.R_drew)); exact HO_3.out⟩, ⟨by (with_reducible repeat (first | apply Kd.S_alloc | apply Kd.S_drewN | apply Kd.S_drew)); exact HO_5.out⟩, ⟨by (with_reducible repeat (first | apply Kd.R_alloc | apply Kd.R_drewN | apply Kd.R_drew)); exact HO_7.out⟩, ⟨by (with_reducible repeat (first | apply Kd.R_alloc | apply Kd.R_drewN | apply Kd.R_drew)); exact HO_11.out⟩, ⟨by (with_reducible repeat (first | apply Kd.S_alloc | apply Kd.S_drewN | apply Kd.S_drew)); exact HO_13.out⟩, ⟨by (with_reducible repeat (first | apply Kd.S_alloc | apply Kd.S_drewN | apply Kd.S_drew)); exact HO_18.out⟩, ⟨zb BK340.out⟩, ⟨zb BK355.out⟩, ⟨zw2 HB.out GE340.out GE355.out⟩⟩
 subst c84
 have H1 : (if 0 ≤ x8_3 then (if x8_3 < (t351.length : Int) then (if 0 ≤ x12_5 then (if x12_5 < (y360.length : Int) then ((cellarref7_Store.f kj60 ((rd_T29 t342 (ji34)).f0) ((rd_T29 t342 (ji34)).f1) t346 ((rd_T62 t351 x8_3).f0) ((rd_T62 t351 x8_3).f1) ((rd_T62 t351 x8_3).f2) ((rd_T62 t351 x8_3).f3) x9_4 ((rd_T62 y360 x12_5).f0) ((rd_T62 y360 x12_5).f1) ((rd_T62 y360 x12_5).f2) ((rd_T62 y360 x12_5).f3)).bind fun bt377 => (cellarlaw9_MemStores.j7 kj60 t342 x4_1 t346 t350 t351 x8_3 x9_4 y360 x12_5 t365 t368 t369 0 bt377.2 bt377.1 l0_0 l0_1 l0_2 l0_3 ((rd_T29 t342 (ji34)).f0) ((rd_T29 t342 (ji34)).f1))) else (none)) else (none)) else (none)) else (none)) = some r := by rw [if_pos rfl] at H; exact H
 clear H
 have H := H1
 clear H1
 by_cases c85 : 0 ≤ x8_3
 rotate_left
 ·rw [if_neg c85] at H
  exact absurd H (by simp)
 rw [if_pos c85] at H
 have c85b0 : decide (0 ≤ x8_3) = true := decide_eq_true c85
 clear c85
 (first | rw [c85b0] | (simp only [i64_w, i32_w]; rw [c85b0]) | skip)
 by_cases c86 : x8_3 < (t351.length : Int)
 rotate_left
 ·rw [if_neg c86] at H
  exact absurd H (by simp)
 rw [if_pos c86] at H
 have c86b0 : decide (x8_3 < (t351.length : Int)) = true := decide_eq_true c86
 clear c86
 by_cases c87 : 0 ≤ x12_5
 rotate_left
 ·rw [if_neg c87] at H
  exact absurd H (by simp)
 rw [if_pos c87] at H
 have c87b0 : decide (0 ≤ x12_5) = true := decide_eq_true c87
 clear c87
 by_cases c88 : x12_5 < (y360.length : Int)
 rotate_left
 ·rw [if_neg c88] at H
  exact absurd H (by simp)
 rw [if_pos c88] at H
 have c88b0 : decide (x12_5 < (y360.length : Int)) = true := decide_eq_true c88
 clear c88
 replace H := Option.bind_eq_some_iff.mp H
 obtain ⟨⟨t377, t380⟩, A890, H⟩ := H
 replace H : (cellarlaw9_MemStores.j7 kj60 t342 x4_1 t346 t350 t351 x8_3 x9_4 y360 x12_5 t365 t368 t369 0 t380 t377 l0_0 l0_1 l0_2 l0_3 ((rd_T29 t342 (ji34)).f0) ((rd_T29 t342 (ji34)).f1)) = some r := H
 have A89 := Aside0.mk A890
 clear A890
 have H' := Aside0.mk H
 clear H
 try go_wp2
 have n0_ := Aside0.mk (Kd.R_drew HO_3.out)
 have n1_ := Aside0.mk (Kd.S_drew HO_5.out)
 have n2_ := Aside0.mk (Kd.R_drew HO_7.out)
 have n3_ := Aside0.mk (Kd.R_drew HO_11.out)
 have n4_ := Aside0.mk (Kd.S_drew HO_13.out)
 have n5_ := Aside0.mk (Kd.S_drew HO_18.out)
 have n6_ := Aside0.mk (blk_drew BK340.out)
 have n7_ := Aside0.mk (blk_drew BK355.out)
 have n8_ := Aside0.mk (below_drew1 HB.out)
 clear HO_3
 clear HO_5
 clear HO_7
 clear HO_11
 clear HO_13
 clear HO_18
 clear BK340
 clear BK355
 clear HB
 have HO_3 := n0_
 have HO_5 := n1_
 have HO_7 := n2_
 have HO_11 := n3_
 have HO_13 := n4_
 have HO_18 := n5_
 have BK340 := n6_
 have BK355 := n7_
 have HB := n8_
 clear n0_ n1_ n2_ n3_ n4_ n5_ n6_ n7_ n8_
 have p375 : 0 ≤ (x8_3 : Int) := zdec
 have q375 : x8_3 < (t351.length : Int) := zdec
 obtain ⟨ad375, e375, hx375_0, hx375_1, hx375_2, hx375_3⟩ := at_T62 (Kd.R_reads' HO_7.out).2.2 x8_3 p375 q375
 obtain rfl : ad356 = ad375 := (by injection e375)
 replace p375 := eq_true p375
 replace q375 := eq_true q375
 have p376 : 0 ≤ (x12_5 : Int) := zdec
 have q376 : x12_5 < (y360.length : Int) := zdec
 obtain ⟨ad376, e376, hx376_0, hx376_1, hx376_2, hx376_3⟩ := at_T62 (Kd.R_reads' HO_11.out).2.2 x12_5 p376 q376
 obtain rfl : ad364 = ad376 := (by injection e376)
 replace p376 := eq_true p376
 replace q376 := eq_true q376
 refine start_ (n := 17) (S := fun w' => w'.cell? ⟨gb355, 0, none⟩ = some (.bool ((rd_T29 t342 (ji34)).f0)) ∧ w'.cell? ⟨gb355, 1, none⟩ = some (.int .i64 ((rd_T29 t342 (ji34)).f1)) ∧ w'.cell? (ad356.add ((x8_3).toNat * 4)) = some (.bool ((rd_T62 t351 x8_3).f0)) ∧ w'.cell? ⟨(ad356.add ((x8_3).toNat * 4)).block, (ad356.add ((x8_3).toNat * 4)).off + 1, none⟩ = some (.int .i64 ((rd_T62 t351 x8_3).f1)) ∧ w'.cell? ⟨(ad356.add ((x8_3).toNat * 4)).block, (ad356.add ((x8_3).toNat * 4)).off + 2, none⟩ = some (.int .i64 ((rd_T62 t351 x8_3).f2)) ∧ w'.cell? ⟨(ad356.add ((x8_3).toNat * 4)).block, (ad356.add ((x8_3).toNat * 4)).off + 3, none⟩ = some (.int .i64 ((rd_T62 t351 x8_3).f3)) ∧ w'.cell? (ad364.add ((x12_5).toNat * 4)) = some (.bool ((rd_T62 y360 x12_5).f0)) ∧ w'.cell? ⟨(ad364.add ((x12_5).toNat * 4)).block, (ad364.add ((x12_5).toNat * 4)).off + 1, none⟩ = some (.int .i64 ((rd_T62 y360 x12_5).f1)) ∧ w'.cell? ⟨(ad364.add ((x12_5).toNat * 4)).block, (ad364.add ((x12_5).toNat * 4)).off + 2, none⟩ = some (.int .i64 ((rd_T62 y360 x12_5).f2)) ∧ w'.cell? ⟨(ad364.add ((x12_5).toNat * 4)).block, (ad364.add ((x12_5).toNat * 4)).off + 3, none⟩ = some (.int .i64 ((rd_T62 y360 x12_5).f3))) (ds := []) cellarlaw9_MemStores.b35 (by kernel_rfl) rfl rfl ⟨(blk_cell BK355.out 0).trans rfl, (blk_cell BK355.out 1).trans rfl, hx375_0, hx375_1, hx375_2, hx375_3, hx376_0, hx376_1, hx376_2, hx376_3⟩ (fun hHeld => ?_); refine with_tabW cellarlaw9_MemStores.tab26 cellarlaw9_MemStores.bits26 (fun HT_ HW_ => ?_)
 generalize wc.drew = w90 at HO_3 HO_5 HO_7 HO_11 HO_13 HO_18 BK340 BK355 HB hx375_0 hx375_1 hx375_2 hx375_3 hx376_0 hx376_1 hx376_2 hx376_3 hHeld ⊢
 refine zq 1 (some 131) HT_ ?_; refine zq 2 (some 132) HT_ ?_; refine zq 3 (some 133) HT_ ?_; refine zq 4 (some 134) HT_ ?_; refine zq 6 (some 136) HT_ ?_; refine zq 7 (some 137) HT_ ?_; refine zq 8 (some 138) HT_ ?_; refine zq 9 (some 139) HT_ ?_; refine zt 0 (some 130) HT_ HW_ hHeld ?_; refine zt 5 (some 135) HT_ HW_ hHeld ?_; refine zt 10 (some 140) HT_ HW_ hHeld ?_
 refine one_ (i := 11) (N := some 141) cellarlaw9_MemStores.b47 rfl rfl (one_of HT_.out (by kernel_rfl)) (by decide) (fun K hK => ?_)
 refine goes_ Try.func34 (by kernel_rfl) rfl #[.agg #[.bool ((rd_T29 t342 (ji34)).f0), .int .i64 ((rd_T29 t342 (ji34)).f1)], .slice Ao28 t346.length co28, .agg #[.bool ((rd_T62 t351 x8_3).f0), .int .i64 ((rd_T62 t351 x8_3).f1), .int .i64 ((rd_T62 t351 x8_3).f2), .int .i64 ((rd_T62 t351 x8_3).f3)], .int .i64 x9_4, .agg #[.bool ((rd_T62 y360 x12_5).f0), .int .i64 ((rd_T62 y360 x12_5).f1), .int .i64 ((rd_T62 y360 x12_5).f2), .int .i64 ((rd_T62 y360 x12_5).f3)]] (by rfl) rfl rfl (by (try simp only [List.map_toArray, List.map_cons, List.map_nil]); first | done | (simp only [hji34]; rfl) | rfl | (simp only [List.length_drop, List.length_take]; rfl)) ?_
 with_reducible refine (cellarref7_Store.calls kj60 ((rd_T29 t342 (ji34)).f0) ((rd_T29 t342 (ji34)).f1) _ _ t346 ((rd_T62 t351 x8_3).f0) ((rd_T62 t351 x8_3).f1) ((rd_T62 t351 x8_3).f2) ((rd_T62 t351 x8_3).f3) x9_4 ((rd_T62 y360 x12_5).f0) ((rd_T62 y360 x12_5).f1) ((rd_T62 y360 x12_5).f2) ((rd_T62 y360 x12_5).f3) t377 t380 _ ?side1 ?side2 A89.out).mono ?_
 (case side1 => repeat (first | exact (Kd.S_reads' HO_5.out).2.2 | (with_reducible refine Kd.C_alloc ?_ _) | (with_reducible refine Kd.C_drewN ?_ _) | (with_reducible refine Kd.C_drew ?_)))
 (case side2 => exact (Kd.S_reads' HO_5.out).2.1)
 rintro e w91 ⟨v378, rfl, ho0, hb⟩
 have HS2_ := (hb.cell (World.block_lt_of_cell? _ _ (hHeld.2.2.1))).trans (hHeld.2.2.1)
 have HS3_ := (hb.cell (World.block_lt_of_cell? _ _ (hHeld.2.2.2.1))).trans (hHeld.2.2.2.1)
 have HS4_ := (hb.cell (World.block_lt_of_cell? _ _ (hHeld.2.2.2.2.1))).trans (hHeld.2.2.2.2.1)
 have HS5_ := (hb.cell (World.block_lt_of_cell? _ _ (hHeld.2.2.2.2.2.1))).trans (hHeld.2.2.2.2.2.1)
 have HS6_ := (hb.cell (World.block_lt_of_cell? _ _ (hHeld.2.2.2.2.2.2.1))).trans (hHeld.2.2.2.2.2.2.1)
 have HS7_ := (hb.cell (World.block_lt_of_cell? _ _ (hHeld.2.2.2.2.2.2.2.1))).trans (hHeld.2.2.2.2.2.2.2.1)
 have HS8_ := (hb.cell (World.block_lt_of_cell? _ _ (hHeld.2.2.2.2.2.2.2.2.1))).trans (hHeld.2.2.2.2.2.2.2.2.1)
 have HS9_ := (hb.cell (World.block_lt_of_cell? _ _ (hHeld.2.2.2.2.2.2.2.2.2))).trans (hHeld.2.2.2.2.2.2.2.2.2)
 refine ⟨_, rfl, ?_⟩
 have n0_ := Aside0.mk (Kd.R_below (by (with_reducible repeat (first | apply Kd.R_alloc | apply Kd.R_drewN | apply Kd.R_drew)); exact HO_3.out) hb)
 have n1_ := Aside0.mk (Kd.S_elder' (by (with_reducible repeat (first | apply Kd.S_alloc | apply Kd.S_drewN | apply Kd.S_drew)); exact HO_5.out) (Kd.S_base ho0) hb)
 have n2_ := Aside0.mk (Kd.R_below (by (with_reducible repeat (first | apply Kd.R_alloc | apply Kd.R_drewN | apply Kd.R_drew)); exact HO_7.out) hb)
 have n3_ := Aside0.mk (Kd.R_below (by (with_reducible repeat (first | apply Kd.R_alloc | apply Kd.R_drewN | apply Kd.R_drew)); exact HO_11.out) hb)
 have n4_ := Aside0.mk (Kd.S_elder' (by (with_reducible repeat (first | apply Kd.S_alloc | apply Kd.S_drewN | apply Kd.S_drew)); exact HO_13.out) (Kd.S_base ho0) hb)
 have n5_ := Aside0.mk (Kd.S_elder' (by (with_reducible repeat (first | apply Kd.S_alloc | apply Kd.S_drewN | apply Kd.S_drew)); exact HO_18.out) (Kd.S_base ho0) hb)
 have n6_ := Aside0.mk (Kd.S_lower (Kd.S_new' (Kd.S_new' (Kd.S_new' ho0 (Kd.S_lt (by (with_reducible repeat (first | apply Kd.S_alloc | apply Kd.S_drewN | apply Kd.S_drew)); exact HO_5.out))) (Kd.S_lt (by (with_reducible repeat (first | apply Kd.S_alloc | apply Kd.S_drewN | apply Kd.S_drew)); exact HO_13.out))) (Kd.S_lt (by (with_reducible repeat (first | apply Kd.S_alloc | apply Kd.S_drewN | apply Kd.S_drew)); exact HO_18.out))) (below_size (zw2 (below_step SV_HB.out HB.out) GE340.out GE355.out)))
 have n7_ := Aside0.mk (zbb BK340.out hb)
 have n8_ := Aside0.mk (zbb BK355.out hb)
 have n9_ := Aside0.mk (below_step (zw2 HB.out GE340.out GE355.out) hb)
 clear HO_3
 clear HO_5
 clear HO_7
 clear HO_11
 clear HO_13
 clear HO_18
 clear BK340
 clear BK355
 clear HB
 have HO_3 := n0_
 have HO_5 := n1_
 have HO_7 := n2_
 have HO_11 := n3_
 have HO_13 := n4_
 have HO_18 := n5_
 have HO379 := n6_
 have BK340 := n7_
 have BK355 := n8_
 have HB := n9_
 clear n0_ n1_ n2_ n3_ n4_ n5_ n6_ n7_ n8_ n9_
 (try clear hb)
 (try clear hb2)
 (try clear hk)
 (try clear hi)
 (try clear ho0)
 refine hK.out _ _ ⟨(blk_cell BK355.out 0).trans rfl, (blk_cell BK355.out 1).trans rfl, HS2_, HS3_, HS4_, HS5_, HS6_, HS7_, HS8_, HS9_⟩ (fun hHeld => ?_)
 clear hK K
 refine norm_ (a' := ?_) ?_ ?_
 rotate_left
 ·show Act.put _ (some 141) _ = _
  simp only [Act.put, List.setIfInBounds_toArray, List.set_cons_zero, List.set_cons_succ, i64_w, i32_w]
  rfl
 refine zq 12 (some 129) HT_ ?_; refine zq 13 (some 142) HT_ ?_; refine zq 14 (some 143) HT_ ?_; refine zq 15 (some 18) HT_ ?_; refine zq 16 (some 17) HT_ ?_
 refine done_ (done_of HT_.out (by kernel_rfl)) ?_
 try go_wp2
 go_meet
 case rel => exact ⟨_, (0), (t380), (t377), (zr), (zr), H', ⟨by have := HK1.out; have := HJ12.out; have := HK3.out; have := HK4.out; have := HK5.out; have := HJ50.out; have := HJ60.out; first | omega | exact Nat.le_refl _⟩, ⟨by (with_reducible repeat (first | apply Kd.R_alloc | apply Kd.R_drewN | apply Kd.R_drew)); exact HO_3.out⟩, ⟨by (with_reducible repeat (first | apply Kd.S_alloc | apply Kd.S_drewN | apply Kd.S_drew)); exact Kd.S_mono HO_5.out (fun _ hk => ⟨hk.1.1, hk.2⟩)⟩, ⟨by (with_reducible repeat (first | apply Kd.R_alloc | apply Kd.R_drewN | apply Kd.R_drew)); exact HO_7.out⟩, ⟨by (with_reducible repeat (first | apply Kd.R_alloc | apply Kd.R_drewN | apply Kd.R_drew)); exact HO_11.out⟩, ⟨by (with_reducible repeat (first | apply Kd.S_alloc | apply Kd.S_drewN | apply Kd.S_drew)); exact Kd.S_mono HO_13.out (fun _ hk => ⟨hk.1.1, hk.2⟩)⟩, ⟨by (with_reducible repeat (first | apply Kd.S_alloc | apply Kd.S_drewN | apply Kd.S_drew)); exact Kd.S_mono HO379.out (fun _ hk => ⟨hk.1.1.2, hk.1.2⟩)⟩, ⟨zb BK340.out⟩, ⟨zb BK355.out⟩, ⟨zw2 HB.out GE340.out GE355.out⟩⟩
end Go.Proofs.Ytjoplkillkhiaaa.St
