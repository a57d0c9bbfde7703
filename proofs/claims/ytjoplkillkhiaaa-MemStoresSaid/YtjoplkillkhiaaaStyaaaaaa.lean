-- Written by this session's own edition of the print.
import Derived.Test.YtjoplkillkhiaaaStx0
import Derived.Test.YtjoplkillkhiaaaStx2
import Derived.Test.YtjoplkillkhiaaaStx3
import Derived.Test.YtjoplkillkhiaaaStx4
import Derived.Test.YtjoplkillkhiaaaStx7
import Derived.Test.YtjoplkillkhiaaaStx8
import Derived.Test.YtjoplkillkhiaaaStx9
import Derived.Test.YtjoplkillkhiaaaStx10
import Derived.Test.YtjoplkillkhiaaaStx13
import Derived.Test.YtjoplkillkhiaaaZSq
import Derived.Test.YtjoplkillkhiaaaZSq2
import Derived.Test.YtjoplkillkhiaaaZSq3
import Derived.Test.YtjoplkillkhiaaaStx14
import Derived.Test.YtjoplkillkhiaaaCut
import Derived.Test.YtjoplkillkhiaaaSty
import Derived.Test.YtjoplkillkhiaaaStya
import Derived.Test.YtjoplkillkhiaaaStyaa
import Derived.Test.YtjoplkillkhiaaaStyaaa
import Derived.Test.YtjoplkillkhiaaaStyaaaa
import Derived.Test.YtjoplkillkhiaaaStyaaaaa
namespace Go.Proofs.Ytjoplkillkhiaaa.St
open Go.Proofs.Ytjoplkillkhiaaa.Cuts Go.RowKit Go.Proofs.Ytjoplkillkhiaaa.Fn Go.Proofs.YtjoplkillkhiaaaW.PrintWords Go.Proofs.YtjoplkillkhiaaaW.PrintLast Go.Proofs.YtjoplkillkhiaaaW.PrintMore
set_option linter.unusedVariables false
set_option linter.unusedSimpArgs false
set_option maxHeartbeats 60000000 in
set_option maxRecDepth 100000 in
noncomputable def cellarlaw9_MemStores.cut_aaaaaa : Cut1 (cellarlaw9_MemStores.cut_aaaaa.P1) := by
 apply Cut1.mk
 case h =>
 intro cutP1
 intro k c0_0 l0_0 A0_1 c0_1 l0_1 A0_2 c0_2 l0_2 A0_3 c0_3 l0_3 r w hu54 hu29 hu62 HC0_0 HR0_1 HC0_1 HR0_2 HC0_2 HR0_3 HC0_3 A2 t342 A7 q1_ gb340 w8 GW340 GE340 hfz9_0 hfz9_1 hfz9_2 hfz9_3 w10 hfz11_0 hfz11_1 hfz11_2 hfz11_3 w12 q2_ q3_ q4_ q5_ x4_1 k1 q7_ HK1 q8_ u24 u25 u26 u27 u28 u29 u30 u31 u33 u34 kj12 HJ12 c18b0 c19b0 t346 A20 t350 A21 t351 A22 hfz23_0 hfz23_1 hfz23_2 hfz23_3 ad345 A345_0 c345_0 HR0_0 hcz9_0 hcz9_1 hcz9_2 hcz9_3 hcz11_0 hcz11_1 hcz11_2 hcz11_3 hcz23_0 hcz23_1 hcz23_2 hcz23_3 hx345_0 HR345_0 HC345_0 p345 q345 q11_ q12_ w24 hcz25_0 hcz25_1 hcz25_2 hcz25_3 hfz25_0 hfz25_1 hfz25_2 hfz25_3 A349_0 c349_0 hx349_0 HR349_0 HC349_0 p349 q349 w26 hcz27_0 hcz27_1 hcz27_2 hcz27_3 hfz27_0 hfz27_1 hfz27_2 hfz27_3 Ao28 co28 w29 HO348 e349 u54 u55 q13_ q14_ x8_3 k3 q16_ HK3 c30b0 co31 q18_ q19_ q24_ u58 u59 q20_ q21_ x9_4 k4 q23_ HK4 c32b0 c33 c33b0 c33b1 c33b2 ji34 hji34 c35b0 c36b0 c37 c37b0 c37b1 c37b2 ji38 hji38 c39b0 c40b0 y357 Ny357 LMc41 y360 Ny360 co42 ad354 hx354_0 hx354_1 HO344 q6_ p354 q354 q26_ q27_ gb355 w43 GW355 GE355 NB340_355 NB355_340 hnb44 hnc44 hcz45_0 hcz45_1 hfz45_0 hfz45_1 ad356 HO353 q15_ q22_ p356 q356 HT_ HW_ w47 hx356_0 hx356_1 hx356_2 hx356_3 v358 w48 HS4_ HS5_ HS6_ HS7_ hHeld v361 w50 HO362 wr u2 u13 u14 u15 u16 u17 u18 q30_ q31_ q32_ x12_5 HO_3 HO_5 HO_7 HO_11 BK340 BK355 HB k5 q33_ HK5 HC51 q34_ q35_ q36_ q37_ wc u82 u83 u84 u85 u86 u87 u88 u89 u90 u91 u92 u93 u94 u95 u96 u97 u98 u99 u100 u101 u102 u103 u104 u105 u106 u107 u108 u109 u110 u111 u112 u113 u114 u115 u116 u117 u118 u119 u120 u121 u122 u123 u124 u125 u126 u127 u128 u129 u130 u131 u132 u133 u134 u135 u136 u137 u138 u139 u140 u141 u142 u143 u144 u145 u146 u147 u148 u149 u150 u151 u152 u153 u154 u155 u156 u157 u158 u159 u160 u161 u162 u163 u164 u165 u166 u167 u168 u169 u170 u171 u172 u173 u174 u175 u176 u177 u178 hcut
 clear HC51
 try clear c1; try clear c2; try clear p2; try clear c3; try clear p3; try clear q3; try clear c4; try clear c5; try clear p6; try clear c14; try clear c14b0; try clear c17; try clear c18; try clear c18b0; try clear c19; try clear c19b0; try clear c25; try clear c26; try clear c27; try clear c28; try clear c29; try clear c30; try clear c30b0; try clear c32; try clear c32b0; try clear c33; try clear c33b0; try clear c33b1; try clear c33b2; try clear c34; try clear p34; try clear q34; try clear c35; try clear c35b0; try clear p35; try clear q35; try clear c36; try clear c36b0; try clear c37; try clear c37b0; try clear c37b1; try clear c37b2; try clear c39; try clear c39b0; try clear c40; try clear c40b0; try clear c41; try clear c44; try clear c52; try clear c52b0; try clear p2; try clear p3; try clear p34; try clear p345; try clear p349; try clear p35; try clear p354; try clear p356; try clear p6; try clear q3; try clear q34; try clear q345; try clear q349; try clear q35; try clear q354; try clear q356
 obtain ⟨kq, x89_50, rfl, HA, HJ50, HO_3, HO_5, HO_7, HO_11, BK340, BK355, HB⟩ := hcut
 cases kq with
 | zero => exact absurd HA.out (by simp [cellarlaw9_MemStores.j5])
 | succ kj50 =>
 have H := HA.out
 clear HA
 simp only [cellarlaw9_MemStores.j5] at H
 by_cases c55 : x89_50 = true
 rotate_left
 ·replace c55 := Bool.eq_false_iff.mpr c55
  subst c55
  have H1 : (cellarlaw9_MemStores.l2 kj50 t342 x4_1 t346 t350 t351 x8_3 (wrap64 (x9_4 + 1)) l0_0 l0_1 l0_2 l0_3) = some r := by rw [if_neg (show ¬ (false = true) by decide)] at H; exact H
  clear H
  have H := H1
  clear H1
  have H' := Aside0.mk H
  clear H
  go_wp2
  go_roundg kj50
  case measure => have := HK1.out; have := HJ12.out; have := HK3.out; have := HK4.out; have := HK5.out; have := HJ50.out; omega
  case rel => exact ⟨(wrap64 (x9_4 + 1)), (zr), H', ⟨by have := HK1.out; have := HJ12.out; have := HK3.out; have := HK4.out; have := HK5.out; have := HJ50.out; omega⟩, ⟨by (with_reducible repeat (first | apply Kd.R_alloc | apply Kd.R_drewN | apply Kd.R_drew)); exact Kd.R_mono HO_3.out (fun _ hk => trivial)⟩, ⟨by (with_reducible repeat (first | apply Kd.S_alloc | apply Kd.S_drewN | apply Kd.S_drew)); exact HO_5.out⟩, ⟨by (with_reducible repeat (first | apply Kd.R_alloc | apply Kd.R_drewN | apply Kd.R_drew)); exact Kd.R_mono HO_7.out (fun _ hk => trivial)⟩, ⟨zb BK340.out⟩, ⟨zw2 HB.out GE340.out GE355.out⟩⟩
 subst c55
 have H1 : (if 0 ≤ x8_3 then (if x8_3 < (t351.length : Int) then (if 0 ≤ x12_5 then (if x12_5 < (y360.length : Int) then ((mem_Store.f kj50 ((rd_T29 t342 (ji34)).f0) ((rd_T29 t342 (ji34)).f1) t346 ((rd_T62 t351 x8_3).f0) ((rd_T62 t351 x8_3).f1) ((rd_T62 t351 x8_3).f2) ((rd_T62 t351 x8_3).f3) x9_4 ((rd_T62 y360 x12_5).f0) ((rd_T62 y360 x12_5).f1) ((rd_T62 y360 x12_5).f2) ((rd_T62 y360 x12_5).f3)).bind fun bt365 => (if t350 = true then ((cellarref1_Abi.f ((rd_T29 t342 (ji34)).f0) ((rd_T29 t342 (ji34)).f1)).bind fun t370 => (if t370 = true then ((cellarref7_Scalar.f kj50 x9_4 ((rd_T62 y360 x12_5).f0) ((rd_T62 y360 x12_5).f1) ((rd_T62 y360 x12_5).f2) ((rd_T62 y360 x12_5).f3)).bind fun t372 => (if t372 = true then ((cellarref7_Pointer.f kj50 t346 ((rd_T62 t351 x8_3).f0) ((rd_T62 t351 x8_3).f1) ((rd_T62 t351 x8_3).f2) ((rd_T62 t351 x8_3).f3)).bind fun t374 => (cellarlaw9_MemStores.j6 kj50 t342 x4_1 t346 t350 t351 x8_3 x9_4 y360 x12_5 bt365.1 bt365.2.1 bt365.2.2 1 0 ([] : List (S76)) t374 l0_0 l0_1 l0_2 l0_3 ((rd_T29 t342 (ji34)).f0) ((rd_T29 t342 (ji34)).f1))) else (cellarlaw9_MemStores.j6 kj50 t342 x4_1 t346 t350 t351 x8_3 x9_4 y360 x12_5 bt365.1 bt365.2.1 bt365.2.2 1 0 ([] : List (S76)) false l0_0 l0_1 l0_2 l0_3 ((rd_T29 t342 (ji34)).f0) ((rd_T29 t342 (ji34)).f1)))) else (cellarlaw9_MemStores.j6 kj50 t342 x4_1 t346 t350 t351 x8_3 x9_4 y360 x12_5 bt365.1 bt365.2.1 bt365.2.2 1 0 ([] : List (S76)) false l0_0 l0_1 l0_2 l0_3 ((rd_T29 t342 (ji34)).f0) ((rd_T29 t342 (ji34)).f1)))) else (cellarlaw9_MemStores.j6 kj50 t342 x4_1 t346 t350 t351 x8_3 x9_4 y360 x12_5 bt365.1 bt365.2.1 bt365.2.2 1 0 ([] : List (S76)) false l0_0 l0_1 l0_2 l0_3 ((rd_T29 t342 (ji34)).f0) ((rd_T29 t342 (ji34)).f1)))) else (none)) else (none)) else (none)) else (none)) = some r := by rw [if_pos rfl] at H; exact H
 clear H
 have H := H1
 clear H1
 by_cases c56 : 0 ≤ x8_3
 rotate_left
 ·rw [if_neg c56] at H
  exact absurd H (by simp)
 rw [if_pos c56] at H
 have c56b0 : decide (0 ≤ x8_3) = true := decide_eq_true c56
 clear c56
 by_cases c57 : x8_3 < (t351.length : Int)
 rotate_left
 ·rw [if_neg c57] at H
  exact absurd H (by simp)
 rw [if_pos c57] at H
 have c57b0 : decide (x8_3 < (t351.length : Int)) = true := decide_eq_true c57
 clear c57
 by_cases c58 : 0 ≤ x12_5
 rotate_left
 ·rw [if_neg c58] at H
  exact absurd H (by simp)
 rw [if_pos c58] at H
 have c58b0 : decide (0 ≤ x12_5) = true := decide_eq_true c58
 clear c58
 by_cases c59 : x12_5 < (y360.length : Int)
 rotate_left
 ·rw [if_neg c59] at H
  exact absurd H (by simp)
 rw [if_pos c59] at H
 have c59b0 : decide (x12_5 < (y360.length : Int)) = true := decide_eq_true c59
 clear c59
 replace H := Option.bind_eq_some_iff.mp H
 obtain ⟨⟨t365, t368, t369⟩, A600, H⟩ := H
 replace H : (if t350 = true then ((cellarref1_Abi.f ((rd_T29 t342 (ji34)).f0) ((rd_T29 t342 (ji34)).f1)).bind fun t370 => (if t370 = true then ((cellarref7_Scalar.f kj50 x9_4 ((rd_T62 y360 x12_5).f0) ((rd_T62 y360 x12_5).f1) ((rd_T62 y360 x12_5).f2) ((rd_T62 y360 x12_5).f3)).bind fun t372 => (if t372 = true then ((cellarref7_Pointer.f kj50 t346 ((rd_T62 t351 x8_3).f0) ((rd_T62 t351 x8_3).f1) ((rd_T62 t351 x8_3).f2) ((rd_T62 t351 x8_3).f3)).bind fun t374 => (cellarlaw9_MemStores.j6 kj50 t342 x4_1 t346 t350 t351 x8_3 x9_4 y360 x12_5 t365 t368 t369 1 0 ([] : List (S76)) t374 l0_0 l0_1 l0_2 l0_3 ((rd_T29 t342 (ji34)).f0) ((rd_T29 t342 (ji34)).f1))) else (cellarlaw9_MemStores.j6 kj50 t342 x4_1 t346 t350 t351 x8_3 x9_4 y360 x12_5 t365 t368 t369 1 0 ([] : List (S76)) false l0_0 l0_1 l0_2 l0_3 ((rd_T29 t342 (ji34)).f0) ((rd_T29 t342 (ji34)).f1)))) else (cellarlaw9_MemStores.j6 kj50 t342 x4_1 t346 t350 t351 x8_3 x9_4 y360 x12_5 t365 t368 t369 1 0 ([] : List (S76)) false l0_0 l0_1 l0_2 l0_3 ((rd_T29 t342 (ji34)).f0) ((rd_T29 t342 (ji34)).f1)))) else (cellarlaw9_MemStores.j6 kj50 t342 x4_1 t346 t350 t351 x8_3 x9_4 y360 x12_5 t365 t368 t369 1 0 ([] : List (S76)) false l0_0 l0_1 l0_2 l0_3 ((rd_T29 t342 (ji34)).f0) ((rd_T29 t342 (ji34)).f1))) = some r := H
 have A60 := Aside0.mk A600
 clear A600
 have HC61 := Aside0.mk H
 clear H
 try go_wp2
 have n0_ := Aside0.mk (Kd.R_drew HO_3.out)
 have n1_ := Aside0.mk (Kd.S_drew HO_5.out)
 have n2_ := Aside0.mk (Kd.R_drew HO_7.out)
 have n3_ := Aside0.mk (Kd.R_drew HO_11.out)
 have n4_ := Aside0.mk (blk_drew BK340.out)
 have n5_ := Aside0.mk (blk_drew BK355.out)
 have n6_ := Aside0.mk (below_drew1 HB.out)
 clear HO_3
 clear HO_5
 clear HO_7
 clear HO_11
 clear BK340
 clear BK355
 clear HB
 have HO_3 := n0_
 have HO_5 := n1_
 have HO_7 := n2_
 have HO_11 := n3_
 have BK340 := n4_
 have BK355 := n5_
 have HB := n6_
 clear n0_ n1_ n2_ n3_ n4_ n5_ n6_
 have p363 : 0 ≤ (x8_3 : Int) := zdec
 have q363 : x8_3 < (t351.length : Int) := zdec
 obtain ⟨ad363, e363, hx363_0, hx363_1, hx363_2, hx363_3⟩ := at_T62 (Kd.R_reads' HO_7.out).2.2 x8_3 p363 q363
 obtain rfl : ad356 = ad363 := (by injection e363)
 replace p363 := eq_true p363
 replace q363 := eq_true q363
 obtain ⟨Ao63, co63, eo63⟩ := Kd.R_slice HO_11.out
 (first | subst eo63 | (injection eo63 with f1_ f2_ f3_; have f4_ := f1_.symm; have f5_ := f3_.symm; clear f1_ f2_ f3_; subst f4_; subst f5_))
 have p364 : 0 ≤ (x12_5 : Int) := zdec
 have q364 : x12_5 < (y360.length : Int) := zdec
 obtain ⟨ad364, e364, hx364_0, hx364_1, hx364_2, hx364_3⟩ := at_T62 (Kd.R_reads' HO_11.out).2.2 x12_5 p364 q364
 cases e364
 replace p364 := eq_true p364
 replace q364 := eq_true q364
 refine start_ (n := 19) (S := fun w' => w'.cell? ⟨gb355, 0, none⟩ = some (.bool ((rd_T29 t342 (ji34)).f0)) ∧ w'.cell? ⟨gb355, 1, none⟩ = some (.int .i64 ((rd_T29 t342 (ji34)).f1)) ∧ w'.cell? (ad356.add ((x8_3).toNat * 4)) = some (.bool ((rd_T62 t351 x8_3).f0)) ∧ w'.cell? ⟨(ad356.add ((x8_3).toNat * 4)).block, (ad356.add ((x8_3).toNat * 4)).off + 1, none⟩ = some (.int .i64 ((rd_T62 t351 x8_3).f1)) ∧ w'.cell? ⟨(ad356.add ((x8_3).toNat * 4)).block, (ad356.add ((x8_3).toNat * 4)).off + 2, none⟩ = some (.int .i64 ((rd_T62 t351 x8_3).f2)) ∧ w'.cell? ⟨(ad356.add ((x8_3).toNat * 4)).block, (ad356.add ((x8_3).toNat * 4)).off + 3, none⟩ = some (.int .i64 ((rd_T62 t351 x8_3).f3)) ∧ w'.cell? (ad364.add ((x12_5).toNat * 4)) = some (.bool ((rd_T62 y360 x12_5).f0)) ∧ w'.cell? ⟨(ad364.add ((x12_5).toNat * 4)).block, (ad364.add ((x12_5).toNat * 4)).off + 1, none⟩ = some (.int .i64 ((rd_T62 y360 x12_5).f1)) ∧ w'.cell? ⟨(ad364.add ((x12_5).toNat * 4)).block, (ad364.add ((x12_5).toNat * 4)).off + 2, none⟩ = some (.int .i64 ((rd_T62 y360 x12_5).f2)) ∧ w'.cell? ⟨(ad364.add ((x12_5).toNat * 4)).block, (ad364.add ((x12_5).toNat * 4)).off + 3, none⟩ = some (.int .i64 ((rd_T62 y360 x12_5).f3))) (ds := []) cellarlaw9_MemStores.b15 (by kernel_rfl) rfl rfl ⟨(blk_cell BK355.out 0).trans rfl, (blk_cell BK355.out 1).trans rfl, hx363_0, hx363_1, hx363_2, hx363_3, hx364_0, hx364_1, hx364_2, hx364_3⟩ (fun hHeld => ?_); refine with_tabW cellarlaw9_MemStores.tab21 cellarlaw9_MemStores.bits21 (fun HT_ HW_ => ?_)
 generalize wc.drew = w62 at HO_3 HO_5 HO_7 HO_11 BK340 BK355 HB hx363_0 hx363_1 hx363_2 hx363_3 hx364_0 hx364_1 hx364_2 hx364_3 hHeld ⊢
 refine zq 1 (some 94) HT_ ?_; refine zq 2 (some 95) HT_ ?_; refine zq 3 (some 96) HT_ ?_; refine zq 4 (some 97) HT_ ?_; refine zq 6 (some 99) HT_ ?_; refine zq 7 (some 100) HT_ ?_; refine zq 8 (some 101) HT_ ?_; refine zq 9 (some 102) HT_ ?_; refine zt 0 (some 93) HT_ HW_ hHeld ?_; refine zt 5 (some 98) HT_ HW_ hHeld ?_; refine zt 10 (some 103) HT_ HW_ hHeld ?_
 refine one_ (i := 11) (N := some 104) cellarlaw9_MemStores.b27 rfl rfl (one_of HT_.out (by kernel_rfl)) (by decide) (fun K hK => ?_)
 refine goes_ Try.func30 (by kernel_rfl) rfl #[.agg #[.bool ((rd_T29 t342 (ji34)).f0), .int .i64 ((rd_T29 t342 (ji34)).f1)], .slice Ao28 t346.length co28, .agg #[.bool ((rd_T62 t351 x8_3).f0), .int .i64 ((rd_T62 t351 x8_3).f1), .int .i64 ((rd_T62 t351 x8_3).f2), .int .i64 ((rd_T62 t351 x8_3).f3)], .int .i64 x9_4, .agg #[.bool ((rd_T62 y360 x12_5).f0), .int .i64 ((rd_T62 y360 x12_5).f1), .int .i64 ((rd_T62 y360 x12_5).f2), .int .i64 ((rd_T62 y360 x12_5).f3)]] (by rfl) rfl rfl (by (try simp only [List.map_toArray, List.map_cons, List.map_nil]); first | done | (simp only [hji34]; rfl) | rfl | (simp only [List.length_drop, List.length_take]; rfl)) ?_
 with_reducible refine (mem_Store.calls kj50 ((rd_T29 t342 (ji34)).f0) ((rd_T29 t342 (ji34)).f1) _ _ t346 ((rd_T62 t351 x8_3).f0) ((rd_T62 t351 x8_3).f1) ((rd_T62 t351 x8_3).f2) ((rd_T62 t351 x8_3).f3) x9_4 ((rd_T62 y360 x12_5).f0) ((rd_T62 y360 x12_5).f1) ((rd_T62 y360 x12_5).f2) ((rd_T62 y360 x12_5).f3) t365 t368 t369 _ ?side1 ?side2 A60.out).mono ?_
 (case side1 => repeat (first | exact (Kd.S_reads' HO_5.out).2.2 | (with_reducible refine Kd.C_alloc ?_ _) | (with_reducible refine Kd.C_drewN ?_ _) | (with_reducible refine Kd.C_drew ?_)))
 (case side2 => exact (Kd.S_reads' HO_5.out).2.1)
 rintro e w64 ⟨v366, rfl, ho0, hb⟩
 have HS2_ := (hb.cell (World.block_lt_of_cell? _ _ (hHeld.2.2.1))).trans (hHeld.2.2.1)
 have HS3_ := (hb.cell (World.block_lt_of_cell? _ _ (hHeld.2.2.2.1))).trans (hHeld.2.2.2.1)
 have HS4_ := (hb.cell (World.block_lt_of_cell? _ _ (hHeld.2.2.2.2.1))).trans (hHeld.2.2.2.2.1)
 have HS5_ := (hb.cell (World.block_lt_of_cell? _ _ (hHeld.2.2.2.2.2.1))).trans (hHeld.2.2.2.2.2.1)
 have HS6_ := (hb.cell (World.block_lt_of_cell? _ _ (hHeld.2.2.2.2.2.2.1))).trans (hHeld.2.2.2.2.2.2.1)
 have HS7_ := (hb.cell (World.block_lt_of_cell? _ _ (hHeld.2.2.2.2.2.2.2.1))).trans (hHeld.2.2.2.2.2.2.2.1)
 have HS8_ := (hb.cell (World.block_lt_of_cell? _ _ (hHeld.2.2.2.2.2.2.2.2.1))).trans (hHeld.2.2.2.2.2.2.2.2.1)
 have HS9_ := (hb.cell (World.block_lt_of_cell? _ _ (hHeld.2.2.2.2.2.2.2.2.2))).trans (hHeld.2.2.2.2.2.2.2.2.2)
 refine ⟨_, rfl, ?_⟩
 have SV_HO_3 := HO_3
 have SV_HO_5 := HO_5
 have SV_HO_7 := HO_7
 have SV_HO_11 := HO_11
 have SV_BK340 := BK340
 have SV_BK355 := BK355
 have SV_HB := HB
 have n0_ := Aside0.mk (Kd.R_below (by (with_reducible repeat (first | apply Kd.R_alloc | apply Kd.R_drewN | apply Kd.R_drew)); exact HO_3.out) hb)
 have n1_ := Aside0.mk (Kd.S_elder' (by (with_reducible repeat (first | apply Kd.S_alloc | apply Kd.S_drewN | apply Kd.S_drew)); exact HO_5.out) (Kd.S_base ho0) hb)
 have n2_ := Aside0.mk (Kd.R_below (by (with_reducible repeat (first | apply Kd.R_alloc | apply Kd.R_drewN | apply Kd.R_drew)); exact HO_7.out) hb)
 have n3_ := Aside0.mk (Kd.R_below (by (with_reducible repeat (first | apply Kd.R_alloc | apply Kd.R_drewN | apply Kd.R_drew)); exact HO_11.out) hb)
 have n4_ := Aside0.mk (Kd.S_new' ho0 (Kd.S_lt (by (with_reducible repeat (first | apply Kd.S_alloc | apply Kd.S_drewN | apply Kd.S_drew)); exact HO_5.out)))
 have n5_ := Aside0.mk (zbb BK340.out hb)
 have n6_ := Aside0.mk (zbb BK355.out hb)
 have n7_ := Aside0.mk (hb)
 clear HO_3
 clear HO_5
 clear HO_7
 clear HO_11
 clear BK340
 clear BK355
 clear HB
 have HO_3 := n0_
 have HO_5 := n1_
 have HO_7 := n2_
 have HO_11 := n3_
 have HO367 := n4_
 have BK340 := n5_
 have BK355 := n6_
 have HB := n7_
 clear n0_ n1_ n2_ n3_ n4_ n5_ n6_ n7_
 (try clear hb)
 (try clear hb2)
 (try clear hk)
 (try clear hi)
 (try clear ho0)
 refine hK.out _ _ ⟨(blk_cell BK355.out 0).trans rfl, (blk_cell BK355.out 1).trans rfl, HS2_, HS3_, HS4_, HS5_, HS6_, HS7_, HS8_, HS9_⟩ (fun hHeld => ?_)
 clear hK K
 refine norm_ (a' := ?_) ?_ ?_
 rotate_left
 ·show Act.put _ (some 104) _ = _
  simp only [Act.put, List.setIfInBounds_toArray, List.set_cons_zero, List.set_cons_succ, i64_w, i32_w]
  rfl
 refine zq 12 (some 92) HT_ ?_; refine zq 13 (some 105) HT_ ?_; refine zq 14 (some 106) HT_ ?_; refine zq 15 (some 107) HT_ ?_; refine zq 16 (some 13) HT_ ?_; refine zq 17 (some 14) HT_ ?_; refine zq 18 (some 15) HT_ ?_
 refine done_ (done_of HT_.out (by kernel_rfl)) ?_
 go_upto_region 24 with (fail)
 go_cut [128] (fun v128 wc => ∃ (kq : Nat) (x128_60 : Bool), v128 = .bool x128_60 ∧ Aside0 (cellarlaw9_MemStores.j6 kq t342 x4_1 t346 t350 t351 x8_3 x9_4 y360 x12_5 t365 t368 t369 1 0 ([] : List (S76)) x128_60 l0_0 l0_1 l0_2 l0_3 ((rd_T29 t342 (ji34)).f0) ((rd_T29 t342 (ji34)).f1) = some r) ∧ Aside0 (kq ≤ kj50) ∧ Aside0 (Kd.R k29 29 wc w.heap.size (fun k_ => k_ ≠ gb355) (.slice (some ad354) t342.length co42) t342) ∧ Aside0 (Kd.S k76 76 wc w.heap.size (fun k_ => some k_ ≠ (v366 : Value).ownBlock ∧ some k_ ≠ ((.slice none 0 0) : Value).ownBlock) (.slice Ao28 t346.length co28) t346) ∧ Aside0 (Kd.R k62 62 wc w.heap.size (fun k_ => some k_ ≠ ((.slice (some ad364) y360.length co63) : Value).ownBlock) (.slice (some ad356) t351.length co31) t351) ∧ Aside0 (Kd.R k62 62 wc w.heap.size (fun k_ => some k_ ≠ ((.slice (some ad356) t351.length co31) : Value).ownBlock) (.slice (some ad364) y360.length co63) y360) ∧ Aside0 (Kd.S k76 76 wc w62.heap.size (fun k_ => some k_ ≠ ((.slice Ao28 t346.length co28) : Value).ownBlock ∧ some k_ ≠ ((.slice none 0 0) : Value).ownBlock) v366 t365) ∧ Aside0 (Kd.S k76 76 wc w.heap.size (fun k_ => some k_ ≠ ((.slice Ao28 t346.length co28) : Value).ownBlock ∧ some k_ ≠ (v366 : Value).ownBlock) (.slice none 0 0) ([] : List (S76))) ∧ Aside0 (wc.heap[gb340]? = some (.cells #[(.slice (some ad345) l0_0.length c0_0), (.slice A0_1 l0_1.length c0_1), (.slice A0_2 l0_2.length c0_2), (.slice A0_3 l0_3.length c0_3)] 54 (0, 0))) ∧ Aside0 (wc.heap[gb355]? = some (.cells #[.bool ((rd_T29 t342 (ji34)).f0), .int .i64 ((rd_T29 t342 (ji34)).f1)] 29 (0, 0))) ∧ Aside0 (Below w62.heap.size w62 wc))
 case first =>
  have H := HC61.out
  clear HC61
  by_cases c65 : t350 = true
  rotate_left
  ·replace c65 := Bool.eq_false_iff.mpr c65
   subst c65
   have H1 : (cellarlaw9_MemStores.j6 kj50 t342 x4_1 t346 false t351 x8_3 x9_4 y360 x12_5 t365 t368 t369 1 0 ([] : List (S76)) false l0_0 l0_1 l0_2 l0_3 ((rd_T29 t342 (ji34)).f0) ((rd_T29 t342 (ji34)).f1)) = some r := by rw [if_neg (show ¬ (false = true) by decide)] at H; exact H
   clear H
   have H := H1
   clear H1
   have H' := Aside0.mk H
   clear H
   go_wp2
   go_meet
   case rel => exact ⟨_, (false), (zr), H', ⟨by have := HK1.out; have := HJ12.out; have := HK3.out; have := HK4.out; have := HK5.out; have := HJ50.out; first | omega | exact Nat.le_refl _⟩, ⟨by (with_reducible repeat (first | apply Kd.R_alloc | apply Kd.R_drewN | apply Kd.R_drew)); exact HO_3.out⟩, ⟨by (with_reducible repeat (first | apply Kd.S_alloc | apply Kd.S_drewN | apply Kd.S_drew)); exact Kd.S_mono HO_5.out (fun _ hk => ⟨hk.2, (by simp [Value.ownBlock])⟩)⟩, ⟨by (with_reducible repeat (first | apply Kd.R_alloc | apply Kd.R_drewN | apply Kd.R_drew)); exact HO_7.out⟩, ⟨by (with_reducible repeat (first | apply Kd.R_alloc | apply Kd.R_drewN | apply Kd.R_drew)); exact HO_11.out⟩, ⟨by (with_reducible repeat (first | apply Kd.S_alloc | apply Kd.S_drewN | apply Kd.S_drew)); exact Kd.S_mono HO367.out (fun _ hk => ⟨hk.2, (by simp [Value.ownBlock])⟩)⟩, ⟨by first | exact Kd.S_nil _ _ _ _ _ | exact Kd.N_nil _ _ _ _ _ | exact Kd.V_nil _ _ _ _ _ | exact Kd.Q_nil _ _ _ _ _ | exact Kd.R_nil _ _ _ _ _⟩, ⟨zb BK340.out⟩, ⟨zb BK355.out⟩, ⟨zw2 HB.out GE340.out GE355.out⟩⟩
  subst c65
  have H1 : ((cellarref1_Abi.f ((rd_T29 t342 (ji34)).f0) ((rd_T29 t342 (ji34)).f1)).bind fun t370 => (if t370 = true then ((cellarref7_Scalar.f kj50 x9_4 ((rd_T62 y360 x12_5).f0) ((rd_T62 y360 x12_5).f1) ((rd_T62 y360 x12_5).f2) ((rd_T62 y360 x12_5).f3)).bind fun t372 => (if t372 = true then ((cellarref7_Pointer.f kj50 t346 ((rd_T62 t351 x8_3).f0) ((rd_T62 t351 x8_3).f1) ((rd_T62 t351 x8_3).f2) ((rd_T62 t351 x8_3).f3)).bind fun t374 => (cellarlaw9_MemStores.j6 kj50 t342 x4_1 t346 true t351 x8_3 x9_4 y360 x12_5 t365 t368 t369 1 0 ([] : List (S76)) t374 l0_0 l0_1 l0_2 l0_3 ((rd_T29 t342 (ji34)).f0) ((rd_T29 t342 (ji34)).f1))) else (cellarlaw9_MemStores.j6 kj50 t342 x4_1 t346 true t351 x8_3 x9_4 y360 x12_5 t365 t368 t369 1 0 ([] : List (S76)) false l0_0 l0_1 l0_2 l0_3 ((rd_T29 t342 (ji34)).f0) ((rd_T29 t342 (ji34)).f1)))) else (cellarlaw9_MemStores.j6 kj50 t342 x4_1 t346 true t351 x8_3 x9_4 y360 x12_5 t365 t368 t369 1 0 ([] : List (S76)) false l0_0 l0_1 l0_2 l0_3 ((rd_T29 t342 (ji34)).f0) ((rd_T29 t342 (ji34)).f1)))) = some r := by rw [if_pos rfl] at H; exact H
  clear H
  have H := H1
  clear H1
  replace H := Option.bind_eq_some_iff.mp H
  obtain ⟨t370, A660, H⟩ := H
  replace H : (if t370 = true then ((cellarref7_Scalar.f kj50 x9_4 ((rd_T62 y360 x12_5).f0) ((rd_T62 y360 x12_5).f1) ((rd_T62 y360 x12_5).f2) ((rd_T62 y360 x12_5).f3)).bind fun t372 => (if t372 = true then ((cellarref7_Pointer.f kj50 t346 ((rd_T62 t351 x8_3).f0) ((rd_T62 t351 x8_3).f1) ((rd_T62 t351 x8_3).f2) ((rd_T62 t351 x8_3).f3)).bind fun t374 => (cellarlaw9_MemStores.j6 kj50 t342 x4_1 t346 true t351 x8_3 x9_4 y360 x12_5 t365 t368 t369 1 0 ([] : List (S76)) t374 l0_0 l0_1 l0_2 l0_3 ((rd_T29 t342 (ji34)).f0) ((rd_T29 t342 (ji34)).f1))) else (cellarlaw9_MemStores.j6 kj50 t342 x4_1 t346 true t351 x8_3 x9_4 y360 x12_5 t365 t368 t369 1 0 ([] : List (S76)) false l0_0 l0_1 l0_2 l0_3 ((rd_T29 t342 (ji34)).f0) ((rd_T29 t342 (ji34)).f1)))) else (cellarlaw9_MemStores.j6 kj50 t342 x4_1 t346 true t351 x8_3 x9_4 y360 x12_5 t365 t368 t369 1 0 ([] : List (S76)) false l0_0 l0_1 l0_2 l0_3 ((rd_T29 t342 (ji34)).f0) ((rd_T29 t342 (ji34)).f1))) = some r := H
  have A66 := Aside0.mk A660
  clear A660
  by_cases c67 : t370 = true
  rotate_left
  ·replace c67 := Bool.eq_false_iff.mpr c67
   subst c67
   have H1 : (cellarlaw9_MemStores.j6 kj50 t342 x4_1 t346 true t351 x8_3 x9_4 y360 x12_5 t365 t368 t369 1 0 ([] : List (S76)) false l0_0 l0_1 l0_2 l0_3 ((rd_T29 t342 (ji34)).f0) ((rd_T29 t342 (ji34)).f1)) = some r := by rw [if_neg (show ¬ (false = true) by decide)] at H; exact H
   clear H
   have H := H1
   clear H1
   have H' := Aside0.mk H
   clear H
   have hnb80 := NB355_340.out
   have hnc80 := NB340_355.out
   have hcz81_0 := zc BK355.out 0
   have hcz81_1 := zc BK355.out 1
   have hfz81_0 := blk_frozen BK355.out 0
   have hfz81_1 := blk_frozen BK355.out 1
   go_wp2_with (first | (go_at_call 31; (with_reducible refine (cellarref1_Abi.calls ((rd_T29 t342 (ji34)).f0) ((rd_T29 t342 (ji34)).f1) false _ A66.out).mono ?_); rintro e w82 ⟨rfl, hb⟩; have n0_ := Aside0.mk (Kd.R_below (by (with_reducible repeat (first | apply Kd.R_alloc | apply Kd.R_drewN | apply Kd.R_drew)); exact HO_3.out) hb); have n1_ := Aside0.mk (Kd.S_below (by (with_reducible repeat (first | apply Kd.S_alloc | apply Kd.S_drewN | apply Kd.S_drew)); exact HO_5.out) hb); have n2_ := Aside0.mk (Kd.R_below (by (with_reducible repeat (first | apply Kd.R_alloc | apply Kd.R_drewN | apply Kd.R_drew)); exact HO_7.out) hb); have n3_ := Aside0.mk (Kd.R_below (by (with_reducible repeat (first | apply Kd.R_alloc | apply Kd.R_drewN | apply Kd.R_drew)); exact HO_11.out) hb); have n4_ := Aside0.mk (Kd.S_below (by (with_reducible repeat (first | apply Kd.S_alloc | apply Kd.S_drewN | apply Kd.S_drew)); exact HO367.out) hb); have n5_ := Aside0.mk (zbb BK340.out hb); have n6_ := Aside0.mk (zbb BK355.out hb); have n7_ := Aside0.mk (below_step (zw2 HB.out GE340.out GE355.out) hb); clear HO_3 HO_5 HO_7 HO_11 HO367 BK340 BK355 HB; have HO_3 := n0_; have HO_5 := n1_; have HO_7 := n2_; have HO_11 := n3_; have HO367 := n4_; have BK340 := n5_; have BK355 := n6_; have HB := n7_; clear n0_ n1_ n2_ n3_ n4_ n5_ n6_ n7_; (try clear hb); (try clear hb2); (try clear hk); (try clear hi)))
   go_meet
   case rel => exact ⟨_, (false), (zr), H', ⟨by have := HK1.out; have := HJ12.out; have := HK3.out; have := HK4.out; have := HK5.out; have := HJ50.out; first | omega | exact Nat.le_refl _⟩, ⟨by (with_reducible repeat (first | apply Kd.R_alloc | apply Kd.R_drewN | apply Kd.R_drew)); exact HO_3.out⟩, ⟨by (with_reducible repeat (first | apply Kd.S_alloc | apply Kd.S_drewN | apply Kd.S_drew)); exact Kd.S_mono HO_5.out (fun _ hk => ⟨hk.2, (by simp [Value.ownBlock])⟩)⟩, ⟨by (with_reducible repeat (first | apply Kd.R_alloc | apply Kd.R_drewN | apply Kd.R_drew)); exact HO_7.out⟩, ⟨by (with_reducible repeat (first | apply Kd.R_alloc | apply Kd.R_drewN | apply Kd.R_drew)); exact HO_11.out⟩, ⟨by (with_reducible repeat (first | apply Kd.S_alloc | apply Kd.S_drewN | apply Kd.S_drew)); exact Kd.S_mono HO367.out (fun _ hk => ⟨hk.2, (by simp [Value.ownBlock])⟩)⟩, ⟨by first | exact Kd.S_nil _ _ _ _ _ | exact Kd.N_nil _ _ _ _ _ | exact Kd.V_nil _ _ _ _ _ | exact Kd.Q_nil _ _ _ _ _ | exact Kd.R_nil _ _ _ _ _⟩, ⟨zb BK340.out⟩, ⟨zb BK355.out⟩, ⟨zw2 HB.out GE340.out GE355.out⟩⟩
  subst c67
  have H1 : ((cellarref7_Scalar.f kj50 x9_4 ((rd_T62 y360 x12_5).f0) ((rd_T62 y360 x12_5).f1) ((rd_T62 y360 x12_5).f2) ((rd_T62 y360 x12_5).f3)).bind fun t372 => (if t372 = true then ((cellarref7_Pointer.f kj50 t346 ((rd_T62 t351 x8_3).f0) ((rd_T62 t351 x8_3).f1) ((rd_T62 t351 x8_3).f2) ((rd_T62 t351 x8_3).f3)).bind fun t374 => (cellarlaw9_MemStores.j6 kj50 t342 x4_1 t346 true t351 x8_3 x9_4 y360 x12_5 t365 t368 t369 1 0 ([] : List (S76)) t374 l0_0 l0_1 l0_2 l0_3 ((rd_T29 t342 (ji34)).f0) ((rd_T29 t342 (ji34)).f1))) else (cellarlaw9_MemStores.j6 kj50 t342 x4_1 t346 true t351 x8_3 x9_4 y360 x12_5 t365 t368 t369 1 0 ([] : List (S76)) false l0_0 l0_1 l0_2 l0_3 ((rd_T29 t342 (ji34)).f0) ((rd_T29 t342 (ji34)).f1)))) = some r := by rw [if_pos rfl] at H; exact H
  clear H
  have H := H1
  clear H1
  replace H := Option.bind_eq_some_iff.mp H
  obtain ⟨t372, A680, H⟩ := H
  replace H : (if t372 = true then ((cellarref7_Pointer.f kj50 t346 ((rd_T62 t351 x8_3).f0) ((rd_T62 t351 x8_3).f1) ((rd_T62 t351 x8_3).f2) ((rd_T62 t351 x8_3).f3)).bind fun t374 => (cellarlaw9_MemStores.j6 kj50 t342 x4_1 t346 true t351 x8_3 x9_4 y360 x12_5 t365 t368 t369 1 0 ([] : List (S76)) t374 l0_0 l0_1 l0_2 l0_3 ((rd_T29 t342 (ji34)).f0) ((rd_T29 t342 (ji34)).f1))) else (cellarlaw9_MemStores.j6 kj50 t342 x4_1 t346 true t351 x8_3 x9_4 y360 x12_5 t365 t368 t369 1 0 ([] : List (S76)) false l0_0 l0_1 l0_2 l0_3 ((rd_T29 t342 (ji34)).f0) ((rd_T29 t342 (ji34)).f1))) = some r := H
  have A68 := Aside0.mk A680
  clear A680
  by_cases c69 : t372 = true
  rotate_left
  ·replace c69 := Bool.eq_false_iff.mpr c69
   subst c69
   have H1 : (cellarlaw9_MemStores.j6 kj50 t342 x4_1 t346 true t351 x8_3 x9_4 y360 x12_5 t365 t368 t369 1 0 ([] : List (S76)) false l0_0 l0_1 l0_2 l0_3 ((rd_T29 t342 (ji34)).f0) ((rd_T29 t342 (ji34)).f1)) = some r := by rw [if_neg (show ¬ (false = true) by decide)] at H; exact H
   clear H
   have H := H1
   clear H1
   have H' := Aside0.mk H
   clear H
   have hnb76 := NB355_340.out
   have hnc76 := NB340_355.out
   have hcz77_0 := zc BK355.out 0
   have hcz77_1 := zc BK355.out 1
   have hfz77_0 := blk_frozen BK355.out 0
   have hfz77_1 := blk_frozen BK355.out 1
   go_wp2_with (first | (go_at_call 31; (with_reducible refine (cellarref1_Abi.calls ((rd_T29 t342 (ji34)).f0) ((rd_T29 t342 (ji34)).f1) true _ A66.out).mono ?_); rintro e w78 ⟨rfl, hb⟩; have n0_ := Aside0.mk (Kd.R_below (by (with_reducible repeat (first | apply Kd.R_alloc | apply Kd.R_drewN | apply Kd.R_drew)); exact HO_3.out) hb); have n1_ := Aside0.mk (Kd.S_below (by (with_reducible repeat (first | apply Kd.S_alloc | apply Kd.S_drewN | apply Kd.S_drew)); exact HO_5.out) hb); have n2_ := Aside0.mk (Kd.R_below (by (with_reducible repeat (first | apply Kd.R_alloc | apply Kd.R_drewN | apply Kd.R_drew)); exact HO_7.out) hb); have n3_ := Aside0.mk (Kd.R_below (by (with_reducible repeat (first | apply Kd.R_alloc | apply Kd.R_drewN | apply Kd.R_drew)); exact HO_11.out) hb); have n4_ := Aside0.mk (Kd.S_below (by (with_reducible repeat (first | apply Kd.S_alloc | apply Kd.S_drewN | apply Kd.S_drew)); exact HO367.out) hb); have n5_ := Aside0.mk (zbb BK340.out hb); have n6_ := Aside0.mk (zbb BK355.out hb); have n7_ := Aside0.mk (below_step (zw2 HB.out GE340.out GE355.out) hb); clear HO_3 HO_5 HO_7 HO_11 HO367 BK340 BK355 HB; have HO_3 := n0_; have HO_5 := n1_; have HO_7 := n2_; have HO_11 := n3_; have HO367 := n4_; have BK340 := n5_; have BK355 := n6_; have HB := n7_; clear n0_ n1_ n2_ n3_ n4_ n5_ n6_ n7_; (try clear hb); (try clear hb2); (try clear hk); (try clear hi); have p371 : 0 ≤ (x12_5 : Int) := zdec; have q371 : x12_5 < (y360.length : Int) := zdec; obtain ⟨ad371, e371, hx371_0, hx371_1, hx371_2, hx371_3⟩ := at_T62 (Kd.R_reads' HO_11.out).2.2 x12_5 p371 q371; obtain rfl : ad364 = ad371 := (by injection e371); replace p371 := eq_true p371; replace q371 := eq_true q371) | (go_at_call 32; (with_reducible refine (cellarref7_Scalar.calls kj50 x9_4 ((rd_T62 y360 x12_5).f0) ((rd_T62 y360 x12_5).f1) ((rd_T62 y360 x12_5).f2) ((rd_T62 y360 x12_5).f3) false _ A68.out).mono ?_); rintro e w79 ⟨rfl, hb⟩; have n0_ := Aside0.mk (Kd.R_below (by (with_reducible repeat (first | apply Kd.R_alloc | apply Kd.R_drewN | apply Kd.R_drew)); exact HO_3.out) hb); have n1_ := Aside0.mk (Kd.S_below (by (with_reducible repeat (first | apply Kd.S_alloc | apply Kd.S_drewN | apply Kd.S_drew)); exact HO_5.out) hb); have n2_ := Aside0.mk (Kd.R_below (by (with_reducible repeat (first | apply Kd.R_alloc | apply Kd.R_drewN | apply Kd.R_drew)); exact HO_7.out) hb); have n3_ := Aside0.mk (Kd.R_below (by (with_reducible repeat (first | apply Kd.R_alloc | apply Kd.R_drewN | apply Kd.R_drew)); exact HO_11.out) hb); have n4_ := Aside0.mk (Kd.S_below (by (with_reducible repeat (first | apply Kd.S_alloc | apply Kd.S_drewN | apply Kd.S_drew)); exact HO367.out) hb); have n5_ := Aside0.mk (zbb BK340.out hb); have n6_ := Aside0.mk (zbb BK355.out hb); have n7_ := Aside0.mk (below_step (zw2 HB.out GE340.out GE355.out) hb); clear HO_3 HO_5 HO_7 HO_11 HO367 BK340 BK355 HB; have HO_3 := n0_; have HO_5 := n1_; have HO_7 := n2_; have HO_11 := n3_; have HO367 := n4_; have BK340 := n5_; have BK355 := n6_; have HB := n7_; clear n0_ n1_ n2_ n3_ n4_ n5_ n6_ n7_; (try clear hb); (try clear hb2); (try clear hk); (try clear hi)))
   go_meet
   case rel => exact ⟨_, (false), (zr), H', ⟨by have := HK1.out; have := HJ12.out; have := HK3.out; have := HK4.out; have := HK5.out; have := HJ50.out; first | omega | exact Nat.le_refl _⟩, ⟨by (with_reducible repeat (first | apply Kd.R_alloc | apply Kd.R_drewN | apply Kd.R_drew)); exact HO_3.out⟩, ⟨by (with_reducible repeat (first | apply Kd.S_alloc | apply Kd.S_drewN | apply Kd.S_drew)); exact Kd.S_mono HO_5.out (fun _ hk => ⟨hk.2, (by simp [Value.ownBlock])⟩)⟩, ⟨by (with_reducible repeat (first | apply Kd.R_alloc | apply Kd.R_drewN | apply Kd.R_drew)); exact HO_7.out⟩, ⟨by (with_reducible repeat (first | apply Kd.R_alloc | apply Kd.R_drewN | apply Kd.R_drew)); exact HO_11.out⟩, ⟨by (with_reducible repeat (first | apply Kd.S_alloc | apply Kd.S_drewN | apply Kd.S_drew)); exact Kd.S_mono HO367.out (fun _ hk => ⟨hk.2, (by simp [Value.ownBlock])⟩)⟩, ⟨by first | exact Kd.S_nil _ _ _ _ _ | exact Kd.N_nil _ _ _ _ _ | exact Kd.V_nil _ _ _ _ _ | exact Kd.Q_nil _ _ _ _ _ | exact Kd.R_nil _ _ _ _ _⟩, ⟨zb BK340.out⟩, ⟨zb BK355.out⟩, ⟨zw2 HB.out GE340.out GE355.out⟩⟩
  subst c69
  have H1 : ((cellarref7_Pointer.f kj50 t346 ((rd_T62 t351 x8_3).f0) ((rd_T62 t351 x8_3).f1) ((rd_T62 t351 x8_3).f2) ((rd_T62 t351 x8_3).f3)).bind fun t374 => (cellarlaw9_MemStores.j6 kj50 t342 x4_1 t346 true t351 x8_3 x9_4 y360 x12_5 t365 t368 t369 1 0 ([] : List (S76)) t374 l0_0 l0_1 l0_2 l0_3 ((rd_T29 t342 (ji34)).f0) ((rd_T29 t342 (ji34)).f1))) = some r := by rw [if_pos rfl] at H; exact H
  clear H
  have H := H1
  clear H1
  replace H := Option.bind_eq_some_iff.mp H
  obtain ⟨t374, A700, H⟩ := H
  replace H : (cellarlaw9_MemStores.j6 kj50 t342 x4_1 t346 true t351 x8_3 x9_4 y360 x12_5 t365 t368 t369 1 0 ([] : List (S76)) t374 l0_0 l0_1 l0_2 l0_3 ((rd_T29 t342 (ji34)).f0) ((rd_T29 t342 (ji34)).f1)) = some r := H
  have A70 := Aside0.mk A700
  clear A700
  have H' := Aside0.mk H
  clear H
  have hnb71 := NB355_340.out
  have hnc71 := NB340_355.out
  have hcz72_0 := zc BK355.out 0
  have hcz72_1 := zc BK355.out 1
  have hfz72_0 := blk_frozen BK355.out 0
  have hfz72_1 := blk_frozen BK355.out 1
  go_wp2_with (first | (go_at_call 31; (with_reducible refine (cellarref1_Abi.calls ((rd_T29 t342 (ji34)).f0) ((rd_T29 t342 (ji34)).f1) true _ A66.out).mono ?_); rintro e w73 ⟨rfl, hb⟩; have n0_ := Aside0.mk (Kd.R_below (by (with_reducible repeat (first | apply Kd.R_alloc | apply Kd.R_drewN | apply Kd.R_drew)); exact HO_3.out) hb); have n1_ := Aside0.mk (Kd.S_below (by (with_reducible repeat (first | apply Kd.S_alloc | apply Kd.S_drewN | apply Kd.S_drew)); exact HO_5.out) hb); have n2_ := Aside0.mk (Kd.R_below (by (with_reducible repeat (first | apply Kd.R_alloc | apply Kd.R_drewN | apply Kd.R_drew)); exact HO_7.out) hb); have n3_ := Aside0.mk (Kd.R_below (by (with_reducible repeat (first | apply Kd.R_alloc | apply Kd.R_drewN | apply Kd.R_drew)); exact HO_11.out) hb); have n4_ := Aside0.mk (Kd.S_below (by (with_reducible repeat (first | apply Kd.S_alloc | apply Kd.S_drewN | apply Kd.S_drew)); exact HO367.out) hb); have n5_ := Aside0.mk (zbb BK340.out hb); have n6_ := Aside0.mk (zbb BK355.out hb); have n7_ := Aside0.mk (below_step (zw2 HB.out GE340.out GE355.out) hb); clear HO_3 HO_5 HO_7 HO_11 HO367 BK340 BK355 HB; have HO_3 := n0_; have HO_5 := n1_; have HO_7 := n2_; have HO_11 := n3_; have HO367 := n4_; have BK340 := n5_; have BK355 := n6_; have HB := n7_; clear n0_ n1_ n2_ n3_ n4_ n5_ n6_ n7_; (try clear hb); (try clear hb2); (try clear hk); (try clear hi); have p371 : 0 ≤ (x12_5 : Int) := zdec; have q371 : x12_5 < (y360.length : Int) := zdec; obtain ⟨ad371, e371, hx371_0, hx371_1, hx371_2, hx371_3⟩ := at_T62 (Kd.R_reads' HO_11.out).2.2 x12_5 p371 q371; obtain rfl : ad364 = ad371 := (by injection e371); replace p371 := eq_true p371; replace q371 := eq_true q371) | (go_at_call 32; (with_reducible refine (cellarref7_Scalar.calls kj50 x9_4 ((rd_T62 y360 x12_5).f0) ((rd_T62 y360 x12_5).f1) ((rd_T62 y360 x12_5).f2) ((rd_T62 y360 x12_5).f3) true _ A68.out).mono ?_); rintro e w74 ⟨rfl, hb⟩; have n0_ := Aside0.mk (Kd.R_below (by (with_reducible repeat (first | apply Kd.R_alloc | apply Kd.R_drewN | apply Kd.R_drew)); exact HO_3.out) hb); have n1_ := Aside0.mk (Kd.S_below (by (with_reducible repeat (first | apply Kd.S_alloc | apply Kd.S_drewN | apply Kd.S_drew)); exact HO_5.out) hb); have n2_ := Aside0.mk (Kd.R_below (by (with_reducible repeat (first | apply Kd.R_alloc | apply Kd.R_drewN | apply Kd.R_drew)); exact HO_7.out) hb); have n3_ := Aside0.mk (Kd.R_below (by (with_reducible repeat (first | apply Kd.R_alloc | apply Kd.R_drewN | apply Kd.R_drew)); exact HO_11.out) hb); have n4_ := Aside0.mk (Kd.S_below (by (with_reducible repeat (first | apply Kd.S_alloc | apply Kd.S_drewN | apply Kd.S_drew)); exact HO367.out) hb); have n5_ := Aside0.mk (zbb BK340.out hb); have n6_ := Aside0.mk (zbb BK355.out hb); have n7_ := Aside0.mk (below_step (zw2 HB.out GE340.out GE355.out) hb); clear HO_3 HO_5 HO_7 HO_11 HO367 BK340 BK355 HB; have HO_3 := n0_; have HO_5 := n1_; have HO_7 := n2_; have HO_11 := n3_; have HO367 := n4_; have BK340 := n5_; have BK355 := n6_; have HB := n7_; clear n0_ n1_ n2_ n3_ n4_ n5_ n6_ n7_; (try clear hb); (try clear hb2); (try clear hk); (try clear hi); have p373 : 0 ≤ (x8_3 : Int) := zdec; have q373 : x8_3 < (t351.length : Int) := zdec; obtain ⟨ad373, e373, hx373_0, hx373_1, hx373_2, hx373_3⟩ := at_T62 (Kd.R_reads' HO_7.out).2.2 x8_3 p373 q373; obtain rfl : ad356 = ad373 := (by injection e373); replace p373 := eq_true p373; replace q373 := eq_true q373) | (go_at_call 33; (with_reducible refine (cellarref7_Pointer.calls kj50 _ _ t346 ((rd_T62 t351 x8_3).f0) ((rd_T62 t351 x8_3).f1) ((rd_T62 t351 x8_3).f2) ((rd_T62 t351 x8_3).f3) t374 _ ?side1 ?side2 A70.out).mono ?_); (case side1 => repeat (first | exact (Kd.S_reads' HO_5.out).2.2 | (with_reducible refine Kd.C_alloc ?_ _) | (with_reducible refine Kd.C_drewN ?_ _) | (with_reducible refine Kd.C_drew ?_))); (case side2 => exact (Kd.S_reads' HO_5.out).2.1); rintro e w75 ⟨rfl, hb⟩; have n0_ := Aside0.mk (Kd.R_below (by (with_reducible repeat (first | apply Kd.R_alloc | apply Kd.R_drewN | apply Kd.R_drew)); exact HO_3.out) hb); have n1_ := Aside0.mk (Kd.S_below (by (with_reducible repeat (first | apply Kd.S_alloc | apply Kd.S_drewN | apply Kd.S_drew)); exact HO_5.out) hb); have n2_ := Aside0.mk (Kd.R_below (by (with_reducible repeat (first | apply Kd.R_alloc | apply Kd.R_drewN | apply Kd.R_drew)); exact HO_7.out) hb); have n3_ := Aside0.mk (Kd.R_below (by (with_reducible repeat (first | apply Kd.R_alloc | apply Kd.R_drewN | apply Kd.R_drew)); exact HO_11.out) hb); have n4_ := Aside0.mk (Kd.S_below (by (with_reducible repeat (first | apply Kd.S_alloc | apply Kd.S_drewN | apply Kd.S_drew)); exact HO367.out) hb); have n5_ := Aside0.mk (zbb BK340.out hb); have n6_ := Aside0.mk (zbb BK355.out hb); have n7_ := Aside0.mk (below_step (zw2 HB.out GE340.out GE355.out) hb); clear HO_3 HO_5 HO_7 HO_11 HO367 BK340 BK355 HB; have HO_3 := n0_; have HO_5 := n1_; have HO_7 := n2_; have HO_11 := n3_; have HO367 := n4_; have BK340 := n5_; have BK355 := n6_; have HB := n7_; clear n0_ n1_ n2_ n3_ n4_ n5_ n6_ n7_; (try clear hb); (try clear hb2); (try clear hk); (try clear hi)))
  go_meet
  case rel => exact ⟨_, (t374), (zr), H', ⟨by have := HK1.out; have := HJ12.out; have := HK3.out; have := HK4.out; have := HK5.out; have := HJ50.out; first | omega | exact Nat.le_refl _⟩, ⟨by (with_reducible repeat (first | apply Kd.R_alloc | apply Kd.R_drewN | apply Kd.R_drew)); exact HO_3.out⟩, ⟨by (with_reducible repeat (first | apply Kd.S_alloc | apply Kd.S_drewN | apply Kd.S_drew)); exact Kd.S_mono HO_5.out (fun _ hk => ⟨hk.2, (by simp [Value.ownBlock])⟩)⟩, ⟨by (with_reducible repeat (first | apply Kd.R_alloc | apply Kd.R_drewN | apply Kd.R_drew)); exact HO_7.out⟩, ⟨by (with_reducible repeat (first | apply Kd.R_alloc | apply Kd.R_drewN | apply Kd.R_drew)); exact HO_11.out⟩, ⟨by (with_reducible repeat (first | apply Kd.S_alloc | apply Kd.S_drewN | apply Kd.S_drew)); exact Kd.S_mono HO367.out (fun _ hk => ⟨hk.2, (by simp [Value.ownBlock])⟩)⟩, ⟨by first | exact Kd.S_nil _ _ _ _ _ | exact Kd.N_nil _ _ _ _ _ | exact Kd.V_nil _ _ _ _ _ | exact Kd.Q_nil _ _ _ _ _ | exact Kd.R_nil _ _ _ _ _⟩, ⟨zb BK340.out⟩, ⟨zb BK355.out⟩, ⟨zw2 HB.out GE340.out GE355.out⟩⟩
 case rest =>
 rename_i q9_ q10_ q17_ q25_ q28_ q29_ q34_ q35_ q36_ q37_ _ _ _ _ _ _ _ _ _ _ _ _ _ _ _ _ _ _ _ _ _ _ _ _ _ _ _ _ _ _ _ _ _ _ _ _ _ _ _ _ _ _ _ _ _ _ _ _ _ _ _ _ _ _ _ _ _ _ _ _ _ _ _ _ _ _ _ _ _ _ _ _ _ _ _ _ _ _ _ _ _ _ _ _ _ _ _ _ _ _ _ _ _ _ _ _ _ q38_ q39_ q40_ q41_ q42_ q43_ q44_ q45_ q46_
 clear q9_ q10_ q17_ q25_ q28_ q29_ q34_ q35_ q36_ q37_ q40_ q41_ q42_
 revert k c0_0 l0_0 A0_1 c0_1 l0_1 A0_2 c0_2 l0_2 A0_3 c0_3 l0_3 r w hu54 hu29 hu62 HC0_0 HR0_1 HC0_1 HR0_2 HC0_2 HR0_3 HC0_3 A2 t342 A7 q1_ gb340 w8 GW340 GE340 hfz9_0 hfz9_1 hfz9_2 hfz9_3 w10 hfz11_0 hfz11_1 hfz11_2 hfz11_3 w12 q2_ q3_ q4_ q5_ x4_1 k1 q7_ HK1 q8_ u24 u25 u26 u27 u28 u29 u30 u31 u33 u34 kj12 HJ12 c18b0 c19b0 t346 A20 t350 A21 t351 A22 hfz23_0 hfz23_1 hfz23_2 hfz23_3 ad345 A345_0 c345_0 HR0_0 hcz9_0 hcz9_1 hcz9_2 hcz9_3 hcz11_0 hcz11_1 hcz11_2 hcz11_3 hcz23_0 hcz23_1 hcz23_2 hcz23_3 hx345_0 HR345_0 HC345_0 p345 q345 q11_ q12_ w24 hcz25_0 hcz25_1 hcz25_2 hcz25_3 hfz25_0 hfz25_1 hfz25_2 hfz25_3 A349_0 c349_0 hx349_0 HR349_0 HC349_0 p349 q349 w26 hcz27_0 hcz27_1 hcz27_2 hcz27_3 hfz27_0 hfz27_1 hfz27_2 hfz27_3 Ao28 co28 w29 HO348 e349 u54 u55 q13_ q14_ x8_3 k3 q16_ HK3 c30b0 co31 q18_ q19_ q24_ u58 u59 q20_ q21_ x9_4 k4 q23_ HK4 c32b0 c33 c33b0 c33b1 c33b2 ji34 hji34 c35b0 c36b0 c37 c37b0 c37b1 c37b2 ji38 hji38 c39b0 c40b0 y357 Ny357 LMc41 y360 Ny360 co42 ad354 hx354_0 hx354_1 HO344 q6_ p354 q354 q26_ q27_ gb355 w43 GW355 GE355 NB340_355 NB355_340 hnb44 hnc44 hcz45_0 hcz45_1 hfz45_0 hfz45_1 ad356 HO353 q15_ q22_ p356 q356 w47 hx356_0 hx356_1 hx356_2 hx356_3 v358 w50 u2 q30_ q31_ x12_5 k5 q33_ HK5 kj50 HJ50 c56b0 c57b0 c58b0 c59b0 t365 t368 t369 A60 HC61 q38_ q39_ e363 p363 q363 co63 ad364 HO362 q32_ p364 q364 HT_ HW_ w62 hx363_0 hx363_1 hx363_2 hx363_3 hx364_0 hx364_1 hx364_2 hx364_3 w64 v366 HS2_ HS3_ HS4_ HS5_ HS6_ HS7_ HS8_ HS9_ SV_HO_3 SV_HO_5 SV_HO_7 SV_HO_11 SV_BK340 SV_BK355 SV_HB HO_3 HO_5 HO_7 HO_11 HO367 BK340 BK355 HB hHeld q43_ q44_ q45_ q46_ wc u82 u83 u84 u85 u86 u87 u88 u89 u90 u91 u92 u93 u94 u95 u96 u97 u98 u99 u100 u101 u102 u103 u104 u105 u106 u107 u108 u109 u110 u111 u112 u113 u114 u115 u116 u117 u118 u119 u120 u121 u122 u123 u124 u125 u126 u127 u128 u129 u130 u131 u132 u133 u134 u135 u136 u137 u138 u139 u140 u141 u142 u143 u144 u145 u146 u147 u148 u149 u150 u151 u152 u153 u154 u155 u156 u157 u158 u159 u160 u161 u162 u163 u164 u165 u166 u167 u168 u169 u170 u171 u172 u173 u174 u175 u176 u177 u178 hcut
 exact cutP1.out
end Go.Proofs.Ytjoplkillkhiaaa.St
