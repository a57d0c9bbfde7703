-- Written by this session's own edition of the print.
import Derived.Test.YtjoplkillkhiaaaStx0
import Derived.Test.YtjoplkillkhiaaaStx2
import Derived.Test.YtjoplkillkhiaaaStx3
import Derived.Test.YtjoplkillkhiaaaStx4
import Derived.Test.YtjoplkillkhiaaaStx7
import Derived.Test.YtjoplkillkhiaaaStx8
import Derived.Test.YtjoplkillkhiaaaStx9
import Derived.Test.YtjoplkillkhiaaaStx10
import Derived.Test.YtjoplkillkhiaaaStx13
import Derived.Test.YtjoplkillkhiaaaZSq
import Derived.Test.YtjoplkillkhiaaaZSq2
import Derived.Test.YtjoplkillkhiaaaZSq3
import Derived.Test.YtjoplkillkhiaaaStx14
import Derived.Test.YtjoplkillkhiaaaCut
import Derived.Test.YtjoplkillkhiaaaSty
import Derived.Test.YtjoplkillkhiaaaStya
import Derived.Test.YtjoplkillkhiaaaStyaa
import Derived.Test.YtjoplkillkhiaaaStyaaa
import Derived.Test.YtjoplkillkhiaaaStyaaaa
namespace Go.Proofs.Ytjoplkillkhiaaa.St
open Go.Proofs.Ytjoplkillkhiaaa.Cuts Go.RowKit Go.Proofs.Ytjoplkillkhiaaa.Fn Go.Proofs.YtjoplkillkhiaaaW.PrintWords Go.Proofs.YtjoplkillkhiaaaW.PrintLast Go.Proofs.YtjoplkillkhiaaaW.PrintMore
set_option linter.unusedVariables false
set_option linter.unusedSimpArgs false
set_option maxHeartbeats 60000000 in
set_option maxRecDepth 100000 in
noncomputable def cellarlaw9_MemStores.cut_aaaaa : Cut1 (cellarlaw9_MemStores.cut_aaaa.P1) := by
 apply Cut1.mk
 case h =>
 intro cutP1
 intro k c0_0 l0_0 A0_1 c0_1 l0_1 A0_2 c0_2 l0_2 A0_3 c0_3 l0_3 r w hu54 hu29 hu62 HC0_0 HR0_1 HC0_1 HR0_2 HC0_2 HR0_3 HC0_3 A2 t342 A7 q1_ gb340 w8 GW340 GE340 hfz9_0 hfz9_1 hfz9_2 hfz9_3 w10 hfz11_0 hfz11_1 hfz11_2 hfz11_3 w12 q2_ q3_ q4_ q5_ x4_1 k1 q7_ HK1 wc u24 u25 u26 u27 u28 u29 u30 u31 u33 u34 kj12 HJ12 c18b0 c19b0 t346 A20 t350 A21 t351 A22 hfz23_0 hfz23_1 hfz23_2 hfz23_3 ad345 A345_0 c345_0 HR0_0 hcz9_0 hcz9_1 hcz9_2 hcz9_3 hcz11_0 hcz11_1 hcz11_2 hcz11_3 hcz23_0 hcz23_1 hcz23_2 hcz23_3 hx345_0 HR345_0 HC345_0 p345 q345 q11_ q12_ w24 hcz25_0 hcz25_1 hcz25_2 hcz25_3 hfz25_0 hfz25_1 hfz25_2 hfz25_3 A349_0 c349_0 hx349_0 HR349_0 HC349_0 p349 q349 w26 hcz27_0 hcz27_1 hcz27_2 hcz27_3 hfz27_0 hfz27_1 hfz27_2 hfz27_3 Ao28 co28 w29 HO348 e349 u54 u55 q13_ q14_ x8_3 k3 q16_ HK3 c30b0 co31 q18_ q19_ q24_ u58 u59 q20_ q21_ x9_4 k4 q23_ HK4 c32b0 c33 c33b0 c33b1 c33b2 ji34 hji34 c35b0 c36b0 c37 c37b0 c37b1 c37b2 ji38 hji38 c39b0 c40b0 y357 Ny357 LMc41 y360 Ny360 H' co42 ad354 hx354_0 hx354_1 HO344 q6_ p354 q354 q26_ q27_ gb355 w43 GW355 GE355 NB340_355 NB355_340 hnb44 hnc44 hcz45_0 hcz45_1 hfz45_0 hfz45_1 ad356 HO353 q15_ q22_ p356 q356 HT_ HW_ w47 hx356_0 hx356_1 hx356_2 hx356_3 v358 w48 HS4_ HS5_ HS6_ HS7_ hHeld v361 w50 HO_3 HO_5 HO_7 BK340 BK355 HB HO362 gk wr u2 u12 u13 u14 u15 u16 u17 u18 u82 u83 u84 u85 u86 u87 u88 u89 u90 u91 u92 u93 u94 u95 u96 u97 u98 u99 u100 u101 u102 u103 u104 u105 u106 u107 u108 u109 u110 u111 u112 u113 u114 u115 u116 u117 u118 u119 u120 u121 u122 u123 u124 u125 u126 u127 u128 u129 u130 u131 u132 u133 u134 u135 u136 u137 u138 u139 u140 u141 u142 u143 u144 u145 u146 u147 u148 u149 u150 u151 u152 u153 u154 u155 u156 u157 u158 u159 u160 u161 u162 u163 u164 u165 u166 u167 u168 u169 u170 u171 u172 u173 u174 u175 u176 u177 u178 hrel q30_ q31_ q32_ q33_
 clear H'
 try clear c1; try clear c2; try clear p2; try clear c3; try clear p3; try clear q3; try clear c4; try clear c5; try clear p6; try clear c14; try clear c14b0; try clear c17; try clear c18; try clear c18b0; try clear c19; try clear c19b0; try clear c25; try clear c26; try clear c27; try clear c28; try clear c29; try clear c30; try clear c30b0; try clear c32; try clear c32b0; try clear c33; try clear c33b0; try clear c33b1; try clear c33b2; try clear c34; try clear p34; try clear q34; try clear c35; try clear c35b0; try clear p35; try clear q35; try clear c36; try clear c36b0; try clear c37; try clear c37b0; try clear c37b1; try clear c37b2; try clear c39; try clear c39b0; try clear c40; try clear c40b0; try clear c41; try clear c44; try clear p2; try clear p3; try clear p345; try clear p349; try clear p354; try clear p356; try clear q3; try clear q345; try clear q349; try clear q354; try clear q356
 obtain ⟨x12_5, rfl, HA, HK5, HO_3, HO_5, HO_7, HO_11, BK340, BK355, HB⟩ := hrel
 cases gk with
 | zero => exact absurd HA.out (by simp [cellarlaw9_MemStores.l3])
 | succ k5 =>
 have H := HA.out
 clear HA
 simp only [cellarlaw9_MemStores.l3] at H
 have HC51 := Aside0.mk H
 clear H
 go_upto_region 19 with (fail)
 go_cut [89] (fun v89 wc => ∃ (kq : Nat) (x89_50 : Bool), v89 = .bool x89_50 ∧ Aside0 (cellarlaw9_MemStores.j5 kq t342 x4_1 t346 t350 t351 x8_3 x9_4 y360 x12_5 x89_50 l0_0 l0_1 l0_2 l0_3 ((rd_T29 t342 (ji34)).f0) ((rd_T29 t342 (ji34)).f1) = some r) ∧ Aside0 (kq ≤ k5) ∧ Aside0 (Kd.R k29 29 wc w.heap.size (fun k_ => k_ ≠ gb355) (.slice (some ad354) t342.length co42) t342) ∧ Aside0 (Kd.S k76 76 wc w.heap.size (fun _ => True) (.slice Ao28 t346.length co28) t346) ∧ Aside0 (Kd.R k62 62 wc w.heap.size (fun k_ => some k_ ≠ (v361 : Value).ownBlock) (.slice (some ad356) t351.length co31) t351) ∧ Aside0 (Kd.R k62 62 wc w.heap.size (fun k_ => some k_ ≠ ((.slice (some ad356) t351.length co31) : Value).ownBlock) v361 y360) ∧ Aside0 (wc.heap[gb340]? = some (.cells #[(.slice (some ad345) l0_0.length c0_0), (.slice A0_1 l0_1.length c0_1), (.slice A0_2 l0_2.length c0_2), (.slice A0_3 l0_3.length c0_3)] 54 (0, 0))) ∧ Aside0 (wc.heap[gb355]? = some (.cells #[.bool ((rd_T29 t342 (ji34)).f0), .int .i64 ((rd_T29 t342 (ji34)).f1)] 29 (0, 0))) ∧ Aside0 (Below w.heap.size w wc))
 case first =>
  have H := HC51.out
  clear HC51
  by_cases c52 : x12_5 < (y360.length : Int)
  rotate_left
  ·rw [if_neg c52] at H
   have c52b0 : decide (x12_5 < (y360.length : Int)) = false := decide_eq_false c52
   clear c52
   (first | rw [c52b0] | (simp only [i64_w, i32_w]; rw [c52b0]) | skip)
   have H' := Aside0.mk H
   clear H
   obtain ⟨Ao54, co54, eo54⟩ := Kd.R_slice HO_11.out
   subst eo54
   go_wp2
   go_meet
   case rel => exact ⟨_, (false), (zr), H', ⟨by have := HK1.out; have := HJ12.out; have := HK3.out; have := HK4.out; have := HK5.out; first | omega | exact Nat.le_refl _⟩, ⟨by (with_reducible repeat (first | apply Kd.R_alloc | apply Kd.R_drewN | apply Kd.R_drew)); exact HO_3.out⟩, ⟨by (with_reducible repeat (first | apply Kd.S_alloc | apply Kd.S_drewN | apply Kd.S_drew)); exact HO_5.out⟩, ⟨by (with_reducible repeat (first | apply Kd.R_alloc | apply Kd.R_drewN | apply Kd.R_drew)); exact HO_7.out⟩, ⟨by (with_reducible repeat (first | apply Kd.R_alloc | apply Kd.R_drewN | apply Kd.R_drew)); exact HO_11.out⟩, ⟨zb BK340.out⟩, ⟨zb BK355.out⟩, ⟨zw2 HB.out GE340.out GE355.out⟩⟩
  rw [if_pos c52] at H
  have c52b0 : decide (x12_5 < (y360.length : Int)) = true := decide_eq_true c52
  clear c52
  (first | rw [c52b0] | (simp only [i64_w, i32_w]; rw [c52b0]) | skip)
  have H' := Aside0.mk H
  clear H
  obtain ⟨Ao53, co53, eo53⟩ := Kd.R_slice HO_11.out
  subst eo53
  go_wp2
  go_meet
  case rel => exact ⟨_, (decide (x12_5 < 4)), (zr), H', ⟨by have := HK1.out; have := HJ12.out; have := HK3.out; have := HK4.out; have := HK5.out; first | omega | exact Nat.le_refl _⟩, ⟨by (with_reducible repeat (first | apply Kd.R_alloc | apply Kd.R_drewN | apply Kd.R_drew)); exact HO_3.out⟩, ⟨by (with_reducible repeat (first | apply Kd.S_alloc | apply Kd.S_drewN | apply Kd.S_drew)); exact HO_5.out⟩, ⟨by (with_reducible repeat (first | apply Kd.R_alloc | apply Kd.R_drewN | apply Kd.R_drew)); exact HO_7.out⟩, ⟨by (with_reducible repeat (first | apply Kd.R_alloc | apply Kd.R_drewN | apply Kd.R_drew)); exact HO_11.out⟩, ⟨zb BK340.out⟩, ⟨zb BK355.out⟩, ⟨zw2 HB.out GE340.out GE355.out⟩⟩
 case rest =>
 rename_i q8_ q9_ q10_ q17_ q25_ q28_ q29_ _ _ _ _ _ _ _ _ _ _ _ _ _ _ _ _ _ _ _ _ _ _ _ _ _ _ _ _ _ _ _ _ _ _ _ _ _ _ _ _ _ _ _ _ _ _ _ _ _ _ _ _ _ _ _ _ _ _ _ _ _ _ _ _ _ _ _ _ _ _ _ _ _ _ _ _ _ _ _ _ _ _ _ _ _ _ _ _ _ _ _ _ _ _ _ _ _ q34_ q35_ q36_ q37_
 clear q9_ q10_ q17_ q25_ q28_ q29_
 revert k c0_0 l0_0 A0_1 c0_1 l0_1 A0_2 c0_2 l0_2 A0_3 c0_3 l0_3 r w hu54 hu29 hu62 HC0_0 HR0_1 HC0_1 HR0_2 HC0_2 HR0_3 HC0_3 A2 t342 A7 q1_ gb340 w8 GW340 GE340 hfz9_0 hfz9_1 hfz9_2 hfz9_3 w10 hfz11_0 hfz11_1 hfz11_2 hfz11_3 w12 q2_ q3_ q4_ q5_ x4_1 k1 q7_ HK1 q8_ u24 u25 u26 u27 u28 u29 u30 u31 u33 u34 kj12 HJ12 c18b0 c19b0 t346 A20 t350 A21 t351 A22 hfz23_0 hfz23_1 hfz23_2 hfz23_3 ad345 A345_0 c345_0 HR0_0 hcz9_0 hcz9_1 hcz9_2 hcz9_3 hcz11_0 hcz11_1 hcz11_2 hcz11_3 hcz23_0 hcz23_1 hcz23_2 hcz23_3 hx345_0 HR345_0 HC345_0 p345 q345 q11_ q12_ w24 hcz25_0 hcz25_1 hcz25_2 hcz25_3 hfz25_0 hfz25_1 hfz25_2 hfz25_3 A349_0 c349_0 hx349_0 HR349_0 HC349_0 p349 q349 w26 hcz27_0 hcz27_1 hcz27_2 hcz27_3 hfz27_0 hfz27_1 hfz27_2 hfz27_3 Ao28 co28 w29 HO348 e349 u54 u55 q13_ q14_ x8_3 k3 q16_ HK3 c30b0 co31 q18_ q19_ q24_ u58 u59 q20_ q21_ x9_4 k4 q23_ HK4 c32b0 c33 c33b0 c33b1 c33b2 ji34 hji34 c35b0 c36b0 c37 c37b0 c37b1 c37b2 ji38 hji38 c39b0 c40b0 y357 Ny357 LMc41 y360 Ny360 co42 ad354 hx354_0 hx354_1 HO344 q6_ p354 q354 q26_ q27_ gb355 w43 GW355 GE355 NB340_355 NB355_340 hnb44 hnc44 hcz45_0 hcz45_1 hfz45_0 hfz45_1 ad356 HO353 q15_ q22_ p356 q356 HT_ HW_ w47 hx356_0 hx356_1 hx356_2 hx356_3 v358 w48 HS4_ HS5_ HS6_ HS7_ hHeld v361 w50 HO362 wr u2 u13 u14 u15 u16 u17 u18 q30_ q31_ q32_ x12_5 HO_3 HO_5 HO_7 HO_11 BK340 BK355 HB k5 q33_ HK5 HC51 q34_ q35_ q36_ q37_ wc u82 u83 u84 u85 u86 u87 u88 u89 u90 u91 u92 u93 u94 u95 u96 u97 u98 u99 u100 u101 u102 u103 u104 u105 u106 u107 u108 u109 u110 u111 u112 u113 u114 u115 u116 u117 u118 u119 u120 u121 u122 u123 u124 u125 u126 u127 u128 u129 u130 u131 u132 u133 u134 u135 u136 u137 u138 u139 u140 u141 u142 u143 u144 u145 u146 u147 u148 u149 u150 u151 u152 u153 u154 u155 u156 u157 u158 u159 u160 u161 u162 u163 u164 u165 u166 u167 u168 u169 u170 u171 u172 u173 u174 u175 u176 u177 u178 hcut
 exact cutP1.out
end Go.Proofs.Ytjoplkillkhiaaa.St
