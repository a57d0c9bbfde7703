-- Written by this session's own edition of the print.
import Derived.Test.YtjoplkillkhiaaaItb
import Derived.Test.YtjoplkillkhiaaaQ2x0
import Derived.Test.YtjoplkillkhiaaaQ2x1
import Derived.Test.YtjoplkillkhiaaaQ2x2
import Derived.Test.YtjoplkillkhiaaaQ2x3
import Derived.Test.YtjoplkillkhiaaaQ2x6
import Derived.Test.YtjoplkillkhiaaaQ2x7
import Derived.Test.YtjoplkillkhiaaaQ2x10
import Derived.Test.YtjoplkillkhiaaaQ2x11
import Derived.Test.YtjoplkillkhiaaaYSq
import Derived.Test.YtjoplkillkhiaaaYSq2
import Derived.Test.YtjoplkillkhiaaaYSq3
import Derived.Test.YtjoplkillkhiaaaQ2x12
import Derived.Test.YtjoplkillkhiaaaCut
import Derived.Test.YtjoplkillkhiaaaQ2y
import Derived.Test.YtjoplkillkhiaaaQ2ya
import Derived.Test.YtjoplkillkhiaaaQ2yaa
import Derived.Test.YtjoplkillkhiaaaQ2yaaa
import Derived.Test.YtjoplkillkhiaaaQ2yaaaa
import Derived.Test.YtjoplkillkhiaaaQ2yaaaab
namespace Go.Proofs.Ytjoplkillkhiaaa.Q2
open Go.Proofs.Ytjoplkillkhiaaa.Cuts Go.RowKit Go.Proofs.Ytjoplkillkhiaaa.Fn Go.Proofs.YtjoplkillkhiaaaW.PrintWords Go.Proofs.YtjoplkillkhiaaaW.PrintLast Go.Proofs.YtjoplkillkhiaaaW.PrintMore
set_option linter.unusedVariables false
set_option linter.unusedSimpArgs false
set_option maxHeartbeats 60000000 in
set_option maxRecDepth 100000 in
noncomputable def cellarlaw9_MemBack.cut_aaaaba : Cut1 (cellarlaw9_MemBack.cut_aaaab.P1) := by
 apply Cut1.mk
 case h =>
 intro cutP1
 intro k c0_0 l0_0 A0_1 c0_1 l0_1 A0_2 c0_2 l0_2 A0_3 c0_3 l0_3 r w hu54 hu29 hu62 hu74 HC0_0 HR0_1 HC0_1 HR0_2 HC0_2 HR0_3 HC0_3 A2 q1_ gb279 w7 GW279 GE279 hfz8_0 hfz8_1 hfz8_2 hfz8_3 q2_ q3_ q4_ q5_ x3_1 k1 q7_ HK1 q8_ u30 u31 u32 u33 u34 u35 u36 u37 u39 u40 kj9 HJ9 c15b0 c16b0 t283 A17 t284 A18 c19b0 c19b1 t286 A20 hfz21_0 hfz21_1 hfz21_2 hfz21_3 ad282 A282_0 c282_0 HR0_0 hcz8_0 hcz8_1 hcz8_2 hcz8_3 q6_ hcz21_0 hcz21_1 hcz21_2 hcz21_3 hx282_0 HR282_0 HC282_0 p282 q282 q10_ q11_ nd A285_0 c285_0 hw285_0 HR285_0 HC285_0 p285 q285 w23 hx285_0 w24 e285 u19 u20 u21 u22 u23 u24 u25 u26 u27 u60 u61 u259 u260 u261 u262 u263 u264 u265 u266 u267 u268 u269 u270 u271 u272 u273 u274 u275 u276 u277 u278 u279 u280 u281 u282 u283 u284 u285 u286 u287 u288 u289 u290 u291 u292 u293 u294 u295 u296 u297 u298 u299 u300 u301 u302 u303 u304 u305 u306 u307 u308 u309 u310 u311 u312 u313 u314 u315 u316 u317 u318 u319 u320 u321 u322 u323 u324 u325 u326 u327 u328 u329 u330 u331 u332 u333 q13_ q14_ x5_3 k3 q16_ HK3 c25b0 co26 q12_ q17_ gb289 w27 GW289 GE289 NB279_289 NB289_279 hnb28 hnc28 hcz29_0 hcz29_1 hfz29_0 hfz29_1 q18_ q19_ wr u2 u12 u13 u14 u15 u16 u17 u18 q20_ q21_ x7_4 k4 q23_ HK4 c30b0 q27_ q28_ gb290 w32 GW290 GE290 NB279_290 NB290_279 NB289_290 NB290_289 hnb33 hnc33 hnb34 hnc34 hcz35_0 hcz35_1 hcz35_2 hcz35_3 hfz35_0 hfz35_1 hfz35_2 hfz35_3 x291000_30 x291001_30 x291002_30 x291003_30 kj30 HJ30 c40b0 c41b0 c42b0 c43b0 t293 t296 t297 A44 HC45 A291_0 c291_0 e291 hw291_0 HR291_0 HC291_0 p291 q291 ad292 HO288 q15_ q22_ p292 q292 HT_ HW_ w46 hx291_0 hx292_0 hx292_1 hx292_2 hx292_3 w47 v294 HS11_ HS12_ HS13_ HS14_ HO_4 HO295 BK279 BK289 BK290 HB hHeld q32_ q33_ q34_ q35_ wc u70 u71 u72 u73 u74 u75 u76 u77 u78 u79 u80 u81 u82 u83 u84 u85 u86 u87 u88 u89 u90 u91 u92 u93 u94 u95 u96 u97 u98 u99 u100 u101 u102 u103 u104 u105 u106 u107 u108 u109 u110 u111 u112 u113 u114 u115 u116 u117 u118 u119 u120 u121 u122 u123 u124 u125 u126 u127 u128 u129 u130 u131 u132 u133 u134 u135 u136 u137 u138 u139 u140 u141 u142 u143 u144 u145 u146 u147 u148 u149 u150 u151 u152 u153 u154 u155 u156 u157 u158 u159 u160 u161 u162 u163 u164 u165 u166 u167 u168 u169 u170 u171 u172 u173 u174 u175 u176 u177 u178 u179 u180 u181 u182 u183 u184 u185 u186 u187 u188 u189 u190 u191 u192 u193 u194 u195 u196 u197 u198 u199 u200 u201 u202 u203 u204 u205 u206 u207 u208 u209 u210 u211 u212 u213 u214 u215 u216 u217 u218 u219 u220 u221 u222 u223 u224 u225 u226 u227 u228 u229 u230 u231 u232 u233 u234 u235 u236 u237 u238 u239 u240 u241 u242 u243 u244 u245 u246 u247 u248 u249 u250 u251 u252 u253 u254 u255 u256 u257 u258 hcut
 clear HC45
 try clear c1; try clear c2; try clear p2; try clear q2; try clear c3; try clear c4; try clear p6; try clear c9; try clear c11; try clear c11b0; try clear c14; try clear c15; try clear c15b0; try clear c16; try clear c16b0; try clear c19; try clear c19b0; try clear c19b1; try clear c25; try clear c25b0; try clear c28; try clear p28; try clear q28; try clear c29; try clear p29; try clear q29; try clear c30; try clear c30b0; try clear c33; try clear c34; try clear c35; try clear c36; try clear c36b0; try clear c36b1; try clear c37; try clear c38; try clear c40; try clear c40b0; try clear c41; try clear c41b0; try clear c42; try clear c42b0; try clear c43; try clear c43b0; try clear c49; try clear c49b0; try clear c49b1; try clear p2; try clear p28; try clear p282; try clear p285; try clear p291; try clear p292; try clear p6; try clear q2; try clear q28; try clear q282; try clear q285; try clear q291; try clear q292
 obtain ⟨kq, x105_44, rfl, HA, HJ44, HO_4, HO_9, BK279, BK289, BK290, HB⟩ := hcut
 cases kq with
 | zero => exact absurd HA.out (by simp [cellarlaw9_MemBack.j5])
 | succ kj44 =>
 have H := HA.out
 clear HA
 simp only [cellarlaw9_MemBack.j5] at H
 by_cases c50 : x105_44 = true
 ·subst c50
  have H1 : ((cellarlaw9_num.f t297).bind fun t299 => (if t299 = 0 then (if 0 ≤ x3_1 then (if x3_1 < (l0_0.length : Int) then ((cellarref0_EqBlocks.f kj44 t293 (rd_L4 l0_0 x3_1)).bind fun t301 => (if t301 = true then (cellarlaw9_MemBack.l2 kj44 x3_1 t286 x5_3 (wrap64 (x7_4 + 1)) l0_0 l0_1 l0_2 l0_3 ((Int.tmod x5_3 2) == 0) (wrap64 (2 + (wrap64 (2 * (Int.tmod x3_1 2)))))) else (some false))) else (none)) else (none)) else (cellarlaw9_MemBack.l2 kj44 x3_1 t286 x5_3 (wrap64 (x7_4 + 1)) l0_0 l0_1 l0_2 l0_3 ((Int.tmod x5_3 2) == 0) (wrap64 (2 + (wrap64 (2 * (Int.tmod x3_1 2)))))))) = some r := by rw [if_pos rfl] at H; exact H
  clear H
  have H := H1
  clear H1
  replace H := Option.bind_eq_some_iff.mp H
  obtain ⟨t299, A510, H⟩ := H
  replace H : (if t299 = 0 then (if 0 ≤ x3_1 then (if x3_1 < (l0_0.length : Int) then ((cellarref0_EqBlocks.f kj44 t293 (rd_L4 l0_0 x3_1)).bind fun t301 => (if t301 = true then (cellarlaw9_MemBack.l2 kj44 x3_1 t286 x5_3 (wrap64 (x7_4 + 1)) l0_0 l0_1 l0_2 l0_3 ((Int.tmod x5_3 2) == 0) (wrap64 (2 + (wrap64 (2 * (Int.tmod x3_1 2)))))) else (some false))) else (none)) else (none)) else (cellarlaw9_MemBack.l2 kj44 x3_1 t286 x5_3 (wrap64 (x7_4 + 1)) l0_0 l0_1 l0_2 l0_3 ((Int.tmod x5_3 2) == 0) (wrap64 (2 + (wrap64 (2 * (Int.tmod x3_1 2))))))) = some r := H
  have A51 := Aside0.mk A510
  clear A510
  by_cases c52 : t299 = 0
  rotate_left
  ·rw [if_neg c52] at H
   have c52b0 : (t299 == 0) = false := beq_eq_false_iff_ne.mpr c52
   have c52b1 : (t299 != 0) = true := bne_iff_ne.mpr c52
   have H' := Aside0.mk H
   clear H
   go_wp2_with (first | ((with_reducible refine gate_callee (f := 35) rfl ?_); refine zgo (some 107) Try.func35 #[.int .i64 t297] ?_; (with_reducible refine (cellarlaw9_num.calls t297 t299 _ A51.out).mono ?_); rintro e w' ⟨rfl, ⟨nd, rfl⟩⟩; refine ⟨_, rfl, ?_⟩))
   go_roundg kj44
   case measure => have := HK1.out; have := HJ9.out; have := HK3.out; have := HK4.out; have := HJ30.out; have := HJ44.out; omega
   case rel => exact ⟨(wrap64 (x7_4 + 1)), (zr), H', ⟨by have := HK1.out; have := HJ9.out; have := HK3.out; have := HK4.out; have := HJ30.out; have := HJ44.out; omega⟩, ⟨by (with_reducible repeat (first | apply Kd.R_alloc | apply Kd.R_drewN | apply Kd.R_drew)); exact Kd.R_mono HO_4.out (fun _ hk => trivial)⟩, ⟨zb BK279.out⟩, ⟨zb BK289.out⟩, ⟨zw3 HB.out GE279.out GE289.out GE290.out⟩⟩
  rw [if_pos c52] at H
  have c52b0 : (t299 == 0) = true := beq_iff_eq.mpr c52
  have c52b1 : (t299 != 0) = false := bne_eq_false_iff_eq.mpr c52
  clear c52
  by_cases c53 : 0 ≤ x3_1
  rotate_left
  ·rw [if_neg c53] at H
   exact absurd H (by simp)
  rw [if_pos c53] at H
  have c53b0 : decide (0 ≤ x3_1) = true := decide_eq_true c53
  clear c53
  by_cases c54 : x3_1 < (l0_0.length : Int)
  rotate_left
  ·rw [if_neg c54] at H
   exact absurd H (by simp)
  rw [if_pos c54] at H
  have c54b0 : decide (x3_1 < (l0_0.length : Int)) = true := decide_eq_true c54
  clear c54
  replace H := Option.bind_eq_some_iff.mp H
  obtain ⟨t301, A550, H⟩ := H
  replace H : (if t301 = true then (cellarlaw9_MemBack.l2 kj44 x3_1 t286 x5_3 (wrap64 (x7_4 + 1)) l0_0 l0_1 l0_2 l0_3 ((Int.tmod x5_3 2) == 0) (wrap64 (2 + (wrap64 (2 * (Int.tmod x3_1 2)))))) else (some false)) = some r := H
  have A55 := Aside0.mk A550
  clear A550
  by_cases c56 : t301 = true
  rotate_left
  ·replace c56 := Bool.eq_false_iff.mpr c56
   subst c56
   have H1 : (some false) = some r := by rw [if_neg (show ¬ (false = true) by decide)] at H; exact H
   clear H
   have H := H1
   clear H1
   obtain rfl := Option.some.inj H
   go_wp2_with (first | ((with_reducible refine gate_callee (f := 35) rfl ?_); refine zgo (some 107) Try.func35 #[.int .i64 t297] ?_; (with_reducible refine (cellarlaw9_num.calls t297 t299 _ A51.out).mono ?_); rintro e w' ⟨rfl, ⟨nd, rfl⟩⟩; refine ⟨_, rfl, ?_⟩; have hnb62 := NB279_289.out; have hnc62 := NB289_279.out; have hnb63 := NB279_290.out; have hnc63 := NB290_279.out; have hcz64_0 := zc BK279.out 0; have hcz64_1 := zc BK279.out 1; have hcz64_2 := zc BK279.out 2; have hcz64_3 := zc BK279.out 3; have hfz64_0 := blk_frozen BK279.out 0; have hfz64_1 := blk_frozen BK279.out 1; have hfz64_2 := blk_frozen BK279.out 2; have hfz64_3 := blk_frozen BK279.out 3; have p300 : 0 ≤ (x3_1 : Int) := zdec; have q300 : x3_1 < (l0_0.length : Int) := zdec; obtain ⟨ad300, A300_0, c300_0, e300, hx300_0, hl300_0, hi300_0⟩ := at_L4 HR0_0.out x3_1 p300 q300; obtain rfl : ad282 = ad300 := (by injection e300); replace hx300_0 := zh HB.out hx300_0; have HR300_0 := Aside0.mk hi300_0; have HC300_0 := Aside0.mk hl300_0; clear hi300_0 hl300_0; replace p300 := eq_true p300; replace q300 := eq_true q300; obtain ⟨Ao65, co65, eo65⟩ := Kd.S_slice HO_9.out; subst eo65) | (go_at_call 36; (with_reducible refine (cellarref0_EqBlocks.calls kj44 _ _ t293 _ _ (rd_L4 l0_0 x3_1) false _ ?side1 ?side2 ?side3 ?side4 A55.out).mono ?_); (case side1 => repeat (first | exact (Kd.S_reads' HO_9.out).2.2 | (with_reducible refine Kd.C_alloc ?_ _) | (with_reducible refine Kd.C_drewN ?_ _) | (with_reducible refine Kd.C_drew ?_))); (case side2 => exact (Kd.S_reads' HO_9.out).2.1); (case side3 => repeat (first | exact (Kd.C_below HR300_0.out (zw3 HB.out GE279.out GE289.out GE290.out)) | (with_reducible refine Kd.C_alloc ?_ _) | (with_reducible refine Kd.C_drewN ?_ _) | (with_reducible refine Kd.C_drew ?_))); (case side4 => exact HC300_0.out); rintro e w66 ⟨rfl, hb⟩; have n0_ := Aside0.mk (Kd.R_below (by (with_reducible repeat (first | apply Kd.R_alloc | apply Kd.R_drewN | apply Kd.R_drew)); exact HO_4.out) hb); have n1_ := Aside0.mk (Kd.S_below (by (with_reducible repeat (first | apply Kd.S_alloc | apply Kd.S_drewN | apply Kd.S_drew)); exact HO_9.out) hb); have n2_ := Aside0.mk (zbb BK279.out hb); have n3_ := Aside0.mk (zbb BK289.out hb); have n4_ := Aside0.mk (zbb BK290.out hb); have n5_ := Aside0.mk (below_step (zw3 HB.out GE279.out GE289.out GE290.out) hb); clear HO_4 HO_9 BK279 BK289 BK290 HB; have HO_4 := n0_; have HO_9 := n1_; have BK279 := n2_; have BK289 := n3_; have BK290 := n4_; have HB := n5_; clear n0_ n1_ n2_ n3_ n4_ n5_; (try clear hb); (try clear hb2); (try clear hk); (try clear hi)))
   go_ret
   exact ⟨ze, zw3 HB.out GE279.out GE289.out GE290.out⟩
  subst c56
  have H1 : (cellarlaw9_MemBack.l2 kj44 x3_1 t286 x5_3 (wrap64 (x7_4 + 1)) l0_0 l0_1 l0_2 l0_3 ((Int.tmod x5_3 2) == 0) (wrap64 (2 + (wrap64 (2 * (Int.tmod x3_1 2)))))) = some r := by rw [if_pos rfl] at H; exact H
  clear H
  have H := H1
  clear H1
  have H' := Aside0.mk H
  clear H
  go_wp2_with (first | ((with_reducible refine gate_callee (f := 35) rfl ?_); refine zgo (some 107) Try.func35 #[.int .i64 t297] ?_; (with_reducible refine (cellarlaw9_num.calls t297 t299 _ A51.out).mono ?_); rintro e w' ⟨rfl, ⟨nd, rfl⟩⟩; refine ⟨_, rfl, ?_⟩; have hnb57 := NB279_289.out; have hnc57 := NB289_279.out; have hnb58 := NB279_290.out; have hnc58 := NB290_279.out; have hcz59_0 := zc BK279.out 0; have hcz59_1 := zc BK279.out 1; have hcz59_2 := zc BK279.out 2; have hcz59_3 := zc BK279.out 3; have hfz59_0 := blk_frozen BK279.out 0; have hfz59_1 := blk_frozen BK279.out 1; have hfz59_2 := blk_frozen BK279.out 2; have hfz59_3 := blk_frozen BK279.out 3; have p300 : 0 ≤ (x3_1 : Int) := zdec; have q300 : x3_1 < (l0_0.length : Int) := zdec; obtain ⟨ad300, A300_0, c300_0, e300, hx300_0, hl300_0, hi300_0⟩ := at_L4 HR0_0.out x3_1 p300 q300; obtain rfl : ad282 = ad300 := (by injection e300); replace hx300_0 := zh HB.out hx300_0; have HR300_0 := Aside0.mk hi300_0; have HC300_0 := Aside0.mk hl300_0; clear hi300_0 hl300_0; replace p300 := eq_true p300; replace q300 := eq_true q300; obtain ⟨Ao60, co60, eo60⟩ := Kd.S_slice HO_9.out; subst eo60) | (go_at_call 36; (with_reducible refine (cellarref0_EqBlocks.calls kj44 _ _ t293 _ _ (rd_L4 l0_0 x3_1) true _ ?side1 ?side2 ?side3 ?side4 A55.out).mono ?_); (case side1 => repeat (first | exact (Kd.S_reads' HO_9.out).2.2 | (with_reducible refine Kd.C_alloc ?_ _) | (with_reducible refine Kd.C_drewN ?_ _) | (with_reducible refine Kd.C_drew ?_))); (case side2 => exact (Kd.S_reads' HO_9.out).2.1); (case side3 => repeat (first | exact (Kd.C_below HR300_0.out (zw3 HB.out GE279.out GE289.out GE290.out)) | (with_reducible refine Kd.C_alloc ?_ _) | (with_reducible refine Kd.C_drewN ?_ _) | (with_reducible refine Kd.C_drew ?_))); (case side4 => exact HC300_0.out); rintro e w61 ⟨rfl, hb⟩; have n0_ := Aside0.mk (Kd.R_below (by (with_reducible repeat (first | apply Kd.R_alloc | apply Kd.R_drewN | apply Kd.R_drew)); exact HO_4.out) hb); have n1_ := Aside0.mk (Kd.S_below (by (with_reducible repeat (first | apply Kd.S_alloc | apply Kd.S_drewN | apply Kd.S_drew)); exact HO_9.out) hb); have n2_ := Aside0.mk (zbb BK279.out hb); have n3_ := Aside0.mk (zbb BK289.out hb); have n4_ := Aside0.mk (zbb BK290.out hb); have n5_ := Aside0.mk (below_step (zw3 HB.out GE279.out GE289.out GE290.out) hb); clear HO_4 HO_9 BK279 BK289 BK290 HB; have HO_4 := n0_; have HO_9 := n1_; have BK279 := n2_; have BK289 := n3_; have BK290 := n4_; have HB := n5_; clear n0_ n1_ n2_ n3_ n4_ n5_; (try clear hb); (try clear hb2); (try clear hk); (try clear hi)))
  go_roundg kj44
  case measure => have := HK1.out; have := HJ9.out; have := HK3.out; have := HK4.out; have := HJ30.out; have := HJ44.out; omega
  case rel => exact ⟨(wrap64 (x7_4 + 1)), (zr), H', ⟨by have := HK1.out; have := HJ9.out; have := HK3.out; have := HK4.out; have := HJ30.out; have := HJ44.out; omega⟩, ⟨by (with_reducible repeat (first | apply Kd.R_alloc | apply Kd.R_drewN | apply Kd.R_drew)); exact Kd.R_mono HO_4.out (fun _ hk => trivial)⟩, ⟨zb BK279.out⟩, ⟨zb BK289.out⟩, ⟨zw3 HB.out GE279.out GE289.out GE290.out⟩⟩
 replace c50 := Bool.eq_false_iff.mpr c50
 subst c50
 have H1 : (if 0 ≤ x5_3 then (if x5_3 < (t286.length : Int) then ((mem_Load.f kj44 ((Int.tmod x5_3 2) == 0) (wrap64 (2 + (wrap64 (2 * (Int.tmod x3_1 2))))) t293 ((rd_T62 t286 x5_3).f0) ((rd_T62 t286 x5_3).f1) ((rd_T62 t286 x5_3).f2) ((rd_T62 t286 x5_3).f3) x7_4).bind fun bt303 => ((cellarlaw9_num.f bt303.2.2.2.2.2).bind fun t310 => (if t310 = 0 then (if bt303.2.2.2.2.1 = 0 then (if (!(bt303.1 == x291000_30) || (!(bt303.2.1 == x291001_30) || (!(bt303.2.2.1 == x291002_30) || (!(bt303.2.2.2.1 == x291003_30))))) = true then (cellarlaw9_MemBack.j6 kj44 x3_1 t286 x5_3 x7_4 t293 true l0_0 l0_1 l0_2 l0_3 ((Int.tmod x5_3 2) == 0) (wrap64 (2 + (wrap64 (2 * (Int.tmod x3_1 2)))))) else (if 0 ≤ x3_1 then (if x3_1 < (l0_0.length : Int) then (cellarlaw9_MemBack.j6 kj44 x3_1 t286 x5_3 x7_4 t293 ((t293.length : Int) != ((rd_L4 l0_0 x3_1).length : Int)) l0_0 l0_1 l0_2 l0_3 ((Int.tmod x5_3 2) == 0) (wrap64 (2 + (wrap64 (2 * (Int.tmod x3_1 2)))))) else (none)) else (none))) else (cellarlaw9_MemBack.j6 kj44 x3_1 t286 x5_3 x7_4 t293 true l0_0 l0_1 l0_2 l0_3 ((Int.tmod x5_3 2) == 0) (wrap64 (2 + (wrap64 (2 * (Int.tmod x3_1 2))))))) else (cellarlaw9_MemBack.j6 kj44 x3_1 t286 x5_3 x7_4 t293 true l0_0 l0_1 l0_2 l0_3 ((Int.tmod x5_3 2) == 0) (wrap64 (2 + (wrap64 (2 * (Int.tmod x3_1 2))))))))) else (none)) else (none)) = some r := by rw [if_neg (show ¬ (false = true) by decide)] at H; exact H
 clear H
 have H := H1
 clear H1
 by_cases c67 : 0 ≤ x5_3
 rotate_left
 ·rw [if_neg c67] at H
  exact absurd H (by simp)
 rw [if_pos c67] at H
 have c67b0 : decide (0 ≤ x5_3) = true := decide_eq_true c67
 clear c67
 by_cases c68 : x5_3 < (t286.length : Int)
 rotate_left
 ·rw [if_neg c68] at H
  exact absurd H (by simp)
 rw [if_pos c68] at H
 have c68b0 : decide (x5_3 < (t286.length : Int)) = true := decide_eq_true c68
 clear c68
 replace H := Option.bind_eq_some_iff.mp H
 obtain ⟨⟨t303, t304, t305, t306, t307, t308⟩, A690, H⟩ := H
 replace H : ((cellarlaw9_num.f t308).bind fun t310 => (if t310 = 0 then (if t307 = 0 then (if (!(t303 == x291000_30) || (!(t304 == x291001_30) || (!(t305 == x291002_30) || (!(t306 == x291003_30))))) = true then (cellarlaw9_MemBack.j6 kj44 x3_1 t286 x5_3 x7_4 t293 true l0_0 l0_1 l0_2 l0_3 ((Int.tmod x5_3 2) == 0) (wrap64 (2 + (wrap64 (2 * (Int.tmod x3_1 2)))))) else (if 0 ≤ x3_1 then (if x3_1 < (l0_0.length : Int) then (cellarlaw9_MemBack.j6 kj44 x3_1 t286 x5_3 x7_4 t293 ((t293.length : Int) != ((rd_L4 l0_0 x3_1).length : Int)) l0_0 l0_1 l0_2 l0_3 ((Int.tmod x5_3 2) == 0) (wrap64 (2 + (wrap64 (2 * (Int.tmod x3_1 2)))))) else (none)) else (none))) else (cellarlaw9_MemBack.j6 kj44 x3_1 t286 x5_3 x7_4 t293 true l0_0 l0_1 l0_2 l0_3 ((Int.tmod x5_3 2) == 0) (wrap64 (2 + (wrap64 (2 * (Int.tmod x3_1 2))))))) else (cellarlaw9_MemBack.j6 kj44 x3_1 t286 x5_3 x7_4 t293 true l0_0 l0_1 l0_2 l0_3 ((Int.tmod x5_3 2) == 0) (wrap64 (2 + (wrap64 (2 * (Int.tmod x3_1 2)))))))) = some r := H
 have A69 := Aside0.mk A690
 clear A690
 have HC70 := Aside0.mk H
 clear H
 obtain ⟨Ao71, co71, eo71⟩ := Kd.S_slice HO_9.out
 subst eo71
 try go_wp2
 have n0_ := Aside0.mk (Kd.R_drew HO_4.out)
 have n1_ := Aside0.mk (Kd.S_drew HO_9.out)
 have n2_ := Aside0.mk (blk_drew BK279.out)
 have n3_ := Aside0.mk (blk_drew BK289.out)
 have n4_ := Aside0.mk (blk_drew BK290.out)
 have n5_ := Aside0.mk (below_drew1 HB.out)
 clear HO_4
 clear HO_9
 clear BK279
 clear BK289
 clear BK290
 clear HB
 have HO_4 := n0_
 have HO_9 := n1_
 have BK279 := n2_
 have BK289 := n3_
 have BK290 := n4_
 have HB := n5_
 clear n0_ n1_ n2_ n3_ n4_ n5_
 have p302 : 0 ≤ (x5_3 : Int) := zdec
 have q302 : x5_3 < (t286.length : Int) := zdec
 obtain ⟨ad302, e302, hx302_0, hx302_1, hx302_2, hx302_3⟩ := at_T62 (Kd.R_reads' HO_4.out).2.2 x5_3 p302 q302
 obtain rfl : ad292 = ad302 := (by injection e302)
 replace p302 := eq_true p302
 replace q302 := eq_true q302
 refine start_ (n := 16) (S := fun w' => w'.cell? ⟨gb289, 0, none⟩ = some (.bool ((Int.tmod x5_3 2) == 0)) ∧ w'.cell? ⟨gb289, 1, none⟩ = some (.int .i64 (wrap64 (2 + (wrap64 (2 * (Int.tmod x3_1 2)))))) ∧ w'.cell? (ad292.add ((x5_3).toNat * 4)) = some (.bool ((rd_T62 t286 x5_3).f0)) ∧ w'.cell? ⟨(ad292.add ((x5_3).toNat * 4)).block, (ad292.add ((x5_3).toNat * 4)).off + 1, none⟩ = some (.int .i64 ((rd_T62 t286 x5_3).f1)) ∧ w'.cell? ⟨(ad292.add ((x5_3).toNat * 4)).block, (ad292.add ((x5_3).toNat * 4)).off + 2, none⟩ = some (.int .i64 ((rd_T62 t286 x5_3).f2)) ∧ w'.cell? ⟨(ad292.add ((x5_3).toNat * 4)).block, (ad292.add ((x5_3).toNat * 4)).off + 3, none⟩ = some (.int .i64 ((rd_T62 t286 x5_3).f3))) (ds := []) cellarlaw9_MemBack.b21 (by kernel_rfl) rfl rfl ⟨(blk_cell BK289.out 0).trans rfl, (blk_cell BK289.out 1).trans rfl, hx302_0, hx302_1, hx302_2, hx302_3⟩ (fun hHeld => ?_); refine with_tabW cellarlaw9_MemBack.tab22 cellarlaw9_MemBack.bits22 (fun HT_ HW_ => ?_)
 generalize wc.drew = w72 at HO_4 HO_9 BK279 BK289 BK290 HB hx302_0 hx302_1 hx302_2 hx302_3 hHeld ⊢
 refine zq 1 (some 121) HT_ ?_; refine zq 2 (some 122) HT_ ?_; refine zq 3 (some 123) HT_ ?_; refine zq 4 (some 124) HT_ ?_; refine zq 6 (some 126) HT_ ?_; refine zt 0 (some 120) HT_ HW_ hHeld ?_; refine zt 5 (some 125) HT_ HW_ hHeld ?_
 refine join_ (σ := Nat) 3 cellarlaw9_MemBack.b29 (fun s_ => [(127, .tuple #[.agg #[.bool t303, .int .i64 t304, .int .i64 t305, .int .i64 t306], .int .i64 t307, .int .i64 t308]), (12, .pointer (some ⟨s_, 0, none⟩)), (119, .tuple #[.agg #[.bool t303, .int .i64 t304, .int .i64 t305, .int .i64 t306], .int .i64 t307, .int .i64 t308]), (128, .agg #[.bool t303, .int .i64 t304, .int .i64 t305, .int .i64 t306]), (129, .int .i64 t307), (130, .int .i64 t308)]) (fun s_ w' => (w'.cell? ⟨gb289, 0, none⟩ = some (.bool ((Int.tmod x5_3 2) == 0)) ∧ w'.cell? ⟨gb289, 1, none⟩ = some (.int .i64 (wrap64 (2 + (wrap64 (2 * (Int.tmod x3_1 2)))))) ∧ w'.cell? (ad292.add ((x5_3).toNat * 4)) = some (.bool ((rd_T62 t286 x5_3).f0)) ∧ w'.cell? ⟨(ad292.add ((x5_3).toNat * 4)).block, (ad292.add ((x5_3).toNat * 4)).off + 1, none⟩ = some (.int .i64 ((rd_T62 t286 x5_3).f1)) ∧ w'.cell? ⟨(ad292.add ((x5_3).toNat * 4)).block, (ad292.add ((x5_3).toNat * 4)).off + 2, none⟩ = some (.int .i64 ((rd_T62 t286 x5_3).f2)) ∧ w'.cell? ⟨(ad292.add ((x5_3).toNat * 4)).block, (ad292.add ((x5_3).toNat * 4)).off + 3, none⟩ = some (.int .i64 ((rd_T62 t286 x5_3).f3))) ∧ (Kd.R k62 62 w' w.heap.size (fun k_ => k_ ≠ gb290 ∧ k_ ≠ s_) (.slice (some ad292) t286.length co26) t286) ∧ (Kd.S k76 76 w' w.heap.size (fun _ => True) (.slice Ao71 t293.length co71) t293) ∧ (w'.heap[gb279]? = some (.cells #[.slice (some ad282) l0_0.length c0_0, .slice A0_1 l0_1.length c0_1, .slice A0_2 l0_2.length c0_2, .slice A0_3 l0_3.length c0_3] 54 (0, 0))) ∧ (w'.heap[gb289]? = some (.cells #[.bool ((Int.tmod x5_3 2) == 0), .int .i64 (wrap64 (2 + (wrap64 (2 * (Int.tmod x3_1 2)))))] 29 (0, 0))) ∧ (w'.heap[gb290]? = some (.cells #[.bool x291000_30, .int .i64 x291001_30, .int .i64 x291002_30, .int .i64 x291003_30] 62 (0, 0))) ∧ (w'.heap[s_]? = some (.cells #[.bool false, .int .i64 0, .int .i64 0, .int .i64 0] 62 (0, 0))) ∧ (w.heap.size ≤ s_) ∧ (w.heap.size ≤ s_) ∧ (gb279 ≠ s_) ∧ (s_ ≠ gb279) ∧ (gb289 ≠ s_) ∧ (s_ ≠ gb289) ∧ (gb290 ≠ s_) ∧ (s_ ≠ gb290) ∧ (Below w.heap.size w w')) ?_ ?_
 rotate_left
 ·intro hCont
  refine two_ (i := 7) (j := 12) (Ni := some 127) (Nj := some 12) cellarlaw9_MemBack.b30 cellarlaw9_MemBack.b31 rfl rfl rfl rfl (two_of HT_.out (by kernel_rfl)) (by decide) (by decide) (fun K hK => ?_) (fun K hK => ?_)
  ·skip
   refine goes_ Try.func39 (by kernel_rfl) rfl #[.agg #[.bool ((Int.tmod x5_3 2) == 0), .int .i64 (wrap64 (2 + (wrap64 (2 * (Int.tmod x3_1 2)))))], .slice Ao71 t293.length co71, .agg #[.bool ((rd_T62 t286 x5_3).f0), .int .i64 ((rd_T62 t286 x5_3).f1), .int .i64 ((rd_T62 t286 x5_3).f2), .int .i64 ((rd_T62 t286 x5_3).f3)], .int .i64 x7_4] (by rfl) rfl rfl (by (try simp only [List.map_toArray, List.map_cons, List.map_nil]); first | done | rfl | (simp only [List.length_drop, List.length_take]; rfl)) ?_
   with_reducible refine (mem_Load.calls kj44 ((Int.tmod x5_3 2) == 0) (wrap64 (2 + (wrap64 (2 * (Int.tmod x3_1 2))))) _ _ t293 ((rd_T62 t286 x5_3).f0) ((rd_T62 t286 x5_3).f1) ((rd_T62 t286 x5_3).f2) ((rd_T62 t286 x5_3).f3) x7_4 t303 t304 t305 t306 t307 t308 _ ?side1 ?side2 A69.out).mono ?_
   (case side1 => repeat (first | exact (Kd.S_reads' HO_9.out).2.2 | (with_reducible refine Kd.C_alloc ?_ _) | (with_reducible refine Kd.C_drewN ?_ _) | (with_reducible refine Kd.C_drew ?_)))
   (case side2 => exact (Kd.S_reads' HO_9.out).2.1)
   rintro e w73 ⟨rfl, hb⟩
   have HS2_ := (hb.cell (World.block_lt_of_cell? _ _ (hHeld.2.2.1))).trans (hHeld.2.2.1)
   have HS3_ := (hb.cell (World.block_lt_of_cell? _ _ (hHeld.2.2.2.1))).trans (hHeld.2.2.2.1)
   have HS4_ := (hb.cell (World.block_lt_of_cell? _ _ (hHeld.2.2.2.2.1))).trans (hHeld.2.2.2.2.1)
   have HS5_ := (hb.cell (World.block_lt_of_cell? _ _ (hHeld.2.2.2.2.2))).trans (hHeld.2.2.2.2.2)
   refine ⟨_, rfl, ?_⟩
   have n0_ := Aside0.mk (Kd.R_below (by (with_reducible repeat (first | apply Kd.R_alloc | apply Kd.R_drewN | apply Kd.R_drew)); exact HO_4.out) hb)
   have n1_ := Aside0.mk (Kd.S_below (by (with_reducible repeat (first | apply Kd.S_alloc | apply Kd.S_drewN | apply Kd.S_drew)); exact HO_9.out) hb)
   have n2_ := Aside0.mk (zbb BK279.out hb)
   have n3_ := Aside0.mk (zbb BK289.out hb)
   have n4_ := Aside0.mk (zbb BK290.out hb)
   have n5_ := Aside0.mk (below_step (zw3 HB.out GE279.out GE289.out GE290.out) hb)
   clear HO_4
   clear HO_9
   clear BK279
   clear BK289
   clear BK290
   clear HB
   have HO_4 := n0_
   have HO_9 := n1_
   have BK279 := n2_
   have BK289 := n3_
   have BK290 := n4_
   have HB := n5_
   clear n0_ n1_ n2_ n3_ n4_ n5_
   (try clear hb)
   (try clear hb2)
   (try clear hk)
   (try clear hi)
   refine hK.out _ _ ⟨(blk_cell BK289.out 0).trans rfl, (blk_cell BK289.out 1).trans rfl, HS2_, HS3_, HS4_, HS5_⟩ (fun hHeld => ?_)
   clear hK K
   refine norm_ (a' := ?_) ?_ ?_
   rotate_left
   ·show Act.put _ (some 127) _ = _
    simp only [Act.put, List.setIfInBounds_toArray, List.set_cons_zero, List.set_cons_succ, i64_w, i32_w]
    rfl
   refine zq 8 (some 119) HT_ ?_; refine zq 9 (some 128) HT_ ?_; refine zq 10 (some 129) HT_ ?_; refine zq 11 (some 130) HT_ ?_
   refine one_ (i := 12) (N := some 12) cellarlaw9_MemBack.b29 rfl rfl (one_of HT_.out (by kernel_rfl)) (by decide) (fun K hK => ?_)
   refine box_step ?hg (N := 12) ?hd (cs := #[.bool false, .int .i64 0, .int .i64 0, .int .i64 0]) (t := 62) ?hr ?_; (case hd => rfl); (case hg => rfl); (case hr => first | (go_simp; done) | (go_simp; rfl))
   intro gb309 hg w74 hbox hb
   have HS2_ := (hb.cell (World.block_lt_of_cell? _ _ (hHeld.2.2.1))).trans (hHeld.2.2.1)
   have HS3_ := (hb.cell (World.block_lt_of_cell? _ _ (hHeld.2.2.2.1))).trans (hHeld.2.2.2.1)
   have HS4_ := (hb.cell (World.block_lt_of_cell? _ _ (hHeld.2.2.2.2.1))).trans (hHeld.2.2.2.2.1)
   have HS5_ := (hb.cell (World.block_lt_of_cell? _ _ (hHeld.2.2.2.2.2))).trans (hHeld.2.2.2.2.2)
   have n0_ := Aside0.mk (Kd.R_below (Kd.R_elderB (by (with_reducible repeat (first | apply Kd.R_alloc | apply Kd.R_drewN | apply Kd.R_drew)); exact HO_4.out) gb309 (Nat.le_of_eq hg.symm)) hb)
   have n1_ := Aside0.mk (Kd.S_below (by (with_reducible repeat (first | apply Kd.S_alloc | apply Kd.S_drewN | apply Kd.S_drew)); exact HO_9.out) hb)
   have n2_ := Aside0.mk (zbb BK279.out hb)
   have n3_ := Aside0.mk (zbb BK289.out hb)
   have n4_ := Aside0.mk (zbb BK290.out hb)
   have n5_ := Aside0.mk (below_step (zw3 HB.out GE279.out GE289.out GE290.out) hb)
   have n6_ := Aside0.mk (hbox)
   have n7_ := Aside0.mk (zg hg (below_size (zw3 HB.out GE279.out GE289.out GE290.out)))
   have n8_ := Aside0.mk (zg hg (below_size (zw3 HB.out GE279.out GE289.out GE290.out)))
   have n9_ := Aside0.mk (zlt hg BK279.out)
   have n10_ := Aside0.mk (zgt hg BK279.out)
   have n11_ := Aside0.mk (zlt hg BK289.out)
   have n12_ := Aside0.mk (zgt hg BK289.out)
   have n13_ := Aside0.mk (zlt hg BK290.out)
   have n14_ := Aside0.mk (zgt hg BK290.out)
   clear HO_4
   clear HO_9
   clear BK279
   clear BK289
   clear BK290
   clear HB
   have HO_4 := n0_
   have HO_9 := n1_
   have BK279 := n2_
   have BK289 := n3_
   have BK290 := n4_
   have HB := n5_
   have BK309 := n6_
   have GW309 := n7_
   have GE309 := n8_
   have NB279_309 := n9_
   have NB309_279 := n10_
   have NB289_309 := n11_
   have NB309_289 := n12_
   have NB290_309 := n13_
   have NB309_290 := n14_
   clear n0_ n1_ n2_ n3_ n4_ n5_ n6_ n7_ n8_ n9_ n10_ n11_ n12_ n13_ n14_
   clear hb hbox hg
   refine hK.out _ _ ⟨(blk_cell BK289.out 0).trans rfl, (blk_cell BK289.out 1).trans rfl, HS2_, HS3_, HS4_, HS5_⟩ (fun hHeld => ?_)
   clear hK K
   refine norm_ (a' := ?_) ?_ ?_
   rotate_left
   ·show Act.put _ (some 12) _ = _
    simp only [Act.put, List.setIfInBounds_toArray, List.set_cons_zero, List.set_cons_succ, i64_w, i32_w]
    rfl
   exact norm_ (by simp only [putAll, Act.put, List.setIfInBounds_toArray, List.set_cons_zero, List.set_cons_succ]) (hCont (gb309) _ ⟨hHeld, (by (with_reducible repeat (first | apply Kd.R_alloc | apply Kd.R_drewN | apply Kd.R_drew)); exact HO_4.out), (by (with_reducible repeat (first | apply Kd.S_alloc | apply Kd.S_drewN | apply Kd.S_drew)); exact HO_9.out), (zb BK279.out), (zb BK289.out), (zb BK290.out), (zb BK309.out), GW309.out, GE309.out, NB279_309.out, NB309_279.out, NB289_309.out, NB309_289.out, NB290_309.out, NB309_290.out, (zw4 HB.out GE279.out GE289.out GE290.out GE309.out)⟩)
  ·skip
   refine box_step ?hg (N := 12) ?hd (cs := #[.bool false, .int .i64 0, .int .i64 0, .int .i64 0]) (t := 62) ?hr ?_; (case hd => rfl); (case hg => rfl); (case hr => first | (go_simp; done) | (go_simp; rfl))
   intro gb309 hg w73 hbox hb
   have HS2_ := (hb.cell (World.block_lt_of_cell? _ _ (hHeld.2.2.1))).trans (hHeld.2.2.1)
   have HS3_ := (hb.cell (World.block_lt_of_cell? _ _ (hHeld.2.2.2.1))).trans (hHeld.2.2.2.1)
   have HS4_ := (hb.cell (World.block_lt_of_cell? _ _ (hHeld.2.2.2.2.1))).trans (hHeld.2.2.2.2.1)
   have HS5_ := (hb.cell (World.block_lt_of_cell? _ _ (hHeld.2.2.2.2.2))).trans (hHeld.2.2.2.2.2)
   have n0_ := Aside0.mk (Kd.R_below (Kd.R_elderB (by (with_reducible repeat (first | apply Kd.R_alloc | apply Kd.R_drewN | apply Kd.R_drew)); exact HO_4.out) gb309 (Nat.le_of_eq hg.symm)) hb)
   have n1_ := Aside0.mk (Kd.S_below (by (with_reducible repeat (first | apply Kd.S_alloc | apply Kd.S_drewN | apply Kd.S_drew)); exact HO_9.out) hb)
   have n2_ := Aside0.mk (zbb BK279.out hb)
   have n3_ := Aside0.mk (zbb BK289.out hb)
   have n4_ := Aside0.mk (zbb BK290.out hb)
   have n5_ := Aside0.mk (below_step (zw3 HB.out GE279.out GE289.out GE290.out) hb)
   have n6_ := Aside0.mk (hbox)
   have n7_ := Aside0.mk (zg hg (below_size (zw3 HB.out GE279.out GE289.out GE290.out)))
   have n8_ := Aside0.mk (zg hg (below_size (zw3 HB.out GE279.out GE289.out GE290.out)))
   have n9_ := Aside0.mk (zlt hg BK279.out)
   have n10_ := Aside0.mk (zgt hg BK279.out)
   have n11_ := Aside0.mk (zlt hg BK289.out)
   have n12_ := Aside0.mk (zgt hg BK289.out)
   have n13_ := Aside0.mk (zlt hg BK290.out)
   have n14_ := Aside0.mk (zgt hg BK290.out)
   clear HO_4
   clear HO_9
   clear BK279
   clear BK289
   clear BK290
   clear HB
   have HO_4 := n0_
   have HO_9 := n1_
   have BK279 := n2_
   have BK289 := n3_
   have BK290 := n4_
   have HB := n5_
   have BK309 := n6_
   have GW309 := n7_
   have GE309 := n8_
   have NB279_309 := n9_
   have NB309_279 := n10_
   have NB289_309 := n11_
   have NB309_289 := n12_
   have NB290_309 := n13_
   have NB309_290 := n14_
   clear n0_ n1_ n2_ n3_ n4_ n5_ n6_ n7_ n8_ n9_ n10_ n11_ n12_ n13_ n14_
   clear hb hbox hg
   refine hK.out _ _ ⟨(blk_cell BK289.out 0).trans rfl, (blk_cell BK289.out 1).trans rfl, HS2_, HS3_, HS4_, HS5_⟩ (fun hHeld => ?_)
   clear hK K
   refine norm_ (a' := ?_) ?_ ?_
   rotate_left
   ·show Act.put _ (some 12) _ = _
    simp only [Act.put, List.setIfInBounds_toArray, List.set_cons_zero, List.set_cons_succ, i64_w, i32_w]
    rfl
   refine one_ (i := 7) (N := some 127) cellarlaw9_MemBack.b36 rfl rfl (one_of HT_.out (by kernel_rfl)) (by decide) (fun K hK => ?_)
   refine goes_ Try.func39 (by kernel_rfl) rfl #[.agg #[.bool ((Int.tmod x5_3 2) == 0), .int .i64 (wrap64 (2 + (wrap64 (2 * (Int.tmod x3_1 2)))))], .slice Ao71 t293.length co71, .agg #[.bool ((rd_T62 t286 x5_3).f0), .int .i64 ((rd_T62 t286 x5_3).f1), .int .i64 ((rd_T62 t286 x5_3).f2), .int .i64 ((rd_T62 t286 x5_3).f3)], .int .i64 x7_4] (by rfl) rfl rfl (by (try simp only [List.map_toArray, List.map_cons, List.map_nil]); first | done | rfl | (simp only [List.length_drop, List.length_take]; rfl)) ?_
   with_reducible refine (mem_Load.calls kj44 ((Int.tmod x5_3 2) == 0) (wrap64 (2 + (wrap64 (2 * (Int.tmod x3_1 2))))) _ _ t293 ((rd_T62 t286 x5_3).f0) ((rd_T62 t286 x5_3).f1) ((rd_T62 t286 x5_3).f2) ((rd_T62 t286 x5_3).f3) x7_4 t303 t304 t305 t306 t307 t308 _ ?side1 ?side2 A69.out).mono ?_
   (case side1 => repeat (first | exact (Kd.S_reads' HO_9.out).2.2 | (with_reducible refine Kd.C_alloc ?_ _) | (with_reducible refine Kd.C_drewN ?_ _) | (with_reducible refine Kd.C_drew ?_)))
   (case side2 => exact (Kd.S_reads' HO_9.out).2.1)
   rintro e w74 ⟨rfl, hb⟩
   have HS2_ := (hb.cell (World.block_lt_of_cell? _ _ (hHeld.2.2.1))).trans (hHeld.2.2.1)
   have HS3_ := (hb.cell (World.block_lt_of_cell? _ _ (hHeld.2.2.2.1))).trans (hHeld.2.2.2.1)
   have HS4_ := (hb.cell (World.block_lt_of_cell? _ _ (hHeld.2.2.2.2.1))).trans (hHeld.2.2.2.2.1)
   have HS5_ := (hb.cell (World.block_lt_of_cell? _ _ (hHeld.2.2.2.2.2))).trans (hHeld.2.2.2.2.2)
   refine ⟨_, rfl, ?_⟩
   have n0_ := Aside0.mk (Kd.R_below (by (with_reducible repeat (first | apply Kd.R_alloc | apply Kd.R_drewN | apply Kd.R_drew)); exact HO_4.out) hb)
   have n1_ := Aside0.mk (Kd.S_below (by (with_reducible repeat (first | apply Kd.S_alloc | apply Kd.S_drewN | apply Kd.S_drew)); exact HO_9.out) hb)
   have n2_ := Aside0.mk (zbb BK279.out hb)
   have n3_ := Aside0.mk (zbb BK289.out hb)
   have n4_ := Aside0.mk (zbb BK290.out hb)
   have n5_ := Aside0.mk (zbb BK309.out hb)
   have n6_ := Aside0.mk (below_step (zw4 HB.out GE279.out GE289.out GE290.out GE309.out) hb)
   clear HO_4
   clear HO_9
   clear BK279
   clear BK289
   clear BK290
   clear BK309
   clear HB
   have HO_4 := n0_
   have HO_9 := n1_
   have BK279 := n2_
   have BK289 := n3_
   have BK290 := n4_
   have BK309 := n5_
   have HB := n6_
   clear n0_ n1_ n2_ n3_ n4_ n5_ n6_
   (try clear hb)
   (try clear hb2)
   (try clear hk)
   (try clear hi)
   refine hK.out _ _ ⟨(blk_cell BK289.out 0).trans rfl, (blk_cell BK289.out 1).trans rfl, HS2_, HS3_, HS4_, HS5_⟩ (fun hHeld => ?_)
   clear hK K
   refine norm_ (a' := ?_) ?_ ?_
   rotate_left
   ·show Act.put _ (some 127) _ = _
    simp only [Act.put, List.setIfInBounds_toArray, List.set_cons_zero, List.set_cons_succ, i64_w, i32_w]
    rfl
   refine zq 8 (some 119) HT_ ?_; refine zq 9 (some 128) HT_ ?_; refine zq 10 (some 129) HT_ ?_; refine zq 11 (some 130) HT_ ?_
   exact norm_ (by simp only [putAll, Act.put, List.setIfInBounds_toArray, List.set_cons_zero, List.set_cons_succ]) (hCont (gb309) _ ⟨hHeld, (by (with_reducible repeat (first | apply Kd.R_alloc | apply Kd.R_drewN | apply Kd.R_drew)); exact HO_4.out), (by (with_reducible repeat (first | apply Kd.S_alloc | apply Kd.S_drewN | apply Kd.S_drew)); exact HO_9.out), (zb BK279.out), (zb BK289.out), (zb BK290.out), (zb BK309.out), GW309.out, GE309.out, NB279_309.out, NB309_279.out, NB289_309.out, NB309_289.out, NB290_309.out, NB309_290.out, (zw4 HB.out GE279.out GE289.out GE290.out GE309.out)⟩)
 rintro gb309 w75 ⟨hS_, h0_, h1_, h2_, h3_, h4_, h5_, h6_, h7_, h8_, h9_, h10_, h11_, h12_, h13_, h14_⟩
 have n0_ : Aside0 (Kd.R k62 62 w75 w.heap.size (fun k_ => k_ ≠ gb290 ∧ k_ ≠ gb309) (.slice (some ad292) t286.length co26) t286) := ⟨h0_⟩
 have n1_ : Aside0 (Kd.S k76 76 w75 w.heap.size (fun _ => True) (.slice Ao71 t293.length co71) t293) := ⟨h1_⟩
 have n2_ : Aside0 (w75.heap[gb279]? = some (.cells #[.slice (some ad282) l0_0.length c0_0, .slice A0_1 l0_1.length c0_1, .slice A0_2 l0_2.length c0_2, .slice A0_3 l0_3.length c0_3] 54 (0, 0))) := ⟨h2_⟩
 have n3_ : Aside0 (w75.heap[gb289]? = some (.cells #[.bool ((Int.tmod x5_3 2) == 0), .int .i64 (wrap64 (2 + (wrap64 (2 * (Int.tmod x3_1 2)))))] 29 (0, 0))) := ⟨h3_⟩
 have n4_ : Aside0 (w75.heap[gb290]? = some (.cells #[.bool x291000_30, .int .i64 x291001_30, .int .i64 x291002_30, .int .i64 x291003_30] 62 (0, 0))) := ⟨h4_⟩
 have n5_ : Aside0 (w75.heap[gb309]? = some (.cells #[.bool false, .int .i64 0, .int .i64 0, .int .i64 0] 62 (0, 0))) := ⟨h5_⟩
 have n6_ : Aside0 (w.heap.size ≤ gb309) := ⟨h6_⟩
 have n7_ : Aside0 (w.heap.size ≤ gb309) := ⟨h7_⟩
 have n8_ : Aside0 (gb279 ≠ gb309) := ⟨h8_⟩
 have n9_ : Aside0 (gb309 ≠ gb279) := ⟨h9_⟩
 have n10_ : Aside0 (gb289 ≠ gb309) := ⟨h10_⟩
 have n11_ : Aside0 (gb309 ≠ gb289) := ⟨h11_⟩
 have n12_ : Aside0 (gb290 ≠ gb309) := ⟨h12_⟩
 have n13_ : Aside0 (gb309 ≠ gb290) := ⟨h13_⟩
 have n14_ : Aside0 (Below w.heap.size w w75) := ⟨h14_⟩
 clear HO_4
 clear HO_9
 clear BK279
 clear BK289
 clear BK290
 clear HB
 clear h0_ h1_ h2_ h3_ h4_ h5_ h6_ h7_ h8_ h9_ h10_ h11_ h12_ h13_ h14_
 have HO_4 := n0_
 have HO_9 := n1_
 have BK279 := n2_
 have BK289 := n3_
 have BK290 := n4_
 have BK309 := n5_
 have GW309 := n6_
 have GE309 := n7_
 have NB279_309 := n8_
 have NB309_279 := n9_
 have NB289_309 := n10_
 have NB309_289 := n11_
 have NB290_309 := n12_
 have NB309_290 := n13_
 have HB := n14_
 clear n0_ n1_ n2_ n3_ n4_ n5_ n6_ n7_ n8_ n9_ n10_ n11_ n12_ n13_ n14_
 have hHeld : w75.cell? ⟨gb289, 0, none⟩ = some (.bool ((Int.tmod x5_3 2) == 0)) ∧ w75.cell? ⟨gb289, 1, none⟩ = some (.int .i64 (wrap64 (2 + (wrap64 (2 * (Int.tmod x3_1 2)))))) ∧ w75.cell? (ad292.add ((x5_3).toNat * 4)) = some (.bool ((rd_T62 t286 x5_3).f0)) ∧ w75.cell? ⟨(ad292.add ((x5_3).toNat * 4)).block, (ad292.add ((x5_3).toNat * 4)).off + 1, none⟩ = some (.int .i64 ((rd_T62 t286 x5_3).f1)) ∧ w75.cell? ⟨(ad292.add ((x5_3).toNat * 4)).block, (ad292.add ((x5_3).toNat * 4)).off + 2, none⟩ = some (.int .i64 ((rd_T62 t286 x5_3).f2)) ∧ w75.cell? ⟨(ad292.add ((x5_3).toNat * 4)).block, (ad292.add ((x5_3).toNat * 4)).off + 3, none⟩ = some (.int .i64 ((rd_T62 t286 x5_3).f3)) := hS_
 refine norm_ (a' := ?_) ?_ ?_
 rotate_left
 ·simp only [putAll, Act.put, List.setIfInBounds_toArray, List.set_cons_zero, List.set_cons_succ]
  rfl
 refine one_ (i := 13) (N := none) cellarlaw9_MemBack.b40 rfl rfl (one_of HT_.out (by kernel_rfl)) (by decide) (fun K hK => ?_)
 have hs76 : w75.cell? ⟨gb309, 0, none⟩ = some (.bool false) := (blk_cell BK309.out 0).trans rfl
 have hfs76 := blk_frozen BK309.out 0
 have hns76_0 := NB279_309.out
 have hns76_1 := NB289_309.out
 have hns76_2 := NB290_309.out
 have hms76_0 := NB309_279.out
 have hms76_1 := NB309_289.out
 have hms76_2 := NB309_290.out
 have hs77 : w75.cell? ⟨gb309, 1, none⟩ = some (.int .i64 0) := (blk_cell BK309.out 1).trans rfl
 have hfs77 := blk_frozen BK309.out 1
 have hns77_0 := NB279_309.out
 have hns77_1 := NB289_309.out
 have hns77_2 := NB290_309.out
 have hms77_0 := NB309_279.out
 have hms77_1 := NB309_289.out
 have hms77_2 := NB309_290.out
 have hs78 : w75.cell? ⟨gb309, 2, none⟩ = some (.int .i64 0) := (blk_cell BK309.out 2).trans rfl
 have hfs78 := blk_frozen BK309.out 2
 have hns78_0 := NB279_309.out
 have hns78_1 := NB289_309.out
 have hns78_2 := NB290_309.out
 have hms78_0 := NB309_279.out
 have hms78_1 := NB309_289.out
 have hms78_2 := NB309_290.out
 have hs79 : w75.cell? ⟨gb309, 3, none⟩ = some (.int .i64 0) := (blk_cell BK309.out 3).trans rfl
 have hfs79 := blk_frozen BK309.out 3
 have hns79_0 := NB279_309.out
 have hns79_1 := NB289_309.out
 have hns79_2 := NB290_309.out
 have hms79_0 := NB309_279.out
 have hms79_1 := NB309_289.out
 have hms79_2 := NB309_290.out
 refine skip_ (w1 := ?_) (by rfl) rfl ?_ ?_
 rotate_left
 ·go_simp
  rfl
 refine hK.out _ _ ⟨((cell_far (p := ⟨gb309, _, none⟩) NB289_309.out _).trans (((cell_far (p := ⟨gb309, _, none⟩) NB289_309.out _).trans (((cell_far (p := ⟨gb309, _, none⟩) NB289_309.out _).trans (((cell_far (p := ⟨gb309, _, none⟩) NB289_309.out _).trans (hHeld.1)))))))), ((cell_far (p := ⟨gb309, _, none⟩) NB289_309.out _).trans (((cell_far (p := ⟨gb309, _, none⟩) NB289_309.out _).trans (((cell_far (p := ⟨gb309, _, none⟩) NB289_309.out _).trans (((cell_far (p := ⟨gb309, _, none⟩) NB289_309.out _).trans (hHeld.2.1)))))))), ((cell_far (p := ⟨gb309, _, none⟩) (by first | exact Kd.own_blk (Kd.R_away HO_4.out (fun _ hk => hk.2)) | (rw [add_block]; exact Kd.own_blk (Kd.R_away HO_4.out (fun _ hk => hk.2))) | (show (Addr.add _ _).block ≠ _; rw [add_block]; exact Kd.own_blk (Kd.R_away HO_4.out (fun _ hk => hk.2))) | (dsimp only; exact Kd.own_blk (Kd.R_away HO_4.out (fun _ hk => hk.2)))) _).trans (((cell_far (p := ⟨gb309, _, none⟩) (by first | exact Kd.own_blk (Kd.R_away HO_4.out (fun _ hk => hk.2)) | (rw [add_block]; exact Kd.own_blk (Kd.R_away HO_4.out (fun _ hk => hk.2))) | (show (Addr.add _ _).block ≠ _; rw [add_block]; exact Kd.own_blk (Kd.R_away HO_4.out (fun _ hk => hk.2))) | (dsimp only; exact Kd.own_blk (Kd.R_away HO_4.out (fun _ hk => hk.2)))) _).trans (((cell_far (p := ⟨gb309, _, none⟩) (by first | exact Kd.own_blk (Kd.R_away HO_4.out (fun _ hk => hk.2)) | (rw [add_block]; exact Kd.own_blk (Kd.R_away HO_4.out (fun _ hk => hk.2))) | (show (Addr.add _ _).block ≠ _; rw [add_block]; exact Kd.own_blk (Kd.R_away HO_4.out (fun _ hk => hk.2))) | (dsimp only; exact Kd.own_blk (Kd.R_away HO_4.out (fun _ hk => hk.2)))) _).trans (((cell_far (p := ⟨gb309, _, none⟩) (by first | exact Kd.own_blk (Kd.R_away HO_4.out (fun _ hk => hk.2)) | (rw [add_block]; exact Kd.own_blk (Kd.R_away HO_4.out (fun _ hk => hk.2))) | (show (Addr.add _ _).block ≠ _; rw [add_block]; exact Kd.own_blk (Kd.R_away HO_4.out (fun _ hk => hk.2))) | (dsimp only; exact Kd.own_blk (Kd.R_away HO_4.out (fun _ hk => hk.2)))) _).trans (hHeld.2.2.1)))))))), ((cell_far (p := ⟨gb309, _, none⟩) (by first | exact Kd.own_blk (Kd.R_away HO_4.out (fun _ hk => hk.2)) | (rw [add_block]; exact Kd.own_blk (Kd.R_away HO_4.out (fun _ hk => hk.2))) | (show (Addr.add _ _).block ≠ _; rw [add_block]; exact Kd.own_blk (Kd.R_away HO_4.out (fun _ hk => hk.2))) | (dsimp only; exact Kd.own_blk (Kd.R_away HO_4.out (fun _ hk => hk.2)))) _).trans (((cell_far (p := ⟨gb309, _, none⟩) (by first | exact Kd.own_blk (Kd.R_away HO_4.out (fun _ hk => hk.2)) | (rw [add_block]; exact Kd.own_blk (Kd.R_away HO_4.out (fun _ hk => hk.2))) | (show (Addr.add _ _).block ≠ _; rw [add_block]; exact Kd.own_blk (Kd.R_away HO_4.out (fun _ hk => hk.2))) | (dsimp only; exact Kd.own_blk (Kd.R_away HO_4.out (fun _ hk => hk.2)))) _).trans (((cell_far (p := ⟨gb309, _, none⟩) (by first | exact Kd.own_blk (Kd.R_away HO_4.out (fun _ hk => hk.2)) | (rw [add_block]; exact Kd.own_blk (Kd.R_away HO_4.out (fun _ hk => hk.2))) | (show (Addr.add _ _).block ≠ _; rw [add_block]; exact Kd.own_blk (Kd.R_away HO_4.out (fun _ hk => hk.2))) | (dsimp only; exact Kd.own_blk (Kd.R_away HO_4.out (fun _ hk => hk.2)))) _).trans (((cell_far (p := ⟨gb309, _, none⟩) (by first | exact Kd.own_blk (Kd.R_away HO_4.out (fun _ hk => hk.2)) | (rw [add_block]; exact Kd.own_blk (Kd.R_away HO_4.out (fun _ hk => hk.2))) | (show (Addr.add _ _).block ≠ _; rw [add_block]; exact Kd.own_blk (Kd.R_away HO_4.out (fun _ hk => hk.2))) | (dsimp only; exact Kd.own_blk (Kd.R_away HO_4.out (fun _ hk => hk.2)))) _).trans (hHeld.2.2.2.1)))))))), ((cell_far (p := ⟨gb309, _, none⟩) (by first | exact Kd.own_blk (Kd.R_away HO_4.out (fun _ hk => hk.2)) | (rw [add_block]; exact Kd.own_blk (Kd.R_away HO_4.out (fun _ hk => hk.2))) | (show (Addr.add _ _).block ≠ _; rw [add_block]; exact Kd.own_blk (Kd.R_away HO_4.out (fun _ hk => hk.2))) | (dsimp only; exact Kd.own_blk (Kd.R_away HO_4.out (fun _ hk => hk.2)))) _).trans (((cell_far (p := ⟨gb309, _, none⟩) (by first | exact Kd.own_blk (Kd.R_away HO_4.out (fun _ hk => hk.2)) | (rw [add_block]; exact Kd.own_blk (Kd.R_away HO_4.out (fun _ hk => hk.2))) | (show (Addr.add _ _).block ≠ _; rw [add_block]; exact Kd.own_blk (Kd.R_away HO_4.out (fun _ hk => hk.2))) | (dsimp only; exact Kd.own_blk (Kd.R_away HO_4.out (fun _ hk => hk.2)))) _).trans (((cell_far (p := ⟨gb309, _, none⟩) (by first | exact Kd.own_blk (Kd.R_away HO_4.out (fun _ hk => hk.2)) | (rw [add_block]; exact Kd.own_blk (Kd.R_away HO_4.out (fun _ hk => hk.2))) | (show (Addr.add _ _).block ≠ _; rw [add_block]; exact Kd.own_blk (Kd.R_away HO_4.out (fun _ hk => hk.2))) | (dsimp only; exact Kd.own_blk (Kd.R_away HO_4.out (fun _ hk => hk.2)))) _).trans (((cell_far (p := ⟨gb309, _, none⟩) (by first | exact Kd.own_blk (Kd.R_away HO_4.out (fun _ hk => hk.2)) | (rw [add_block]; exact Kd.own_blk (Kd.R_away HO_4.out (fun _ hk => hk.2))) | (show (Addr.add _ _).block ≠ _; rw [add_block]; exact Kd.own_blk (Kd.R_away HO_4.out (fun _ hk => hk.2))) | (dsimp only; exact Kd.own_blk (Kd.R_away HO_4.out (fun _ hk => hk.2)))) _).trans (hHeld.2.2.2.2.1)))))))), ((cell_far (p := ⟨gb309, _, none⟩) (by first | exact Kd.own_blk (Kd.R_away HO_4.out (fun _ hk => hk.2)) | (rw [add_block]; exact Kd.own_blk (Kd.R_away HO_4.out (fun _ hk => hk.2))) | (show (Addr.add _ _).block ≠ _; rw [add_block]; exact Kd.own_blk (Kd.R_away HO_4.out (fun _ hk => hk.2))) | (dsimp only; exact Kd.own_blk (Kd.R_away HO_4.out (fun _ hk => hk.2)))) _).trans (((cell_far (p := ⟨gb309, _, none⟩) (by first | exact Kd.own_blk (Kd.R_away HO_4.out (fun _ hk => hk.2)) | (rw [add_block]; exact Kd.own_blk (Kd.R_away HO_4.out (fun _ hk => hk.2))) | (show (Addr.add _ _).block ≠ _; rw [add_block]; exact Kd.own_blk (Kd.R_away HO_4.out (fun _ hk => hk.2))) | (dsimp only; exact Kd.own_blk (Kd.R_away HO_4.out (fun _ hk => hk.2)))) _).trans (((cell_far (p := ⟨gb309, _, none⟩) (by first | exact Kd.own_blk (Kd.R_away HO_4.out (fun _ hk => hk.2)) | (rw [add_block]; exact Kd.own_blk (Kd.R_away HO_4.out (fun _ hk => hk.2))) | (show (Addr.add _ _).block ≠ _; rw [add_block]; exact Kd.own_blk (Kd.R_away HO_4.out (fun _ hk => hk.2))) | (dsimp only; exact Kd.own_blk (Kd.R_away HO_4.out (fun _ hk => hk.2)))) _).trans (((cell_far (p := ⟨gb309, _, none⟩) (by first | exact Kd.own_blk (Kd.R_away HO_4.out (fun _ hk => hk.2)) | (rw [add_block]; exact Kd.own_blk (Kd.R_away HO_4.out (fun _ hk => hk.2))) | (show (Addr.add _ _).block ≠ _; rw [add_block]; exact Kd.own_blk (Kd.R_away HO_4.out (fun _ hk => hk.2))) | (dsimp only; exact Kd.own_blk (Kd.R_away HO_4.out (fun _ hk => hk.2)))) _).trans (hHeld.2.2.2.2.2))))))))⟩ (fun hHeld => ?_)
 clear hK K
 refine zq 14 (some 13) HT_ ?_; refine zq 15 (some 14) HT_ ?_
 refine done_ (done_of HT_.out (by kernel_rfl)) ?_
 go_upto_region 23 with (fail)
 go_cut [153] (fun v153 wc => ∃ (kq : Nat) (x153_69 : Bool), v153 = .bool x153_69 ∧ Aside0 (cellarlaw9_MemBack.j6 kq x3_1 t286 x5_3 x7_4 t293 x153_69 l0_0 l0_1 l0_2 l0_3 ((Int.tmod x5_3 2) == 0) (wrap64 (2 + (wrap64 (2 * (Int.tmod x3_1 2))))) = some r) ∧ Aside0 (kq ≤ kj44) ∧ Aside0 (Kd.R k62 62 wc w.heap.size (fun k_ => k_ ≠ gb290 ∧ k_ ≠ gb309) (.slice (some ad292) t286.length co26) t286) ∧ Aside0 (Kd.S k76 76 wc w.heap.size (fun _ => True) (.slice Ao71 t293.length co71) t293) ∧ Aside0 (wc.heap[gb279]? = some (.cells #[(.slice (some ad282) l0_0.length c0_0), (.slice A0_1 l0_1.length c0_1), (.slice A0_2 l0_2.length c0_2), (.slice A0_3 l0_3.length c0_3)] 54 (0, 0))) ∧ Aside0 (wc.heap[gb289]? = some (.cells #[.bool ((Int.tmod x5_3 2) == 0), .int .i64 (wrap64 (2 + (wrap64 (2 * (Int.tmod x3_1 2)))))] 29 (0, 0))) ∧ Aside0 (wc.heap[gb290]? = some (.cells #[.bool x291000_30, .int .i64 x291001_30, .int .i64 x291002_30, .int .i64 x291003_30] 62 (0, 0))) ∧ Aside0 (wc.heap[gb309]? = some (.cells #[.bool t303, .int .i64 t304, .int .i64 t305, .int .i64 t306] 62 (0, 0))) ∧ Aside0 (Below w.heap.size w wc))
 case first =>
  have H := HC70.out
  clear HC70
  replace H := Option.bind_eq_some_iff.mp H
  obtain ⟨t310, A800, H⟩ := H
  replace H : (if t310 = 0 then (if t307 = 0 then (if (!(t303 == x291000_30) || (!(t304 == x291001_30) || (!(t305 == x291002_30) || (!(t306 == x291003_30))))) = true then (cellarlaw9_MemBack.j6 kj44 x3_1 t286 x5_3 x7_4 t293 true l0_0 l0_1 l0_2 l0_3 ((Int.tmod x5_3 2) == 0) (wrap64 (2 + (wrap64 (2 * (Int.tmod x3_1 2)))))) else (if 0 ≤ x3_1 then (if x3_1 < (l0_0.length : Int) then (cellarlaw9_MemBack.j6 kj44 x3_1 t286 x5_3 x7_4 t293 ((t293.length : Int) != ((rd_L4 l0_0 x3_1).length : Int)) l0_0 l0_1 l0_2 l0_3 ((Int.tmod x5_3 2) == 0) (wrap64 (2 + (wrap64 (2 * (Int.tmod x3_1 2)))))) else (none)) else (none))) else (cellarlaw9_MemBack.j6 kj44 x3_1 t286 x5_3 x7_4 t293 true l0_0 l0_1 l0_2 l0_3 ((Int.tmod x5_3 2) == 0) (wrap64 (2 + (wrap64 (2 * (Int.tmod x3_1 2))))))) else (cellarlaw9_MemBack.j6 kj44 x3_1 t286 x5_3 x7_4 t293 true l0_0 l0_1 l0_2 l0_3 ((Int.tmod x5_3 2) == 0) (wrap64 (2 + (wrap64 (2 * (Int.tmod x3_1 2))))))) = some r := H
  have A80 := Aside0.mk A800
  clear A800
  by_cases c81 : t310 = 0
  rotate_left
  ·rw [if_neg c81] at H
   have c81b0 : (t310 == 0) = false := beq_eq_false_iff_ne.mpr c81
   have c81b1 : (t310 != 0) = true := bne_iff_ne.mpr c81
   (first | rw [c81b0] | rw [c81b1] | (simp only [i64_w, i32_w]; rw [c81b0]) | skip)
   have H' := Aside0.mk H
   clear H
   go_wp2_with (first | ((with_reducible refine gate_callee (f := 35) rfl ?_); refine zgo (some 132) Try.func35 #[.int .i64 t308] ?_; (with_reducible refine (cellarlaw9_num.calls t308 t310 _ A80.out).mono ?_); rintro e w' ⟨rfl, ⟨nd, rfl⟩⟩; refine ⟨_, rfl, ?_⟩))
   go_meet
   case rel => exact ⟨_, (true), (zr), H', ⟨by have := HK1.out; have := HJ9.out; have := HK3.out; have := HK4.out; have := HJ30.out; have := HJ44.out; first | omega | exact Nat.le_refl _⟩, ⟨by (with_reducible repeat (first | apply Kd.R_alloc | apply Kd.R_drewN | apply Kd.R_drew)); exact Kd.R_mono (Kd.R_far (p := ⟨gb309, 3, none⟩) (Kd.R_far (p := ⟨gb309, 2, none⟩) (Kd.R_far (p := ⟨gb309, 1, none⟩) (Kd.R_far (p := ⟨gb309, 0, none⟩) (Kd.R_mono HO_4.out (fun k_ hk => (⟨hk, hk.2⟩ : _ ∧ k_ ≠ gb309))) (fun _ hk => hk.2) (.bool t303)) (fun _ hk => hk.2) (.int .i64 t304)) (fun _ hk => hk.2) (.int .i64 t305)) (fun _ hk => hk.2) (.int .i64 t306)) (fun _ hk => ⟨hk.1.1, hk.1.2⟩)⟩, ⟨by (with_reducible repeat (first | apply Kd.S_alloc | apply Kd.S_drewN | apply Kd.S_drew)); exact Kd.S_mono (Kd.S_far (p := ⟨gb309, 3, none⟩) (Kd.S_far (p := ⟨gb309, 2, none⟩) (Kd.S_far (p := ⟨gb309, 1, none⟩) (Kd.S_far (p := ⟨gb309, 0, none⟩) (Kd.S_types HO_9.out BK309.out (by decide)) (fun _ hk => hk.2) (.bool t303)) (fun _ hk => hk.2) (.int .i64 t304)) (fun _ hk => hk.2) (.int .i64 t305)) (fun _ hk => hk.2) (.int .i64 t306)) (fun _ hk => trivial)⟩, ⟨zf1 BK279.out NB279_309.out⟩, ⟨zf1 BK289.out NB289_309.out⟩, ⟨zf1 BK290.out NB290_309.out⟩, ⟨by (with_reducible repeat (first | refine blk_drewN ?_ _ | refine blk_drew ?_ | refine blk_alloc ?_ _)); refine blk_put (cs := #[.bool t303, .int .i64 t304, .int .i64 t305, .int .i64 0]) ?_ 3 _ rfl; (with_reducible repeat (first | refine blk_drewN ?_ _ | refine blk_drew ?_ | refine blk_alloc ?_ _)); refine blk_put (cs := #[.bool t303, .int .i64 t304, .int .i64 0, .int .i64 0]) ?_ 2 _ rfl; (with_reducible repeat (first | refine blk_drewN ?_ _ | refine blk_drew ?_ | refine blk_alloc ?_ _)); refine blk_put (cs := #[.bool t303, .int .i64 0, .int .i64 0, .int .i64 0]) ?_ 1 _ rfl; (with_reducible repeat (first | refine blk_drewN ?_ _ | refine blk_drew ?_ | refine blk_alloc ?_ _)); refine blk_put (cs := #[.bool false, .int .i64 0, .int .i64 0, .int .i64 0]) ?_ 0 _ rfl; (with_reducible repeat (first | refine blk_drewN ?_ _ | refine blk_drew ?_ | refine blk_alloc ?_ _)); exact BK309.out⟩, ⟨zw4 HB.out GE279.out GE289.out GE290.out GE309.out⟩⟩
  rw [if_pos c81] at H
  have c81b0 : (t310 == 0) = true := beq_iff_eq.mpr c81
  have c81b1 : (t310 != 0) = false := bne_eq_false_iff_eq.mpr c81
  clear c81
  (first | rw [c81b0] | rw [c81b1] | (simp only [i64_w, i32_w]; rw [c81b0]) | skip)
  by_cases c82 : t307 = 0
  rotate_left
  ·rw [if_neg c82] at H
   have c82b0 : (t307 == 0) = false := beq_eq_false_iff_ne.mpr c82
   have c82b1 : (t307 != 0) = true := bne_iff_ne.mpr c82
   have H' := Aside0.mk H
   clear H
   go_wp2_with (first | ((with_reducible refine gate_callee (f := 35) rfl ?_); refine zgo (some 132) Try.func35 #[.int .i64 t308] ?_; (with_reducible refine (cellarlaw9_num.calls t308 t310 _ A80.out).mono ?_); rintro e w' ⟨rfl, ⟨nd, rfl⟩⟩; refine ⟨_, rfl, ?_⟩))
   go_meet
   case rel => exact ⟨_, (true), (zr), H', ⟨by have := HK1.out; have := HJ9.out; have := HK3.out; have := HK4.out; have := HJ30.out; have := HJ44.out; first | omega | exact Nat.le_refl _⟩, ⟨by (with_reducible repeat (first | apply Kd.R_alloc | apply Kd.R_drewN | apply Kd.R_drew)); exact Kd.R_mono (Kd.R_far (p := ⟨gb309, 3, none⟩) (Kd.R_far (p := ⟨gb309, 2, none⟩) (Kd.R_far (p := ⟨gb309, 1, none⟩) (Kd.R_far (p := ⟨gb309, 0, none⟩) (Kd.R_mono HO_4.out (fun k_ hk => (⟨hk, hk.2⟩ : _ ∧ k_ ≠ gb309))) (fun _ hk => hk.2) (.bool t303)) (fun _ hk => hk.2) (.int .i64 t304)) (fun _ hk => hk.2) (.int .i64 t305)) (fun _ hk => hk.2) (.int .i64 t306)) (fun _ hk => ⟨hk.1.1, hk.1.2⟩)⟩, ⟨by (with_reducible repeat (first | apply Kd.S_alloc | apply Kd.S_drewN | apply Kd.S_drew)); exact Kd.S_mono (Kd.S_far (p := ⟨gb309, 3, none⟩) (Kd.S_far (p := ⟨gb309, 2, none⟩) (Kd.S_far (p := ⟨gb309, 1, none⟩) (Kd.S_far (p := ⟨gb309, 0, none⟩) (Kd.S_types HO_9.out BK309.out (by decide)) (fun _ hk => hk.2) (.bool t303)) (fun _ hk => hk.2) (.int .i64 t304)) (fun _ hk => hk.2) (.int .i64 t305)) (fun _ hk => hk.2) (.int .i64 t306)) (fun _ hk => trivial)⟩, ⟨zf1 BK279.out NB279_309.out⟩, ⟨zf1 BK289.out NB289_309.out⟩, ⟨zf1 BK290.out NB290_309.out⟩, ⟨by (with_reducible repeat (first | refine blk_drewN ?_ _ | refine blk_drew ?_ | refine blk_alloc ?_ _)); refine blk_put (cs := #[.bool t303, .int .i64 t304, .int .i64 t305, .int .i64 0]) ?_ 3 _ rfl; (with_reducible repeat (first | refine blk_drewN ?_ _ | refine blk_drew ?_ | refine blk_alloc ?_ _)); refine blk_put (cs := #[.bool t303, .int .i64 t304, .int .i64 0, .int .i64 0]) ?_ 2 _ rfl; (with_reducible repeat (first | refine blk_drewN ?_ _ | refine blk_drew ?_ | refine blk_alloc ?_ _)); refine blk_put (cs := #[.bool t303, .int .i64 0, .int .i64 0, .int .i64 0]) ?_ 1 _ rfl; (with_reducible repeat (first | refine blk_drewN ?_ _ | refine blk_drew ?_ | refine blk_alloc ?_ _)); refine blk_put (cs := #[.bool false, .int .i64 0, .int .i64 0, .int .i64 0]) ?_ 0 _ rfl; (with_reducible repeat (first | refine blk_drewN ?_ _ | refine blk_drew ?_ | refine blk_alloc ?_ _)); exact BK309.out⟩, ⟨zw4 HB.out GE279.out GE289.out GE290.out GE309.out⟩⟩
  rw [if_pos c82] at H
  have c82b0 : (t307 == 0) = true := beq_iff_eq.mpr c82
  have c82b1 : (t307 != 0) = false := bne_eq_false_iff_eq.mpr c82
  clear c82
  by_cases c83 : (!(t303 == x291000_30) || (!(t304 == x291001_30) || (!(t305 == x291002_30) || (!(t306 == x291003_30))))) = true
  ·rw [if_pos c83] at H
   have c83b0 : (!(t303 == x291000_30) || (!(t304 == x291001_30) || (!(t305 == x291002_30) || (!(t306 == x291003_30))))) = true := c83
   clear c83
   have H' := Aside0.mk H
   clear H
   go_wp2_with (first | ((with_reducible refine gate_dst (N := 141) rfl ?_); (try (refine gate_guard (by rfl) ?_; dsimp only)); refine Kd.event_run (v := .bool true) (by rfl) (by go_simp; first | exact imp4 c83b0 | exact itb4 c83b0) ?_) | ((with_reducible refine gate_callee (f := 35) rfl ?_); refine zgo (some 132) Try.func35 #[.int .i64 t308] ?_; (with_reducible refine (cellarlaw9_num.calls t308 t310 _ A80.out).mono ?_); rintro e w' ⟨rfl, ⟨nd, rfl⟩⟩; refine ⟨_, rfl, ?_⟩; have hnb84 := NB309_279.out; have hnc84 := NB279_309.out; have hnb85 := NB309_289.out; have hnc85 := NB289_309.out; have hnb86 := NB309_290.out; have hnc86 := NB290_309.out; have hcz87_0 := zc BK309.out 0; have hcz87_1 := zc BK309.out 1; have hcz87_2 := zc BK309.out 2; have hcz87_3 := zc BK309.out 3; have hfz87_0 := blk_frozen BK309.out 0; have hfz87_1 := blk_frozen BK309.out 1; have hfz87_2 := blk_frozen BK309.out 2; have hfz87_3 := blk_frozen BK309.out 3; have hnb88 := NB290_279.out; have hnc88 := NB279_290.out; have hnb89 := NB290_289.out; have hnc89 := NB289_290.out; have hcz90_0 := zc BK290.out 0; have hcz90_1 := zc BK290.out 1; have hcz90_2 := zc BK290.out 2; have hcz90_3 := zc BK290.out 3; have hfz90_0 := blk_frozen BK290.out 0; have hfz90_1 := blk_frozen BK290.out 1; have hfz90_2 := blk_frozen BK290.out 2; have hfz90_3 := blk_frozen BK290.out 3))
   go_meet
   case rel => exact ⟨_, (true), (zr), H', ⟨by have := HK1.out; have := HJ9.out; have := HK3.out; have := HK4.out; have := HJ30.out; have := HJ44.out; first | omega | exact Nat.le_refl _⟩, ⟨by (with_reducible repeat (first | apply Kd.R_alloc | apply Kd.R_drewN | apply Kd.R_drew)); exact Kd.R_mono (Kd.R_far (p := ⟨gb309, 3, none⟩) (Kd.R_far (p := ⟨gb309, 2, none⟩) (Kd.R_far (p := ⟨gb309, 1, none⟩) (Kd.R_far (p := ⟨gb309, 0, none⟩) (Kd.R_mono HO_4.out (fun k_ hk => (⟨hk, hk.2⟩ : _ ∧ k_ ≠ gb309))) (fun _ hk => hk.2) (.bool t303)) (fun _ hk => hk.2) (.int .i64 t304)) (fun _ hk => hk.2) (.int .i64 t305)) (fun _ hk => hk.2) (.int .i64 t306)) (fun _ hk => ⟨hk.1.1, hk.1.2⟩)⟩, ⟨by (with_reducible repeat (first | apply Kd.S_alloc | apply Kd.S_drewN | apply Kd.S_drew)); exact Kd.S_mono (Kd.S_far (p := ⟨gb309, 3, none⟩) (Kd.S_far (p := ⟨gb309, 2, none⟩) (Kd.S_far (p := ⟨gb309, 1, none⟩) (Kd.S_far (p := ⟨gb309, 0, none⟩) (Kd.S_types HO_9.out BK309.out (by decide)) (fun _ hk => hk.2) (.bool t303)) (fun _ hk => hk.2) (.int .i64 t304)) (fun _ hk => hk.2) (.int .i64 t305)) (fun _ hk => hk.2) (.int .i64 t306)) (fun _ hk => trivial)⟩, ⟨zf1 BK279.out NB279_309.out⟩, ⟨zf1 BK289.out NB289_309.out⟩, ⟨zf1 BK290.out NB290_309.out⟩, ⟨by (with_reducible repeat (first | refine blk_drewN ?_ _ | refine blk_drew ?_ | refine blk_alloc ?_ _)); refine blk_put (cs := #[.bool t303, .int .i64 t304, .int .i64 t305, .int .i64 0]) ?_ 3 _ rfl; (with_reducible repeat (first | refine blk_drewN ?_ _ | refine blk_drew ?_ | refine blk_alloc ?_ _)); refine blk_put (cs := #[.bool t303, .int .i64 t304, .int .i64 0, .int .i64 0]) ?_ 2 _ rfl; (with_reducible repeat (first | refine blk_drewN ?_ _ | refine blk_drew ?_ | refine blk_alloc ?_ _)); refine blk_put (cs := #[.bool t303, .int .i64 0, .int .i64 0, .int .i64 0]) ?_ 1 _ rfl; (with_reducible repeat (first | refine blk_drewN ?_ _ | refine blk_drew ?_ | refine blk_alloc ?_ _)); refine blk_put (cs := #[.bool false, .int .i64 0, .int .i64 0, .int .i64 0]) ?_ 0 _ rfl; (with_reducible repeat (first | refine blk_drewN ?_ _ | refine blk_drew ?_ | refine blk_alloc ?_ _)); exact BK309.out⟩, ⟨zw4 HB.out GE279.out GE289.out GE290.out GE309.out⟩⟩
  rw [if_neg c83] at H
  have c83b0 : (!(t303 == x291000_30) || (!(t304 == x291001_30) || (!(t305 == x291002_30) || (!(t306 == x291003_30))))) = false := by simpa using c83
  have c83e_ : t303 = x291000_30 ∧ t304 = x291001_30 ∧ t305 = x291002_30 ∧ t306 = x291003_30 := by simpa using c83b0
  obtain ⟨c83e0, c83e1, c83e2, c83e3⟩ := c83e_
  replace c83e0 := eq_true c83e0
  replace c83e1 := eq_true c83e1
  replace c83e2 := eq_true c83e2
  replace c83e3 := eq_true c83e3
  clear c83
  by_cases c91 : 0 ≤ x3_1
  rotate_left
  ·rw [if_neg c91] at H
   exact absurd H (by simp)
  rw [if_pos c91] at H
  have c91b0 : decide (0 ≤ x3_1) = true := decide_eq_true c91
  clear c91
  by_cases c92 : x3_1 < (l0_0.length : Int)
  rotate_left
  ·rw [if_neg c92] at H
   exact absurd H (by simp)
  rw [if_pos c92] at H
  have c92b0 : decide (x3_1 < (l0_0.length : Int)) = true := decide_eq_true c92
  clear c92
  have H' := Aside0.mk H
  clear H
  go_wp2_with (first | ((with_reducible refine gate_callee (f := 35) rfl ?_); refine zgo (some 132) Try.func35 #[.int .i64 t308] ?_; (with_reducible refine (cellarlaw9_num.calls t308 t310 _ A80.out).mono ?_); rintro e w' ⟨rfl, ⟨nd, rfl⟩⟩; refine ⟨_, rfl, ?_⟩; have hnb93 := NB309_279.out; have hnc93 := NB279_309.out; have hnb94 := NB309_289.out; have hnc94 := NB289_309.out; have hnb95 := NB309_290.out; have hnc95 := NB290_309.out; have hcz96_0 := zc BK309.out 0; have hcz96_1 := zc BK309.out 1; have hcz96_2 := zc BK309.out 2; have hcz96_3 := zc BK309.out 3; have hfz96_0 := blk_frozen BK309.out 0; have hfz96_1 := blk_frozen BK309.out 1; have hfz96_2 := blk_frozen BK309.out 2; have hfz96_3 := blk_frozen BK309.out 3; have hnb97 := NB290_279.out; have hnc97 := NB279_290.out; have hnb98 := NB290_289.out; have hnc98 := NB289_290.out; have hcz99_0 := zc BK290.out 0; have hcz99_1 := zc BK290.out 1; have hcz99_2 := zc BK290.out 2; have hcz99_3 := zc BK290.out 3; have hfz99_0 := blk_frozen BK290.out 0; have hfz99_1 := blk_frozen BK290.out 1; have hfz99_2 := blk_frozen BK290.out 2; have hfz99_3 := blk_frozen BK290.out 3; have hnb100 := NB279_289.out; have hnc100 := NB289_279.out; have hcz101_0 := zc BK279.out 0; have hcz101_1 := zc BK279.out 1; have hcz101_2 := zc BK279.out 2; have hcz101_3 := zc BK279.out 3; have hfz101_0 := blk_frozen BK279.out 0; have hfz101_1 := blk_frozen BK279.out 1; have hfz101_2 := blk_frozen BK279.out 2; have hfz101_3 := blk_frozen BK279.out 3; have p311 : 0 ≤ (x3_1 : Int) := zdec; have q311 : x3_1 < (l0_0.length : Int) := zdec; obtain ⟨ad311, A311_0, c311_0, e311, hx311_0, hl311_0, hi311_0⟩ := at_L4 HR0_0.out x3_1 p311 q311; obtain rfl : ad282 = ad311 := (by injection e311); have hn311_0 : ad282.block ≠ gb309 := zx (zfar hx311_0 GW309.out); have hn311_1 : ad282.block ≠ gb309 := zx (zfar hx311_0 GW309.out); have hn311_2 : ad282.block ≠ gb309 := zx (zfar hx311_0 GW309.out); have hn311_3 : ad282.block ≠ gb309 := zx (zfar hx311_0 GW309.out); replace hx311_0 := zh HB.out hx311_0; have HR311_0 := Aside0.mk hi311_0; have HC311_0 := Aside0.mk hl311_0; clear hi311_0 hl311_0; replace hx311_0 := (cell_far (p := ⟨gb309, 0, none⟩) (zy hn311_0) (.bool t303)).trans hx311_0; replace hx311_0 := (cell_far (p := ⟨gb309, 1, none⟩) (zy hn311_1) (.int .i64 t304)).trans hx311_0; replace hx311_0 := (cell_far (p := ⟨gb309, 2, none⟩) (zy hn311_2) (.int .i64 t305)).trans hx311_0; replace hx311_0 := (cell_far (p := ⟨gb309, 3, none⟩) (zy hn311_3) (.int .i64 t306)).trans hx311_0; clear hn311_0; clear hn311_1; clear hn311_2; clear hn311_3; replace p311 := eq_true p311; replace q311 := eq_true q311))
  go_meet
  case rel => exact ⟨_, (((t293.length : Int) != ((rd_L4 l0_0 x3_1).length : Int))), (zr), H', ⟨by have := HK1.out; have := HJ9.out; have := HK3.out; have := HK4.out; have := HJ30.out; have := HJ44.out; first | omega | exact Nat.le_refl _⟩, ⟨by (with_reducible repeat (first | apply Kd.R_alloc | apply Kd.R_drewN | apply Kd.R_drew)); exact Kd.R_mono (Kd.R_far (p := ⟨gb309, 3, none⟩) (Kd.R_far (p := ⟨gb309, 2, none⟩) (Kd.R_far (p := ⟨gb309, 1, none⟩) (Kd.R_far (p := ⟨gb309, 0, none⟩) (Kd.R_mono HO_4.out (fun k_ hk => (⟨hk, hk.2⟩ : _ ∧ k_ ≠ gb309))) (fun _ hk => hk.2) (.bool t303)) (fun _ hk => hk.2) (.int .i64 t304)) (fun _ hk => hk.2) (.int .i64 t305)) (fun _ hk => hk.2) (.int .i64 t306)) (fun _ hk => ⟨hk.1.1, hk.1.2⟩)⟩, ⟨by (with_reducible repeat (first | apply Kd.S_alloc | apply Kd.S_drewN | apply Kd.S_drew)); exact Kd.S_mono (Kd.S_far (p := ⟨gb309, 3, none⟩) (Kd.S_far (p := ⟨gb309, 2, none⟩) (Kd.S_far (p := ⟨gb309, 1, none⟩) (Kd.S_far (p := ⟨gb309, 0, none⟩) (Kd.S_types HO_9.out BK309.out (by decide)) (fun _ hk => hk.2) (.bool t303)) (fun _ hk => hk.2) (.int .i64 t304)) (fun _ hk => hk.2) (.int .i64 t305)) (fun _ hk => hk.2) (.int .i64 t306)) (fun _ hk => trivial)⟩, ⟨zf1 BK279.out NB279_309.out⟩, ⟨zf1 BK289.out NB289_309.out⟩, ⟨zf1 BK290.out NB290_309.out⟩, ⟨by (with_reducible repeat (first | refine blk_drewN ?_ _ | refine blk_drew ?_ | refine blk_alloc ?_ _)); refine blk_put (cs := #[.bool t303, .int .i64 t304, .int .i64 t305, .int .i64 0]) ?_ 3 _ rfl; (with_reducible repeat (first | refine blk_drewN ?_ _ | refine blk_drew ?_ | refine blk_alloc ?_ _)); refine blk_put (cs := #[.bool t303, .int .i64 t304, .int .i64 0, .int .i64 0]) ?_ 2 _ rfl; (with_reducible repeat (first | refine blk_drewN ?_ _ | refine blk_drew ?_ | refine blk_alloc ?_ _)); refine blk_put (cs := #[.bool t303, .int .i64 0, .int .i64 0, .int .i64 0]) ?_ 1 _ rfl; (with_reducible repeat (first | refine blk_drewN ?_ _ | refine blk_drew ?_ | refine blk_alloc ?_ _)); refine blk_put (cs := #[.bool false, .int .i64 0, .int .i64 0, .int .i64 0]) ?_ 0 _ rfl; (with_reducible repeat (first | refine blk_drewN ?_ _ | refine blk_drew ?_ | refine blk_alloc ?_ _)); exact BK309.out⟩, ⟨zw4 HB.out GE279.out GE289.out GE290.out GE309.out⟩⟩
 case rest =>
 rename_i q9_ q24_ q25_ q26_ q29_ q30_ _ _ _ _ _ _ _ _ _ _ _ _ _ _ _ _ _ _ _ _ _ _ _ _ _ _ _ _ _ _ _ _ _ _ _ _ _ _ _ _ _ _ _ _ _ _ _ _ _ _ _ _ _ _ _ _ _ _ _ _ _ _ _ _ _ _ _ _ _ _ _ _ _ _ _ _ _ _ _ _ _ _ _ _ _ _ _ _ _ _ _ _ _ _ _ _ _ _ _ _ _ _ _ _ _ _ _ _ _ _ _ _ _ _ _ _ _ _ _ _ _ _ _ _ _ _ _ _ _ _ _ _ _ _ _ _ _ _ _ _ _ _ _ _ _ _ _ _ _ _ _ _ _ _ _ _ _ _ _ _ _ _ _ _ _ _ _ _ _ _ _ _ _ _ _ _ _ _ _ _ _ _ _ _ _ _ _ _ _ q31_ q32_ q33_ q34_ q35_ q36_
 clear q9_ q24_ q25_ q26_ q29_ q30_ q31_ q32_
 revert k c0_0 l0_0 A0_1 c0_1 l0_1 A0_2 c0_2 l0_2 A0_3 c0_3 l0_3 r w hu54 hu29 hu62 hu74 HC0_0 HR0_1 HC0_1 HR0_2 HC0_2 HR0_3 HC0_3 A2 q1_ gb279 w7 GW279 GE279 hfz8_0 hfz8_1 hfz8_2 hfz8_3 q2_ q3_ q4_ q5_ x3_1 k1 q7_ HK1 q8_ u30 u31 u32 u33 u34 u35 u36 u37 u39 u40 kj9 HJ9 c15b0 c16b0 t283 A17 t284 A18 c19b0 c19b1 t286 A20 hfz21_0 hfz21_1 hfz21_2 hfz21_3 ad282 A282_0 c282_0 HR0_0 hcz8_0 hcz8_1 hcz8_2 hcz8_3 q6_ hcz21_0 hcz21_1 hcz21_2 hcz21_3 hx282_0 HR282_0 HC282_0 p282 q282 q10_ q11_ A285_0 c285_0 hw285_0 HR285_0 HC285_0 p285 q285 w23 hx285_0 w24 e285 u19 u20 u21 u22 u23 u24 u25 u26 u27 u60 u61 u259 u260 u261 u262 u263 u264 u265 u266 u267 u268 u269 u270 u271 u272 u273 u274 u275 u276 u277 u278 u279 u280 u281 u282 u283 u284 u285 u286 u287 u288 u289 u290 u291 u292 u293 u294 u295 u296 u297 u298 u299 u300 u301 u302 u303 u304 u305 u306 u307 u308 u309 u310 u311 u312 u313 u314 u315 u316 u317 u318 u319 u320 u321 u322 u323 u324 u325 u326 u327 u328 u329 u330 u331 u332 u333 q13_ q14_ x5_3 k3 q16_ HK3 c25b0 co26 q12_ q17_ gb289 w27 GW289 GE289 NB279_289 NB289_279 hnb28 hnc28 hcz29_0 hcz29_1 hfz29_0 hfz29_1 q18_ q19_ wr u2 u15 u16 u17 u18 q20_ q21_ x7_4 k4 q23_ HK4 c30b0 q27_ q28_ gb290 w32 GW290 GE290 NB279_290 NB290_279 NB289_290 NB290_289 hnb33 hnc33 hnb34 hnc34 hcz35_0 hcz35_1 hcz35_2 hcz35_3 hfz35_0 hfz35_1 hfz35_2 hfz35_3 x291000_30 x291001_30 x291002_30 x291003_30 kj30 HJ30 c40b0 c41b0 c42b0 c43b0 t293 t296 t297 A44 A291_0 c291_0 hw291_0 HR291_0 HC291_0 p291 q291 ad292 HO288 q15_ q22_ p292 q292 w46 hx291_0 hx292_0 hx292_1 hx292_2 hx292_3 w47 HS11_ HS12_ HS13_ HS14_ kj44 HJ44 c67b0 c68b0 t303 t304 t305 t306 t307 t308 A69 HC70 Ao71 co71 HO295 e291 e302 p302 q302 HT_ HW_ w72 hx302_0 hx302_1 hx302_2 hx302_3 gb309 w75 hS_ HO_4 HO_9 BK279 BK289 BK290 BK309 GW309 GE309 NB279_309 NB309_279 NB289_309 NB309_289 NB290_309 NB309_290 HB hs76 hfs76 hns76_0 hns76_1 hns76_2 hms76_0 hms76_1 hms76_2 hs77 hfs77 hns77_0 hns77_1 hns77_2 hms77_0 hms77_1 hms77_2 hs78 hfs78 hns78_0 hns78_1 hns78_2 hms78_0 hms78_1 hms78_2 hs79 hfs79 hns79_0 hns79_1 hns79_2 hms79_0 hms79_1 hms79_2 hHeld q33_ q34_ q35_ q36_ wc u70 u71 u72 u73 u74 u75 u76 u77 u78 u79 u80 u81 u82 u83 u84 u85 u86 u87 u88 u89 u90 u91 u92 u93 u94 u95 u96 u97 u98 u99 u100 u101 u102 u103 u104 u105 u106 u107 u108 u109 u110 u111 u112 u113 u114 u115 u116 u117 u118 u119 u120 u121 u122 u123 u124 u125 u126 u127 u128 u129 u130 u131 u132 u133 u134 u135 u136 u137 u138 u139 u140 u141 u142 u143 u144 u145 u146 u147 u148 u149 u150 u151 u152 u153 u154 u155 u156 u157 u158 u159 u160 u161 u162 u163 u164 u165 u166 u167 u168 u169 u170 u171 u172 u173 u174 u175 u176 u177 u178 u179 u180 u181 u182 u183 u184 u185 u186 u187 u188 u189 u190 u191 u192 u193 u194 u195 u196 u197 u198 u199 u200 u201 u202 u203 u204 u205 u206 u207 u208 u209 u210 u211 u212 u213 u214 u215 u216 u217 u218 u219 u220 u221 u222 u223 u224 u225 u226 u227 u228 u229 u230 u231 u232 u233 u234 u235 u236 u237 u238 u239 u240 u241 u242 u243 u244 u245 u246 u247 u248 u249 u250 u251 u252 u253 u254 u255 u256 u257 u258 hcut
 exact cutP1.out
end Go.Proofs.Ytjoplkillkhiaaa.Q2
