-- Written by this session's own edition of the print.
import Derived.Test.YtjoplkillkhiaaaQ2x0
import Derived.Test.YtjoplkillkhiaaaQ2x1
import Derived.Test.YtjoplkillkhiaaaQ2x2
import Derived.Test.YtjoplkillkhiaaaQ2x3
import Derived.Test.YtjoplkillkhiaaaQ2x6
import Derived.Test.YtjoplkillkhiaaaQ2x7
import Derived.Test.YtjoplkillkhiaaaQ2x10
import Derived.Test.YtjoplkillkhiaaaQ2x11
import Derived.Test.YtjoplkillkhiaaaYSq
import Derived.Test.YtjoplkillkhiaaaYSq2
import Derived.Test.YtjoplkillkhiaaaYSq3
import Derived.Test.YtjoplkillkhiaaaQ2x12
import Derived.Test.YtjoplkillkhiaaaCut
import Derived.Test.YtjoplkillkhiaaaQ2y
import Derived.Test.YtjoplkillkhiaaaQ2ya
import Derived.Test.YtjoplkillkhiaaaQ2yaa
import Derived.Test.YtjoplkillkhiaaaQ2yaaa
import Derived.Test.YtjoplkillkhiaaaQ2yaaaa
namespace Go.Proofs.Ytjoplkillkhiaaa.Q2
open Go.Proofs.Ytjoplkillkhiaaa.Cuts Go.RowKit Go.Proofs.Ytjoplkillkhiaaa.Fn Go.Proofs.YtjoplkillkhiaaaW.PrintWords Go.Proofs.YtjoplkillkhiaaaW.PrintLast Go.Proofs.YtjoplkillkhiaaaW.PrintMore
set_option linter.unusedVariables false
set_option linter.unusedSimpArgs false
set_option maxHeartbeats 60000000 in
set_option maxRecDepth 100000 in
noncomputable def cellarlaw9_MemBack.cut_aaaab : Cut1 (cellarlaw9_MemBack.cut_aaaa.P2) := by
 apply Cut1.mk
 case h =>
 intro cutP1
 intro k c0_0 l0_0 A0_1 c0_1 l0_1 A0_2 c0_2 l0_2 A0_3 c0_3 l0_3 r w hu54 hu29 hu62 hu74 HC0_0 HR0_1 HC0_1 HR0_2 HC0_2 HR0_3 HC0_3 A2 q1_ gb279 w7 GW279 GE279 hfz8_0 hfz8_1 hfz8_2 hfz8_3 q2_ q3_ q4_ q5_ x3_1 k1 q7_ HK1 q8_ u30 u31 u32 u33 u34 u35 u36 u37 u39 u40 kj9 HJ9 c15b0 c16b0 t283 A17 t284 A18 c19b0 c19b1 t286 A20 hfz21_0 hfz21_1 hfz21_2 hfz21_3 ad282 A282_0 c282_0 HR0_0 hcz8_0 hcz8_1 hcz8_2 hcz8_3 q6_ hcz21_0 hcz21_1 hcz21_2 hcz21_3 hx282_0 HR282_0 HC282_0 p282 q282 q10_ q11_ nd A285_0 c285_0 hw285_0 HR285_0 HC285_0 p285 q285 HT_ HW_ w23 hx285_0 w24 hHeld e285 u19 u20 u21 u22 u23 u24 u25 u26 u27 u60 u61 u259 u260 u261 u262 u263 u264 u265 u266 u267 u268 u269 u270 u271 u272 u273 u274 u275 u276 u277 u278 u279 u280 u281 u282 u283 u284 u285 u286 u287 u288 u289 u290 u291 u292 u293 u294 u295 u296 u297 u298 u299 u300 u301 u302 u303 u304 u305 u306 u307 u308 u309 u310 u311 u312 u313 u314 u315 u316 u317 u318 u319 u320 u321 u322 u323 u324 u325 u326 u327 u328 u329 u330 u331 u332 u333 q13_ q14_ x5_3 k3 q16_ HK3 c25b0 Ao26 co26 HO288 q15_ q12_ q17_ gb289 w27 GW289 GE289 NB279_289 NB289_279 hnb28 hnc28 hcz29_0 hcz29_1 hfz29_0 hfz29_1 q18_ q19_ wr u2 u9 u10 u11 u12 u13 u14 u15 u16 u17 u18 q20_ q21_ q22_ x7_4 k4 q23_ HK4 c30b0 HC31 q27_ q28_ gb290 w32 BK290 GW290 GE290 NB279_290 NB290_279 NB289_290 NB290_289 HO_4 BK279 BK289 HB hnb33 hnc33 hnb34 hnc34 hcz35_0 hcz35_1 hcz35_2 hcz35_3 hfz35_0 hfz35_1 hfz35_2 hfz35_3 q29_ q30_ wc u70 u71 u72 u73 u74 u75 u76 u77 u78 u79 u80 u81 u82 u83 u84 u85 u86 u87 u88 u89 u90 u91 u92 u93 u94 u95 u96 u97 u98 u99 u100 u101 u102 u103 u104 u105 u106 u107 u108 u109 u110 u111 u112 u113 u114 u115 u116 u117 u118 u119 u120 u121 u122 u123 u124 u125 u126 u127 u128 u129 u130 u131 u132 u133 u134 u135 u136 u137 u138 u139 u140 u141 u142 u143 u144 u145 u146 u147 u148 u149 u150 u151 u152 u153 u154 u155 u156 u157 u158 u159 u160 u161 u162 u163 u164 u165 u166 u167 u168 u169 u170 u171 u172 u173 u174 u175 u176 u177 u178 u179 u180 u181 u182 u183 u184 u185 u186 u187 u188 u189 u190 u191 u192 u193 u194 u195 u196 u197 u198 u199 u200 u201 u202 u203 u204 u205 u206 u207 u208 u209 u210 u211 u212 u213 u214 u215 u216 u217 u218 u219 u220 u221 u222 u223 u224 u225 u226 u227 u228 u229 u230 u231 u232 u233 u234 u235 u236 u237 u238 u239 u240 u241 u242 u243 u244 u245 u246 u247 u248 u249 u250 u251 u252 u253 u254 u255 u256 u257 u258 hcut
 clear HC31
 try clear c1; try clear c2; try clear p2; try clear q2; try clear c3; try clear c4; try clear p6; try clear c9; try clear c11; try clear c11b0; try clear c14; try clear c15; try clear c15b0; try clear c16; try clear c16b0; try clear c19; try clear c19b0; try clear c19b1; try clear c25; try clear c25b0; try clear c28; try clear p28; try clear q28; try clear c29; try clear c30; try clear c30b0; try clear c33; try clear c34; try clear c35; try clear c36; try clear c36b0; try clear c36b1; try clear c37; try clear c38; try clear p2; try clear p28; try clear p282; try clear p285; try clear p6; try clear q2; try clear q28; try clear q282; try clear q285
 obtain ⟨kq, x291000_30, x291001_30, x291002_30, x291003_30, HA, HJ30, HO_4, BK279, BK289, BK290, HB⟩ := hcut
 cases kq with
 | zero => exact absurd HA.out (by simp [cellarlaw9_MemBack.j4])
 | succ kj30 =>
 have H := HA.out
 clear HA
 simp only [cellarlaw9_MemBack.j4] at H
 by_cases c40 : 0 ≤ x3_1
 rotate_left
 ·rw [if_neg c40] at H
  exact absurd H (by simp)
 rw [if_pos c40] at H
 have c40b0 : decide (0 ≤ x3_1) = true := decide_eq_true c40
 clear c40
 by_cases c41 : x3_1 < (l0_0.length : Int)
 rotate_left
 ·rw [if_neg c41] at H
  exact absurd H (by simp)
 rw [if_pos c41] at H
 have c41b0 : decide (x3_1 < (l0_0.length : Int)) = true := decide_eq_true c41
 clear c41
 by_cases c42 : 0 ≤ x5_3
 rotate_left
 ·rw [if_neg c42] at H
  exact absurd H (by simp)
 rw [if_pos c42] at H
 have c42b0 : decide (0 ≤ x5_3) = true := decide_eq_true c42
 clear c42
 by_cases c43 : x5_3 < (t286.length : Int)
 rotate_left
 ·rw [if_neg c43] at H
  exact absurd H (by simp)
 rw [if_pos c43] at H
 have c43b0 : decide (x5_3 < (t286.length : Int)) = true := decide_eq_true c43
 clear c43
 replace H := Option.bind_eq_some_iff.mp H
 obtain ⟨⟨t293, t296, t297⟩, A440, H⟩ := H
 replace H : ((cellarlaw9_num.f t297).bind fun t298 => (if t298 = 0 then (cellarlaw9_MemBack.j5 kj30 x3_1 t286 x5_3 x7_4 t293 t297 (t296 != 0) l0_0 l0_1 l0_2 l0_3 ((Int.tmod x5_3 2) == 0) (wrap64 (2 + (wrap64 (2 * (Int.tmod x3_1 2))))) x291000_30 x291001_30 x291002_30 x291003_30) else (cellarlaw9_MemBack.j5 kj30 x3_1 t286 x5_3 x7_4 t293 t297 true l0_0 l0_1 l0_2 l0_3 ((Int.tmod x5_3 2) == 0) (wrap64 (2 + (wrap64 (2 * (Int.tmod x3_1 2))))) x291000_30 x291001_30 x291002_30 x291003_30))) = some r := H
 have A44 := Aside0.mk A440
 clear A440
 have HC45 := Aside0.mk H
 clear H
 try go_wp2
 have n0_ := Aside0.mk (Kd.R_drew HO_4.out)
 have n1_ := Aside0.mk (blk_drew BK279.out)
 have n2_ := Aside0.mk (blk_drew BK289.out)
 have n3_ := Aside0.mk (blk_drew BK290.out)
 have n4_ := Aside0.mk (below_drew1 HB.out)
 clear HO_4
 clear BK279
 clear BK289
 clear BK290
 clear HB
 have HO_4 := n0_
 have BK279 := n1_
 have BK289 := n2_
 have BK290 := n3_
 have HB := n4_
 clear n0_ n1_ n2_ n3_ n4_
 have p291 : 0 ≤ (x3_1 : Int) := zdec
 have q291 : x3_1 < (l0_0.length : Int) := zdec
 obtain ⟨ad291, A291_0, c291_0, e291, hx291_0, hl291_0, hi291_0⟩ := at_L4 HR0_0.out x3_1 p291 q291
 have hw291_0 := hx291_0
 obtain rfl : ad282 = ad291 := (by injection e291)
 replace hx291_0 := zh HB.out hx291_0
 have HR291_0 := Aside0.mk hi291_0
 have HC291_0 := Aside0.mk hl291_0
 clear hi291_0 hl291_0
 replace p291 := eq_true p291
 replace q291 := eq_true q291
 have p292 : 0 ≤ (x5_3 : Int) := zdec
 have q292 : x5_3 < (t286.length : Int) := zdec
 obtain ⟨ad292, e292, hx292_0, hx292_1, hx292_2, hx292_3⟩ := at_T62 (Kd.R_reads' HO_4.out).2.2 x5_3 p292 q292
 cases e292
 replace p292 := eq_true p292
 replace q292 := eq_true q292
 refine start_ (n := 20) (S := fun w' => w'.cell? ⟨gb289, 0, none⟩ = some (.bool ((Int.tmod x5_3 2) == 0)) ∧ w'.cell? ⟨gb289, 1, none⟩ = some (.int .i64 (wrap64 (2 + (wrap64 (2 * (Int.tmod x3_1 2)))))) ∧ w'.cell? ⟨gb279, 0, none⟩ = some (.slice (some ad282) l0_0.length c0_0) ∧ w'.cell? ⟨gb279, 1, none⟩ = some (.slice A0_1 l0_1.length c0_1) ∧ w'.cell? ⟨gb279, 2, none⟩ = some (.slice A0_2 l0_2.length c0_2) ∧ w'.cell? ⟨gb279, 3, none⟩ = some (.slice A0_3 l0_3.length c0_3) ∧ w'.cell? ⟨gb290, 0, none⟩ = some (.bool x291000_30) ∧ w'.cell? ⟨gb290, 1, none⟩ = some (.int .i64 x291001_30) ∧ w'.cell? ⟨gb290, 2, none⟩ = some (.int .i64 x291002_30) ∧ w'.cell? ⟨gb290, 3, none⟩ = some (.int .i64 x291003_30) ∧ w'.cell? (ad282.add (x3_1).toNat) = some (.slice A291_0 (rd_L4 l0_0 x3_1).length c291_0) ∧ w'.cell? (ad292.add ((x5_3).toNat * 4)) = some (.bool ((rd_T62 t286 x5_3).f0)) ∧ w'.cell? ⟨(ad292.add ((x5_3).toNat * 4)).block, (ad292.add ((x5_3).toNat * 4)).off + 1, none⟩ = some (.int .i64 ((rd_T62 t286 x5_3).f1)) ∧ w'.cell? ⟨(ad292.add ((x5_3).toNat * 4)).block, (ad292.add ((x5_3).toNat * 4)).off + 2, none⟩ = some (.int .i64 ((rd_T62 t286 x5_3).f2)) ∧ w'.cell? ⟨(ad292.add ((x5_3).toNat * 4)).block, (ad292.add ((x5_3).toNat * 4)).off + 3, none⟩ = some (.int .i64 ((rd_T62 t286 x5_3).f3))) (ds := []) cellarlaw9_MemBack.b0 (by kernel_rfl) rfl rfl ⟨(blk_cell BK289.out 0).trans rfl, (blk_cell BK289.out 1).trans rfl, (blk_cell BK279.out 0).trans rfl, (blk_cell BK279.out 1).trans rfl, (blk_cell BK279.out 2).trans rfl, (blk_cell BK279.out 3).trans rfl, (blk_cell BK290.out 0).trans rfl, (blk_cell BK290.out 1).trans rfl, (blk_cell BK290.out 2).trans rfl, (blk_cell BK290.out 3).trans rfl, ((HB.out.cell (World.block_lt_of_cell? w _ hw291_0)).trans hw291_0), hx292_0, hx292_1, hx292_2, hx292_3⟩ (fun hHeld => ?_); refine with_tabW cellarlaw9_MemBack.tab18 cellarlaw9_MemBack.bits18 (fun HT_ HW_ => ?_)
 generalize wc.drew = w46 at HO_4 BK279 BK289 BK290 HB HR291_0 hx291_0 hx292_0 hx292_1 hx292_2 hx292_3 hHeld ⊢
 refine zq 1 (some 84) HT_ ?_; refine zq 3 (some 86) HT_ ?_; refine zq 6 (some 89) HT_ ?_; refine zq 7 (some 90) HT_ ?_; refine zq 8 (some 91) HT_ ?_; refine zq 10 (some 93) HT_ ?_; refine zt 0 (some 83) HT_ HW_ hHeld ?_; refine zt 2 (some 85) HT_ HW_ hHeld ?_; refine zq 4 (some 87) HT_ ?_; refine zt 5 (some 88) HT_ HW_ hHeld ?_; refine zt 9 (some 92) HT_ HW_ hHeld ?_; refine zt 11 (some 94) HT_ HW_ hHeld ?_
 refine one_ (i := 12) (N := some 95) cellarlaw9_MemBack.b13 rfl rfl (one_of HT_.out (by kernel_rfl)) (by decide) (fun K hK => ?_)
 refine goes_ Try.func30 (by kernel_rfl) rfl #[.agg #[.bool ((Int.tmod x5_3 2) == 0), .int .i64 (wrap64 (2 + (wrap64 (2 * (Int.tmod x3_1 2)))))], .slice A291_0 (rd_L4 l0_0 x3_1).length c291_0, .agg #[.bool ((rd_T62 t286 x5_3).f0), .int .i64 ((rd_T62 t286 x5_3).f1), .int .i64 ((rd_T62 t286 x5_3).f2), .int .i64 ((rd_T62 t286 x5_3).f3)], .int .i64 x7_4, .agg #[.bool x291000_30, .int .i64 x291001_30, .int .i64 x291002_30, .int .i64 x291003_30]] (by rfl) rfl rfl (by (try simp only [List.map_toArray, List.map_cons, List.map_nil]); first | done | rfl | (simp only [List.length_drop, List.length_take]; rfl)) ?_
 with_reducible refine (mem_Store.calls kj30 ((Int.tmod x5_3 2) == 0) (wrap64 (2 + (wrap64 (2 * (Int.tmod x3_1 2))))) _ _ (rd_L4 l0_0 x3_1) ((rd_T62 t286 x5_3).f0) ((rd_T62 t286 x5_3).f1) ((rd_T62 t286 x5_3).f2) ((rd_T62 t286 x5_3).f3) x7_4 x291000_30 x291001_30 x291002_30 x291003_30 t293 t296 t297 _ ?side1 ?side2 A44.out).mono ?_
 (case side1 => repeat (first | exact (Kd.C_below HR291_0.out HB.out) | (with_reducible refine Kd.C_alloc ?_ _) | (with_reducible refine Kd.C_drewN ?_ _) | (with_reducible refine Kd.C_drew ?_)))
 (case side2 => exact HC291_0.out)
 rintro e w47 ⟨v294, rfl, ho0, hb⟩
 have HS11_ := (hb.cell (World.block_lt_of_cell? _ _ (hHeld.2.2.2.2.2.2.2.2.2.2.2.1))).trans (hHeld.2.2.2.2.2.2.2.2.2.2.2.1)
 have HS12_ := (hb.cell (World.block_lt_of_cell? _ _ (hHeld.2.2.2.2.2.2.2.2.2.2.2.2.1))).trans (hHeld.2.2.2.2.2.2.2.2.2.2.2.2.1)
 have HS13_ := (hb.cell (World.block_lt_of_cell? _ _ (hHeld.2.2.2.2.2.2.2.2.2.2.2.2.2.1))).trans (hHeld.2.2.2.2.2.2.2.2.2.2.2.2.2.1)
 have HS14_ := (hb.cell (World.block_lt_of_cell? _ _ (hHeld.2.2.2.2.2.2.2.2.2.2.2.2.2.2))).trans (hHeld.2.2.2.2.2.2.2.2.2.2.2.2.2.2)
 refine ⟨_, rfl, ?_⟩
 have n0_ := Aside0.mk (Kd.R_below (by (with_reducible repeat (first | apply Kd.R_alloc | apply Kd.R_drewN | apply Kd.R_drew)); exact HO_4.out) hb)
 have n1_ := Aside0.mk (Kd.S_lower ho0 (below_size (zw3 HB.out GE279.out GE289.out GE290.out)))
 have n2_ := Aside0.mk (zbb BK279.out hb)
 have n3_ := Aside0.mk (zbb BK289.out hb)
 have n4_ := Aside0.mk (zbb BK290.out hb)
 have n5_ := Aside0.mk (below_step (zw3 HB.out GE279.out GE289.out GE290.out) hb)
 clear HO_4
 clear BK279
 clear BK289
 clear BK290
 clear HB
 have HO_4 := n0_
 have HO295 := n1_
 have BK279 := n2_
 have BK289 := n3_
 have BK290 := n4_
 have HB := n5_
 clear n0_ n1_ n2_ n3_ n4_ n5_
 (try clear hb)
 (try clear hb2)
 (try clear hk)
 (try clear hi)
 (try clear ho0)
 refine hK.out _ _ ⟨(blk_cell BK289.out 0).trans rfl, (blk_cell BK289.out 1).trans rfl, (blk_cell BK279.out 0).trans rfl, (blk_cell BK279.out 1).trans rfl, (blk_cell BK279.out 2).trans rfl, (blk_cell BK279.out 3).trans rfl, (blk_cell BK290.out 0).trans rfl, (blk_cell BK290.out 1).trans rfl, (blk_cell BK290.out 2).trans rfl, (blk_cell BK290.out 3).trans rfl, ((HB.out.cell (World.block_lt_of_cell? w _ hw291_0)).trans hw291_0), HS11_, HS12_, HS13_, HS14_⟩ (fun hHeld => ?_)
 clear hK K
 refine norm_ (a' := ?_) ?_ ?_
 rotate_left
 ·show Act.put _ (some 95) _ = _
  simp only [Act.put, List.setIfInBounds_toArray, List.set_cons_zero, List.set_cons_succ, i64_w, i32_w]
  rfl
 refine zq 13 (some 82) HT_ ?_; refine zq 14 (some 96) HT_ ?_; refine zq 15 (some 97) HT_ ?_; refine zq 16 (some 98) HT_ ?_; refine zq 17 (some 9) HT_ ?_; refine zq 18 (some 10) HT_ ?_; refine zq 19 (some 11) HT_ ?_
 refine done_ (done_of HT_.out (by kernel_rfl)) ?_
 go_upto_region 19 with (fail)
 go_cut [105] (fun v105 wc => ∃ (kq : Nat) (x105_44 : Bool), v105 = .bool x105_44 ∧ Aside0 (cellarlaw9_MemBack.j5 kq x3_1 t286 x5_3 x7_4 t293 t297 x105_44 l0_0 l0_1 l0_2 l0_3 ((Int.tmod x5_3 2) == 0) (wrap64 (2 + (wrap64 (2 * (Int.tmod x3_1 2))))) x291000_30 x291001_30 x291002_30 x291003_30 = some r) ∧ Aside0 (kq ≤ kj30) ∧ Aside0 (Kd.R k62 62 wc w.heap.size (fun k_ => k_ ≠ gb290) (.slice (some ad292) t286.length co26) t286) ∧ Aside0 (Kd.S k76 76 wc w.heap.size (fun _ => True) v294 t293) ∧ Aside0 (wc.heap[gb279]? = some (.cells #[(.slice (some ad282) l0_0.length c0_0), (.slice A0_1 l0_1.length c0_1), (.slice A0_2 l0_2.length c0_2), (.slice A0_3 l0_3.length c0_3)] 54 (0, 0))) ∧ Aside0 (wc.heap[gb289]? = some (.cells #[.bool ((Int.tmod x5_3 2) == 0), .int .i64 (wrap64 (2 + (wrap64 (2 * (Int.tmod x3_1 2)))))] 29 (0, 0))) ∧ Aside0 (wc.heap[gb290]? = some (.cells #[.bool x291000_30, .int .i64 x291001_30, .int .i64 x291002_30, .int .i64 x291003_30] 62 (0, 0))) ∧ Aside0 (Below w.heap.size w wc))
 case first =>
  have H := HC45.out
  clear HC45
  replace H := Option.bind_eq_some_iff.mp H
  obtain ⟨t298, A480, H⟩ := H
  replace H : (if t298 = 0 then (cellarlaw9_MemBack.j5 kj30 x3_1 t286 x5_3 x7_4 t293 t297 (t296 != 0) l0_0 l0_1 l0_2 l0_3 ((Int.tmod x5_3 2) == 0) (wrap64 (2 + (wrap64 (2 * (Int.tmod x3_1 2))))) x291000_30 x291001_30 x291002_30 x291003_30) else (cellarlaw9_MemBack.j5 kj30 x3_1 t286 x5_3 x7_4 t293 t297 true l0_0 l0_1 l0_2 l0_3 ((Int.tmod x5_3 2) == 0) (wrap64 (2 + (wrap64 (2 * (Int.tmod x3_1 2))))) x291000_30 x291001_30 x291002_30 x291003_30)) = some r := H
  have A48 := Aside0.mk A480
  clear A480
  by_cases c49 : t298 = 0
  rotate_left
  ·rw [if_neg c49] at H
   have c49b0 : (t298 == 0) = false := beq_eq_false_iff_ne.mpr c49
   have c49b1 : (t298 != 0) = true := bne_iff_ne.mpr c49
   (first | rw [c49b0] | rw [c49b1] | (simp only [i64_w, i32_w]; rw [c49b0]) | skip)
   have H' := Aside0.mk H
   clear H
   go_wp2_with (first | ((with_reducible refine gate_callee (f := 35) rfl ?_); refine zgo (some 100) Try.func35 #[.int .i64 t297] ?_; (with_reducible refine (cellarlaw9_num.calls t297 t298 _ A48.out).mono ?_); rintro e w' ⟨rfl, ⟨nd, rfl⟩⟩; refine ⟨_, rfl, ?_⟩))
   go_meet
   case rel => exact ⟨_, (true), (zr), H', ⟨by have := HK1.out; have := HJ9.out; have := HK3.out; have := HK4.out; have := HJ30.out; first | omega | exact Nat.le_refl _⟩, ⟨by (with_reducible repeat (first | apply Kd.R_alloc | apply Kd.R_drewN | apply Kd.R_drew)); exact HO_4.out⟩, ⟨by (with_reducible repeat (first | apply Kd.S_alloc | apply Kd.S_drewN | apply Kd.S_drew)); exact HO295.out⟩, ⟨zb BK279.out⟩, ⟨zb BK289.out⟩, ⟨zb BK290.out⟩, ⟨zw3 HB.out GE279.out GE289.out GE290.out⟩⟩
  rw [if_pos c49] at H
  have c49b0 : (t298 == 0) = true := beq_iff_eq.mpr c49
  have c49b1 : (t298 != 0) = false := bne_eq_false_iff_eq.mpr c49
  clear c49
  (first | rw [c49b0] | rw [c49b1] | (simp only [i64_w, i32_w]; rw [c49b0]) | skip)
  have H' := Aside0.mk H
  clear H
  go_wp2_with (first | ((with_reducible refine gate_callee (f := 35) rfl ?_); refine zgo (some 100) Try.func35 #[.int .i64 t297] ?_; (with_reducible refine (cellarlaw9_num.calls t297 t298 _ A48.out).mono ?_); rintro e w' ⟨rfl, ⟨nd, rfl⟩⟩; refine ⟨_, rfl, ?_⟩))
  go_meet
  case rel => exact ⟨_, ((t296 != 0)), (zr), H', ⟨by have := HK1.out; have := HJ9.out; have := HK3.out; have := HK4.out; have := HJ30.out; first | omega | exact Nat.le_refl _⟩, ⟨by (with_reducible repeat (first | apply Kd.R_alloc | apply Kd.R_drewN | apply Kd.R_drew)); exact HO_4.out⟩, ⟨by (with_reducible repeat (first | apply Kd.S_alloc | apply Kd.S_drewN | apply Kd.S_drew)); exact HO295.out⟩, ⟨zb BK279.out⟩, ⟨zb BK289.out⟩, ⟨zb BK290.out⟩, ⟨zw3 HB.out GE279.out GE289.out GE290.out⟩⟩
 case rest =>
 rename_i q9_ q24_ q25_ q26_ q29_ _ _ _ _ _ _ _ _ _ _ _ _ _ _ _ _ _ _ _ _ _ _ _ _ _ _ _ _ _ _ _ _ _ _ _ _ _ _ _ _ _ _ _ _ _ _ _ _ _ _ _ _ _ _ _ _ _ _ _ _ _ _ _ _ _ _ _ _ _ _ _ _ _ _ _ _ _ _ _ _ _ _ _ _ _ _ _ _ _ _ _ _ _ _ _ _ _ _ _ _ _ _ _ _ _ _ _ _ _ _ _ _ _ _ _ _ _ _ _ _ _ _ _ _ _ _ _ _ _ _ _ _ _ _ _ _ _ _ _ _ _ _ _ _ _ _ _ _ _ _ _ _ _ _ _ _ _ _ _ _ _ _ _ _ _ _ _ _ _ _ _ _ _ _ _ _ _ _ _ _ _ _ _ _ _ _ _ _ _ _ q30_ q31_ q32_ q33_ q34_ q35_
 clear q9_ q24_ q25_ q26_ q29_ q30_ q31_
 revert k c0_0 l0_0 A0_1 c0_1 l0_1 A0_2 c0_2 l0_2 A0_3 c0_3 l0_3 r w hu54 hu29 hu62 hu74 HC0_0 HR0_1 HC0_1 HR0_2 HC0_2 HR0_3 HC0_3 A2 q1_ gb279 w7 GW279 GE279 hfz8_0 hfz8_1 hfz8_2 hfz8_3 q2_ q3_ q4_ q5_ x3_1 k1 q7_ HK1 q8_ u30 u31 u32 u33 u34 u35 u36 u37 u39 u40 kj9 HJ9 c15b0 c16b0 t283 A17 t284 A18 c19b0 c19b1 t286 A20 hfz21_0 hfz21_1 hfz21_2 hfz21_3 ad282 A282_0 c282_0 HR0_0 hcz8_0 hcz8_1 hcz8_2 hcz8_3 q6_ hcz21_0 hcz21_1 hcz21_2 hcz21_3 hx282_0 HR282_0 HC282_0 p282 q282 q10_ q11_ nd A285_0 c285_0 hw285_0 HR285_0 HC285_0 p285 q285 w23 hx285_0 w24 e285 u19 u20 u21 u22 u23 u24 u25 u26 u27 u60 u61 u259 u260 u261 u262 u263 u264 u265 u266 u267 u268 u269 u270 u271 u272 u273 u274 u275 u276 u277 u278 u279 u280 u281 u282 u283 u284 u285 u286 u287 u288 u289 u290 u291 u292 u293 u294 u295 u296 u297 u298 u299 u300 u301 u302 u303 u304 u305 u306 u307 u308 u309 u310 u311 u312 u313 u314 u315 u316 u317 u318 u319 u320 u321 u322 u323 u324 u325 u326 u327 u328 u329 u330 u331 u332 u333 q13_ q14_ x5_3 k3 q16_ HK3 c25b0 co26 q12_ q17_ gb289 w27 GW289 GE289 NB279_289 NB289_279 hnb28 hnc28 hcz29_0 hcz29_1 hfz29_0 hfz29_1 q18_ q19_ wr u2 u12 u13 u14 u15 u16 u17 u18 q20_ q21_ x7_4 k4 q23_ HK4 c30b0 q27_ q28_ gb290 w32 GW290 GE290 NB279_290 NB290_279 NB289_290 NB290_289 hnb33 hnc33 hnb34 hnc34 hcz35_0 hcz35_1 hcz35_2 hcz35_3 hfz35_0 hfz35_1 hfz35_2 hfz35_3 x291000_30 x291001_30 x291002_30 x291003_30 kj30 HJ30 c40b0 c41b0 c42b0 c43b0 t293 t296 t297 A44 HC45 A291_0 c291_0 e291 hw291_0 HR291_0 HC291_0 p291 q291 ad292 HO288 q15_ q22_ p292 q292 HT_ HW_ w46 hx291_0 hx292_0 hx292_1 hx292_2 hx292_3 w47 v294 HS11_ HS12_ HS13_ HS14_ HO_4 HO295 BK279 BK289 BK290 HB hHeld q32_ q33_ q34_ q35_ wc u70 u71 u72 u73 u74 u75 u76 u77 u78 u79 u80 u81 u82 u83 u84 u85 u86 u87 u88 u89 u90 u91 u92 u93 u94 u95 u96 u97 u98 u99 u100 u101 u102 u103 u104 u105 u106 u107 u108 u109 u110 u111 u112 u113 u114 u115 u116 u117 u118 u119 u120 u121 u122 u123 u124 u125 u126 u127 u128 u129 u130 u131 u132 u133 u134 u135 u136 u137 u138 u139 u140 u141 u142 u143 u144 u145 u146 u147 u148 u149 u150 u151 u152 u153 u154 u155 u156 u157 u158 u159 u160 u161 u162 u163 u164 u165 u166 u167 u168 u169 u170 u171 u172 u173 u174 u175 u176 u177 u178 u179 u180 u181 u182 u183 u184 u185 u186 u187 u188 u189 u190 u191 u192 u193 u194 u195 u196 u197 u198 u199 u200 u201 u202 u203 u204 u205 u206 u207 u208 u209 u210 u211 u212 u213 u214 u215 u216 u217 u218 u219 u220 u221 u222 u223 u224 u225 u226 u227 u228 u229 u230 u231 u232 u233 u234 u235 u236 u237 u238 u239 u240 u241 u242 u243 u244 u245 u246 u247 u248 u249 u250 u251 u252 u253 u254 u255 u256 u257 u258 hcut
 exact cutP1.out
end Go.Proofs.Ytjoplkillkhiaaa.Q2
