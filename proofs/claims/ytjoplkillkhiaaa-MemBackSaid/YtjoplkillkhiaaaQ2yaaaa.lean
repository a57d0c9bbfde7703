-- Written by this session's own edition of the print.
import Derived.Test.YtjoplkillkhiaaaQ2x0
import Derived.Test.YtjoplkillkhiaaaQ2x1
import Derived.Test.YtjoplkillkhiaaaQ2x2
import Derived.Test.YtjoplkillkhiaaaQ2x3
import Derived.Test.YtjoplkillkhiaaaQ2x6
import Derived.Test.YtjoplkillkhiaaaQ2x7
import Derived.Test.YtjoplkillkhiaaaQ2x10
import Derived.Test.YtjoplkillkhiaaaQ2x11
import Derived.Test.YtjoplkillkhiaaaYSq
import Derived.Test.YtjoplkillkhiaaaYSq2
import Derived.Test.YtjoplkillkhiaaaYSq3
import Derived.Test.YtjoplkillkhiaaaQ2x12
import Derived.Test.YtjoplkillkhiaaaCut
import Derived.Test.YtjoplkillkhiaaaQ2y
import Derived.Test.YtjoplkillkhiaaaQ2ya
import Derived.Test.YtjoplkillkhiaaaQ2yaa
import Derived.Test.YtjoplkillkhiaaaQ2yaaa
namespace Go.Proofs.Ytjoplkillkhiaaa.Q2
open Go.Proofs.Ytjoplkillkhiaaa.Cuts Go.RowKit Go.Proofs.Ytjoplkillkhiaaa.Fn Go.Proofs.YtjoplkillkhiaaaW.PrintWords Go.Proofs.YtjoplkillkhiaaaW.PrintLast Go.Proofs.YtjoplkillkhiaaaW.PrintMore
set_option linter.unusedVariables false
set_option linter.unusedSimpArgs false
set_option maxHeartbeats 60000000 in
set_option maxRecDepth 100000 in
noncomputable def cellarlaw9_MemBack.cut_aaaa : Cut2 (cellarlaw9_MemBack.cut_aaa.P1) := by
 apply Cut2.mk
 case h =>
 intro cutP1 cutP2
 intro k c0_0 l0_0 A0_1 c0_1 l0_1 A0_2 c0_2 l0_2 A0_3 c0_3 l0_3 r w hu54 hu29 hu62 hu74 HC0_0 HR0_1 HC0_1 HR0_2 HC0_2 HR0_3 HC0_3 A2 q1_ gb279 w7 GW279 GE279 hfz8_0 hfz8_1 hfz8_2 hfz8_3 q2_ q3_ q4_ q5_ x3_1 k1 q7_ HK1 wc u30 u31 u32 u33 u34 u35 u36 u37 u39 u40 kj9 HJ9 c15b0 c16b0 t283 A17 t284 A18 c19b0 c19b1 t286 A20 hfz21_0 hfz21_1 hfz21_2 hfz21_3 ad282 A282_0 c282_0 HR0_0 hcz8_0 hcz8_1 hcz8_2 hcz8_3 q6_ hcz21_0 hcz21_1 hcz21_2 hcz21_3 hx282_0 HR282_0 HC282_0 p282 q282 q10_ q11_ nd A285_0 c285_0 hw285_0 HR285_0 HC285_0 p285 q285 HT_ HW_ w23 hx285_0 w24 hHeld e285 u19 u20 u21 u22 u23 u24 u25 u26 u27 u60 u61 u259 u260 u261 u262 u263 u264 u265 u266 u267 u268 u269 u270 u271 u272 u273 u274 u275 u276 u277 u278 u279 u280 u281 u282 u283 u284 u285 u286 u287 u288 u289 u290 u291 u292 u293 u294 u295 u296 u297 u298 u299 u300 u301 u302 u303 u304 u305 u306 u307 u308 u309 u310 u311 u312 u313 u314 u315 u316 u317 u318 u319 u320 u321 u322 u323 u324 u325 u326 u327 u328 u329 u330 u331 u332 u333 q13_ q14_ x5_3 k3 q16_ HK3 c25b0 H' Ao26 co26 HO288 q15_ q12_ q17_ gb289 w27 BK289 GW289 GE289 NB279_289 NB289_279 HO_4 BK279 HB hnb28 hnc28 hcz29_0 hcz29_1 hfz29_0 hfz29_1 q18_ q19_ gk wr u2 u7 u8 u9 u10 u11 u12 u13 u14 u15 u16 u17 u18 u70 u71 u72 u73 u74 u75 u76 u77 u78 u79 u80 u81 u82 u83 u84 u85 u86 u87 u88 u89 u90 u91 u92 u93 u94 u95 u96 u97 u98 u99 u100 u101 u102 u103 u104 u105 u106 u107 u108 u109 u110 u111 u112 u113 u114 u115 u116 u117 u118 u119 u120 u121 u122 u123 u124 u125 u126 u127 u128 u129 u130 u131 u132 u133 u134 u135 u136 u137 u138 u139 u140 u141 u142 u143 u144 u145 u146 u147 u148 u149 u150 u151 u152 u153 u154 u155 u156 u157 u158 u159 u160 u161 u162 u163 u164 u165 u166 u167 u168 u169 u170 u171 u172 u173 u174 u175 u176 u177 u178 u179 u180 u181 u182 u183 u184 u185 u186 u187 u188 u189 u190 u191 u192 u193 u194 u195 u196 u197 u198 u199 u200 u201 u202 u203 u204 u205 u206 u207 u208 u209 u210 u211 u212 u213 u214 u215 u216 u217 u218 u219 u220 u221 u222 u223 u224 u225 u226 u227 u228 u229 u230 u231 u232 u233 u234 u235 u236 u237 u238 u239 u240 u241 u242 u243 u244 u245 u246 u247 u248 u249 u250 u251 u252 u253 u254 u255 u256 u257 u258 hrel q20_ q21_ q22_ q23_
 clear H'
 try clear c1; try clear c2; try clear p2; try clear q2; try clear c3; try clear c4; try clear p6; try clear c9; try clear c11; try clear c11b0; try clear c14; try clear c15; try clear c15b0; try clear c16; try clear c16b0; try clear c19; try clear c19b0; try clear c19b1; try clear c25; try clear c25b0; try clear c28; try clear p28; try clear q28; try clear c29; try clear p2; try clear p282; try clear p285; try clear p6; try clear q2; try clear q282; try clear q285
 obtain ⟨x7_4, rfl, HA, HK4, HO_4, BK279, BK289, HB⟩ := hrel
 cases gk with
 | zero => exact absurd HA.out (by simp [cellarlaw9_MemBack.l2])
 | succ k4 =>
 have H := HA.out
 clear HA
 simp only [cellarlaw9_MemBack.l2] at H
 by_cases c30 : x7_4 ≤ 7
 rotate_left
 ·rw [if_neg c30] at H
  have c30b0 : decide (x7_4 ≤ 7) = false := decide_eq_false c30
  clear c30
  by_cases c140 : 0 ≤ x3_1
  rotate_left
  ·rw [if_neg c140] at H
   exact absurd H (by simp)
  rw [if_pos c140] at H
  have c140b0 : decide (0 ≤ x3_1) = true := decide_eq_true c140
  clear c140
  by_cases c141 : x3_1 < (l0_0.length : Int)
  rotate_left
  ·rw [if_neg c141] at H
   exact absurd H (by simp)
  rw [if_pos c141] at H
  have c141b0 : decide (x3_1 < (l0_0.length : Int)) = true := decide_eq_true c141
  clear c141
  by_cases c142 : 0 ≤ x5_3
  rotate_left
  ·rw [if_neg c142] at H
   exact absurd H (by simp)
  rw [if_pos c142] at H
  have c142b0 : decide (0 ≤ x5_3) = true := decide_eq_true c142
  clear c142
  by_cases c143 : x5_3 < (t286.length : Int)
  rotate_left
  ·rw [if_neg c143] at H
   exact absurd H (by simp)
  rw [if_pos c143] at H
  have c143b0 : decide (x5_3 < (t286.length : Int)) = true := decide_eq_true c143
  clear c143
  replace H := Option.bind_eq_some_iff.mp H
  obtain ⟨⟨t330, t331, t332, t333, t334, t335⟩, A1440, H⟩ := H
  replace H : ((cellarlaw9_num.f t335).bind fun t337 => (if t337 = 0 then (cellarlaw9_MemBack.j11 k4 x3_1 t286 x5_3 (t334 == 0) l0_0 l0_1 l0_2 l0_3 t330 t331 t332 t333) else (cellarlaw9_MemBack.j11 k4 x3_1 t286 x5_3 false l0_0 l0_1 l0_2 l0_3 t330 t331 t332 t333))) = some r := H
  have A144 := Aside0.mk A1440
  clear A1440
  have HC145 := Aside0.mk H
  clear H
  try go_wp2
  have n0_ := Aside0.mk (Kd.R_drew HO_4.out)
  have n1_ := Aside0.mk (blk_drew BK279.out)
  have n2_ := Aside0.mk (blk_drew BK289.out)
  have n3_ := Aside0.mk (below_drew1 HB.out)
  clear HO_4
  clear BK279
  clear BK289
  clear HB
  have HO_4 := n0_
  have BK279 := n1_
  have BK289 := n2_
  have HB := n3_
  clear n0_ n1_ n2_ n3_
  have p328 : 0 ≤ (x3_1 : Int) := zdec
  have q328 : x3_1 < (l0_0.length : Int) := zdec
  obtain ⟨ad328, A328_0, c328_0, e328, hx328_0, hl328_0, hi328_0⟩ := at_L4 HR0_0.out x3_1 p328 q328
  have hw328_0 := hx328_0
  obtain rfl : ad282 = ad328 := (by injection e328)
  replace hx328_0 := zh HB.out hx328_0
  have HR328_0 := Aside0.mk hi328_0
  have HC328_0 := Aside0.mk hl328_0
  clear hi328_0 hl328_0
  replace p328 := eq_true p328
  replace q328 := eq_true q328
  have p329 : 0 ≤ (x5_3 : Int) := zdec
  have q329 : x5_3 < (t286.length : Int) := zdec
  obtain ⟨ad329, e329, hx329_0, hx329_1, hx329_2, hx329_3⟩ := at_T62 (Kd.R_reads' HO_4.out).2.2 x5_3 p329 q329
  cases e329
  replace p329 := eq_true p329
  replace q329 := eq_true q329
  refine start_ (n := 18) (S := fun w' => w'.cell? ⟨gb279, 0, none⟩ = some (.slice (some ad282) l0_0.length c0_0) ∧ w'.cell? ⟨gb279, 1, none⟩ = some (.slice A0_1 l0_1.length c0_1) ∧ w'.cell? ⟨gb279, 2, none⟩ = some (.slice A0_2 l0_2.length c0_2) ∧ w'.cell? ⟨gb279, 3, none⟩ = some (.slice A0_3 l0_3.length c0_3) ∧ w'.cell? (ad282.add (x3_1).toNat) = some (.slice A328_0 (rd_L4 l0_0 x3_1).length c328_0) ∧ w'.cell? (ad329.add ((x5_3).toNat * 4)) = some (.bool ((rd_T62 t286 x5_3).f0)) ∧ w'.cell? ⟨(ad329.add ((x5_3).toNat * 4)).block, (ad329.add ((x5_3).toNat * 4)).off + 1, none⟩ = some (.int .i64 ((rd_T62 t286 x5_3).f1)) ∧ w'.cell? ⟨(ad329.add ((x5_3).toNat * 4)).block, (ad329.add ((x5_3).toNat * 4)).off + 2, none⟩ = some (.int .i64 ((rd_T62 t286 x5_3).f2)) ∧ w'.cell? ⟨(ad329.add ((x5_3).toNat * 4)).block, (ad329.add ((x5_3).toNat * 4)).off + 3, none⟩ = some (.int .i64 ((rd_T62 t286 x5_3).f3))) (ds := []) cellarlaw9_MemBack.b123 (by kernel_rfl) rfl rfl ⟨(blk_cell BK279.out 0).trans rfl, (blk_cell BK279.out 1).trans rfl, (blk_cell BK279.out 2).trans rfl, (blk_cell BK279.out 3).trans rfl, ((HB.out.cell (World.block_lt_of_cell? w _ hw328_0)).trans hw328_0), hx329_0, hx329_1, hx329_2, hx329_3⟩ (fun hHeld => ?_); refine with_tabW cellarlaw9_MemBack.tab37 cellarlaw9_MemBack.bits37 (fun HT_ HW_ => ?_)
  generalize wr.drew = w146 at HO_4 BK279 BK289 HB HR328_0 hx328_0 hx329_0 hx329_1 hx329_2 hx329_3 hHeld ⊢
  refine zq 0 (some 260) HT_ ?_; refine zq 2 (some 262) HT_ ?_; refine zq 5 (some 265) HT_ ?_; refine zq 6 (some 266) HT_ ?_; refine zq 7 (some 267) HT_ ?_; refine zt 1 (some 261) HT_ HW_ hHeld ?_; refine zq 3 (some 263) HT_ ?_; refine zt 4 (some 264) HT_ HW_ hHeld ?_; refine zt 8 (some 268) HT_ HW_ hHeld ?_
  refine join_ (σ := Nat) 3 cellarlaw9_MemBack.b133 (fun s_ => [(269, .tuple #[.agg #[.bool t330, .int .i64 t331, .int .i64 t332, .int .i64 t333], .int .i64 t334, .int .i64 t335]), (19, .pointer (some ⟨s_, 0, none⟩)), (259, .tuple #[.agg #[.bool t330, .int .i64 t331, .int .i64 t332, .int .i64 t333], .int .i64 t334, .int .i64 t335]), (270, .agg #[.bool t330, .int .i64 t331, .int .i64 t332, .int .i64 t333]), (271, .int .i64 t334), (272, .int .i64 t335)]) (fun s_ w' => (w'.cell? ⟨gb279, 0, none⟩ = some (.slice (some ad282) l0_0.length c0_0) ∧ w'.cell? ⟨gb279, 1, none⟩ = some (.slice A0_1 l0_1.length c0_1) ∧ w'.cell? ⟨gb279, 2, none⟩ = some (.slice A0_2 l0_2.length c0_2) ∧ w'.cell? ⟨gb279, 3, none⟩ = some (.slice A0_3 l0_3.length c0_3) ∧ w'.cell? (ad282.add (x3_1).toNat) = some (.slice A328_0 (rd_L4 l0_0 x3_1).length c328_0) ∧ w'.cell? (ad329.add ((x5_3).toNat * 4)) = some (.bool ((rd_T62 t286 x5_3).f0)) ∧ w'.cell? ⟨(ad329.add ((x5_3).toNat * 4)).block, (ad329.add ((x5_3).toNat * 4)).off + 1, none⟩ = some (.int .i64 ((rd_T62 t286 x5_3).f1)) ∧ w'.cell? ⟨(ad329.add ((x5_3).toNat * 4)).block, (ad329.add ((x5_3).toNat * 4)).off + 2, none⟩ = some (.int .i64 ((rd_T62 t286 x5_3).f2)) ∧ w'.cell? ⟨(ad329.add ((x5_3).toNat * 4)).block, (ad329.add ((x5_3).toNat * 4)).off + 3, none⟩ = some (.int .i64 ((rd_T62 t286 x5_3).f3))) ∧ (Kd.R k62 62 w' w.heap.size (fun k_ => k_ ≠ s_) (.slice (some ad329) t286.length co26) t286) ∧ (w'.heap[gb279]? = some (.cells #[.slice (some ad282) l0_0.length c0_0, .slice A0_1 l0_1.length c0_1, .slice A0_2 l0_2.length c0_2, .slice A0_3 l0_3.length c0_3] 54 (0, 0))) ∧ (w'.heap[gb289]? = some (.cells #[.bool ((Int.tmod x5_3 2) == 0), .int .i64 (wrap64 (2 + (wrap64 (2 * (Int.tmod x3_1 2)))))] 29 (0, 0))) ∧ (w'.heap[s_]? = some (.cells #[.bool false, .int .i64 0, .int .i64 0, .int .i64 0] 62 (0, 0))) ∧ (w.heap.size ≤ s_) ∧ (w.heap.size ≤ s_) ∧ (gb279 ≠ s_) ∧ (s_ ≠ gb279) ∧ (gb289 ≠ s_) ∧ (s_ ≠ gb289) ∧ (Below w.heap.size w w')) ?_ ?_
  rotate_left
  ·intro hCont
   refine two_ (i := 9) (j := 14) (Ni := some 269) (Nj := some 19) cellarlaw9_MemBack.b134 cellarlaw9_MemBack.b135 rfl rfl rfl rfl (two_of HT_.out (by kernel_rfl)) (by decide) (by decide) (fun K hK => ?_) (fun K hK => ?_)
   ·skip
    refine goes_ Try.func44 (by kernel_rfl) rfl #[.slice A328_0 (rd_L4 l0_0 x3_1).length c328_0, .agg #[.bool ((rd_T62 t286 x5_3).f0), .int .i64 ((rd_T62 t286 x5_3).f1), .int .i64 ((rd_T62 t286 x5_3).f2), .int .i64 ((rd_T62 t286 x5_3).f3)], .int .i64 1] (by rfl) rfl rfl (by (try simp only [List.map_toArray, List.map_cons, List.map_nil]); first | done | rfl | (simp only [List.length_drop, List.length_take]; rfl)) ?_
    with_reducible refine (mem_Move.calls k4 _ _ (rd_L4 l0_0 x3_1) ((rd_T62 t286 x5_3).f0) ((rd_T62 t286 x5_3).f1) ((rd_T62 t286 x5_3).f2) ((rd_T62 t286 x5_3).f3) 1 t330 t331 t332 t333 t334 t335 _ ?side1 ?side2 A144.out).mono ?_
    (case side1 => repeat (first | exact (Kd.C_below HR328_0.out HB.out) | (with_reducible refine Kd.C_alloc ?_ _) | (with_reducible refine Kd.C_drewN ?_ _) | (with_reducible refine Kd.C_drew ?_)))
    (case side2 => exact HC328_0.out)
    rintro e w147 ⟨rfl, hb⟩
    have HS5_ := (hb.cell (World.block_lt_of_cell? _ _ (hHeld.2.2.2.2.2.1))).trans (hHeld.2.2.2.2.2.1)
    have HS6_ := (hb.cell (World.block_lt_of_cell? _ _ (hHeld.2.2.2.2.2.2.1))).trans (hHeld.2.2.2.2.2.2.1)
    have HS7_ := (hb.cell (World.block_lt_of_cell? _ _ (hHeld.2.2.2.2.2.2.2.1))).trans (hHeld.2.2.2.2.2.2.2.1)
    have HS8_ := (hb.cell (World.block_lt_of_cell? _ _ (hHeld.2.2.2.2.2.2.2.2))).trans (hHeld.2.2.2.2.2.2.2.2)
    refine ⟨_, rfl, ?_⟩
    have n0_ := Aside0.mk (Kd.R_below (by (with_reducible repeat (first | apply Kd.R_alloc | apply Kd.R_drewN | apply Kd.R_drew)); exact HO_4.out) hb)
    have n1_ := Aside0.mk (zbb BK279.out hb)
    have n2_ := Aside0.mk (zbb BK289.out hb)
    have n3_ := Aside0.mk (below_step (zw2 HB.out GE279.out GE289.out) hb)
    clear HO_4
    clear BK279
    clear BK289
    clear HB
    have HO_4 := n0_
    have BK279 := n1_
    have BK289 := n2_
    have HB := n3_
    clear n0_ n1_ n2_ n3_
    (try clear hb)
    (try clear hb2)
    (try clear hk)
    (try clear hi)
    refine hK.out _ _ ⟨(blk_cell BK279.out 0).trans rfl, (blk_cell BK279.out 1).trans rfl, (blk_cell BK279.out 2).trans rfl, (blk_cell BK279.out 3).trans rfl, ((HB.out.cell (World.block_lt_of_cell? w _ hw328_0)).trans hw328_0), HS5_, HS6_, HS7_, HS8_⟩ (fun hHeld => ?_)
    clear hK K
    refine norm_ (a' := ?_) ?_ ?_
    rotate_left
    ·show Act.put _ (some 269) _ = _
     simp only [Act.put, List.setIfInBounds_toArray, List.set_cons_zero, List.set_cons_succ, i64_w, i32_w]
     rfl
    refine zq 10 (some 259) HT_ ?_; refine zq 11 (some 270) HT_ ?_; refine zq 12 (some 271) HT_ ?_; refine zq 13 (some 272) HT_ ?_
    refine one_ (i := 14) (N := some 19) cellarlaw9_MemBack.b133 rfl rfl (one_of HT_.out (by kernel_rfl)) (by decide) (fun K hK => ?_)
    refine box_step ?hg (N := 19) ?hd (cs := #[.bool false, .int .i64 0, .int .i64 0, .int .i64 0]) (t := 62) ?hr ?_; (case hd => rfl); (case hg => rfl); (case hr => first | (go_simp; done) | (go_simp; rfl))
    intro gb336 hg w148 hbox hb
    have HS5_ := (hb.cell (World.block_lt_of_cell? _ _ (hHeld.2.2.2.2.2.1))).trans (hHeld.2.2.2.2.2.1)
    have HS6_ := (hb.cell (World.block_lt_of_cell? _ _ (hHeld.2.2.2.2.2.2.1))).trans (hHeld.2.2.2.2.2.2.1)
    have HS7_ := (hb.cell (World.block_lt_of_cell? _ _ (hHeld.2.2.2.2.2.2.2.1))).trans (hHeld.2.2.2.2.2.2.2.1)
    have HS8_ := (hb.cell (World.block_lt_of_cell? _ _ (hHeld.2.2.2.2.2.2.2.2))).trans (hHeld.2.2.2.2.2.2.2.2)
    have n0_ := Aside0.mk (Kd.R_below (Kd.R_elderB (by (with_reducible repeat (first | apply Kd.R_alloc | apply Kd.R_drewN | apply Kd.R_drew)); exact HO_4.out) gb336 (Nat.le_of_eq hg.symm)) hb)
    have n1_ := Aside0.mk (zbb BK279.out hb)
    have n2_ := Aside0.mk (zbb BK289.out hb)
    have n3_ := Aside0.mk (below_step (zw2 HB.out GE279.out GE289.out) hb)
    have n4_ := Aside0.mk (hbox)
    have n5_ := Aside0.mk (zg hg (below_size (zw2 HB.out GE279.out GE289.out)))
    have n6_ := Aside0.mk (zg hg (below_size (zw2 HB.out GE279.out GE289.out)))
    have n7_ := Aside0.mk (zlt hg BK279.out)
    have n8_ := Aside0.mk (zgt hg BK279.out)
    have n9_ := Aside0.mk (zlt hg BK289.out)
    have n10_ := Aside0.mk (zgt hg BK289.out)
    clear HO_4
    clear BK279
    clear BK289
    clear HB
    have HO_4 := n0_
    have BK279 := n1_
    have BK289 := n2_
    have HB := n3_
    have BK336 := n4_
    have GW336 := n5_
    have GE336 := n6_
    have NB279_336 := n7_
    have NB336_279 := n8_
    have NB289_336 := n9_
    have NB336_289 := n10_
    clear n0_ n1_ n2_ n3_ n4_ n5_ n6_ n7_ n8_ n9_ n10_
    clear hb hbox hg
    refine hK.out _ _ ⟨(blk_cell BK279.out 0).trans rfl, (blk_cell BK279.out 1).trans rfl, (blk_cell BK279.out 2).trans rfl, (blk_cell BK279.out 3).trans rfl, ((HB.out.cell (World.block_lt_of_cell? w _ hw328_0)).trans hw328_0), HS5_, HS6_, HS7_, HS8_⟩ (fun hHeld => ?_)
    clear hK K
    refine norm_ (a' := ?_) ?_ ?_
    rotate_left
    ·show Act.put _ (some 19) _ = _
     simp only [Act.put, List.setIfInBounds_toArray, List.set_cons_zero, List.set_cons_succ, i64_w, i32_w]
     rfl
    exact norm_ (by simp only [putAll, Act.put, List.setIfInBounds_toArray, List.set_cons_zero, List.set_cons_succ]) (hCont (gb336) _ ⟨hHeld, (by (with_reducible repeat (first | apply Kd.R_alloc | apply Kd.R_drewN | apply Kd.R_drew)); exact Kd.R_mono HO_4.out (fun _ hk => hk.2)), (zb BK279.out), (zb BK289.out), (zb BK336.out), GW336.out, GE336.out, NB279_336.out, NB336_279.out, NB289_336.out, NB336_289.out, (zw3 HB.out GE279.out GE289.out GE336.out)⟩)
   ·skip
    refine box_step ?hg (N := 19) ?hd (cs := #[.bool false, .int .i64 0, .int .i64 0, .int .i64 0]) (t := 62) ?hr ?_; (case hd => rfl); (case hg => rfl); (case hr => first | (go_simp; done) | (go_simp; rfl))
    intro gb336 hg w147 hbox hb
    have HS5_ := (hb.cell (World.block_lt_of_cell? _ _ (hHeld.2.2.2.2.2.1))).trans (hHeld.2.2.2.2.2.1)
    have HS6_ := (hb.cell (World.block_lt_of_cell? _ _ (hHeld.2.2.2.2.2.2.1))).trans (hHeld.2.2.2.2.2.2.1)
    have HS7_ := (hb.cell (World.block_lt_of_cell? _ _ (hHeld.2.2.2.2.2.2.2.1))).trans (hHeld.2.2.2.2.2.2.2.1)
    have HS8_ := (hb.cell (World.block_lt_of_cell? _ _ (hHeld.2.2.2.2.2.2.2.2))).trans (hHeld.2.2.2.2.2.2.2.2)
    have n0_ := Aside0.mk (Kd.R_below (Kd.R_elderB (by (with_reducible repeat (first | apply Kd.R_alloc | apply Kd.R_drewN | apply Kd.R_drew)); exact HO_4.out) gb336 (Nat.le_of_eq hg.symm)) hb)
    have n1_ := Aside0.mk (zbb BK279.out hb)
    have n2_ := Aside0.mk (zbb BK289.out hb)
    have n3_ := Aside0.mk (below_step (zw2 HB.out GE279.out GE289.out) hb)
    have n4_ := Aside0.mk (hbox)
    have n5_ := Aside0.mk (zg hg (below_size (zw2 HB.out GE279.out GE289.out)))
    have n6_ := Aside0.mk (zg hg (below_size (zw2 HB.out GE279.out GE289.out)))
    have n7_ := Aside0.mk (zlt hg BK279.out)
    have n8_ := Aside0.mk (zgt hg BK279.out)
    have n9_ := Aside0.mk (zlt hg BK289.out)
    have n10_ := Aside0.mk (zgt hg BK289.out)
    clear HO_4
    clear BK279
    clear BK289
    clear HB
    have HO_4 := n0_
    have BK279 := n1_
    have BK289 := n2_
    have HB := n3_
    have BK336 := n4_
    have GW336 := n5_
    have GE336 := n6_
    have NB279_336 := n7_
    have NB336_279 := n8_
    have NB289_336 := n9_
    have NB336_289 := n10_
    clear n0_ n1_ n2_ n3_ n4_ n5_ n6_ n7_ n8_ n9_ n10_
    clear hb hbox hg
    refine hK.out _ _ ⟨(blk_cell BK279.out 0).trans rfl, (blk_cell BK279.out 1).trans rfl, (blk_cell BK279.out 2).trans rfl, (blk_cell BK279.out 3).trans rfl, ((HB.out.cell (World.block_lt_of_cell? w _ hw328_0)).trans hw328_0), HS5_, HS6_, HS7_, HS8_⟩ (fun hHeld => ?_)
    clear hK K
    refine norm_ (a' := ?_) ?_ ?_
    rotate_left
    ·show Act.put _ (some 19) _ = _
     simp only [Act.put, List.setIfInBounds_toArray, List.set_cons_zero, List.set_cons_succ, i64_w, i32_w]
     rfl
    refine one_ (i := 9) (N := some 269) cellarlaw9_MemBack.b140 rfl rfl (one_of HT_.out (by kernel_rfl)) (by decide) (fun K hK => ?_)
    refine goes_ Try.func44 (by kernel_rfl) rfl #[.slice A328_0 (rd_L4 l0_0 x3_1).length c328_0, .agg #[.bool ((rd_T62 t286 x5_3).f0), .int .i64 ((rd_T62 t286 x5_3).f1), .int .i64 ((rd_T62 t286 x5_3).f2), .int .i64 ((rd_T62 t286 x5_3).f3)], .int .i64 1] (by rfl) rfl rfl (by (try simp only [List.map_toArray, List.map_cons, List.map_nil]); first | done | rfl | (simp only [List.length_drop, List.length_take]; rfl)) ?_
    with_reducible refine (mem_Move.calls k4 _ _ (rd_L4 l0_0 x3_1) ((rd_T62 t286 x5_3).f0) ((rd_T62 t286 x5_3).f1) ((rd_T62 t286 x5_3).f2) ((rd_T62 t286 x5_3).f3) 1 t330 t331 t332 t333 t334 t335 _ ?side1 ?side2 A144.out).mono ?_
    (case side1 => repeat (first | exact (Kd.C_below HR328_0.out HB.out) | (with_reducible refine Kd.C_alloc ?_ _) | (with_reducible refine Kd.C_drewN ?_ _) | (with_reducible refine Kd.C_drew ?_)))
    (case side2 => exact HC328_0.out)
    rintro e w148 ⟨rfl, hb⟩
    have HS5_ := (hb.cell (World.block_lt_of_cell? _ _ (hHeld.2.2.2.2.2.1))).trans (hHeld.2.2.2.2.2.1)
    have HS6_ := (hb.cell (World.block_lt_of_cell? _ _ (hHeld.2.2.2.2.2.2.1))).trans (hHeld.2.2.2.2.2.2.1)
    have HS7_ := (hb.cell (World.block_lt_of_cell? _ _ (hHeld.2.2.2.2.2.2.2.1))).trans (hHeld.2.2.2.2.2.2.2.1)
    have HS8_ := (hb.cell (World.block_lt_of_cell? _ _ (hHeld.2.2.2.2.2.2.2.2))).trans (hHeld.2.2.2.2.2.2.2.2)
    refine ⟨_, rfl, ?_⟩
    have n0_ := Aside0.mk (Kd.R_below (by (with_reducible repeat (first | apply Kd.R_alloc | apply Kd.R_drewN | apply Kd.R_drew)); exact HO_4.out) hb)
    have n1_ := Aside0.mk (zbb BK279.out hb)
    have n2_ := Aside0.mk (zbb BK289.out hb)
    have n3_ := Aside0.mk (zbb BK336.out hb)
    have n4_ := Aside0.mk (below_step (zw3 HB.out GE279.out GE289.out GE336.out) hb)
    clear HO_4
    clear BK279
    clear BK289
    clear BK336
    clear HB
    have HO_4 := n0_
    have BK279 := n1_
    have BK289 := n2_
    have BK336 := n3_
    have HB := n4_
    clear n0_ n1_ n2_ n3_ n4_
    (try clear hb)
    (try clear hb2)
    (try clear hk)
    (try clear hi)
    refine hK.out _ _ ⟨(blk_cell BK279.out 0).trans rfl, (blk_cell BK279.out 1).trans rfl, (blk_cell BK279.out 2).trans rfl, (blk_cell BK279.out 3).trans rfl, ((HB.out.cell (World.block_lt_of_cell? w _ hw328_0)).trans hw328_0), HS5_, HS6_, HS7_, HS8_⟩ (fun hHeld => ?_)
    clear hK K
    refine norm_ (a' := ?_) ?_ ?_
    rotate_left
    ·show Act.put _ (some 269) _ = _
     simp only [Act.put, List.setIfInBounds_toArray, List.set_cons_zero, List.set_cons_succ, i64_w, i32_w]
     rfl
    refine zq 10 (some 259) HT_ ?_; refine zq 11 (some 270) HT_ ?_; refine zq 12 (some 271) HT_ ?_; refine zq 13 (some 272) HT_ ?_
    exact norm_ (by simp only [putAll, Act.put, List.setIfInBounds_toArray, List.set_cons_zero, List.set_cons_succ]) (hCont (gb336) _ ⟨hHeld, (by (with_reducible repeat (first | apply Kd.R_alloc | apply Kd.R_drewN | apply Kd.R_drew)); exact Kd.R_mono HO_4.out (fun _ hk => hk.2)), (zb BK279.out), (zb BK289.out), (zb BK336.out), GW336.out, GE336.out, NB279_336.out, NB336_279.out, NB289_336.out, NB336_289.out, (zw3 HB.out GE279.out GE289.out GE336.out)⟩)
  rintro gb336 w149 ⟨hS_, h0_, h1_, h2_, h3_, h4_, h5_, h6_, h7_, h8_, h9_, h10_⟩
  have n0_ : Aside0 (Kd.R k62 62 w149 w.heap.size (fun k_ => k_ ≠ gb336) (.slice (some ad329) t286.length co26) t286) := ⟨h0_⟩
  have n1_ : Aside0 (w149.heap[gb279]? = some (.cells #[.slice (some ad282) l0_0.length c0_0, .slice A0_1 l0_1.length c0_1, .slice A0_2 l0_2.length c0_2, .slice A0_3 l0_3.length c0_3] 54 (0, 0))) := ⟨h1_⟩
  have n2_ : Aside0 (w149.heap[gb289]? = some (.cells #[.bool ((Int.tmod x5_3 2) == 0), .int .i64 (wrap64 (2 + (wrap64 (2 * (Int.tmod x3_1 2)))))] 29 (0, 0))) := ⟨h2_⟩
  have n3_ : Aside0 (w149.heap[gb336]? = some (.cells #[.bool false, .int .i64 0, .int .i64 0, .int .i64 0] 62 (0, 0))) := ⟨h3_⟩
  have n4_ : Aside0 (w.heap.size ≤ gb336) := ⟨h4_⟩
  have n5_ : Aside0 (w.heap.size ≤ gb336) := ⟨h5_⟩
  have n6_ : Aside0 (gb279 ≠ gb336) := ⟨h6_⟩
  have n7_ : Aside0 (gb336 ≠ gb279) := ⟨h7_⟩
  have n8_ : Aside0 (gb289 ≠ gb336) := ⟨h8_⟩
  have n9_ : Aside0 (gb336 ≠ gb289) := ⟨h9_⟩
  have n10_ : Aside0 (Below w.heap.size w w149) := ⟨h10_⟩
  clear HO_4
  clear BK279
  clear BK289
  clear HB
  clear h0_ h1_ h2_ h3_ h4_ h5_ h6_ h7_ h8_ h9_ h10_
  have HO_4 := n0_
  have BK279 := n1_
  have BK289 := n2_
  have BK336 := n3_
  have GW336 := n4_
  have GE336 := n5_
  have NB279_336 := n6_
  have NB336_279 := n7_
  have NB289_336 := n8_
  have NB336_289 := n9_
  have HB := n10_
  clear n0_ n1_ n2_ n3_ n4_ n5_ n6_ n7_ n8_ n9_ n10_
  have hHeld : w149.cell? ⟨gb279, 0, none⟩ = some (.slice (some ad282) l0_0.length c0_0) ∧ w149.cell? ⟨gb279, 1, none⟩ = some (.slice A0_1 l0_1.length c0_1) ∧ w149.cell? ⟨gb279, 2, none⟩ = some (.slice A0_2 l0_2.length c0_2) ∧ w149.cell? ⟨gb279, 3, none⟩ = some (.slice A0_3 l0_3.length c0_3) ∧ w149.cell? (ad282.add (x3_1).toNat) = some (.slice A328_0 (rd_L4 l0_0 x3_1).length c328_0) ∧ w149.cell? (ad329.add ((x5_3).toNat * 4)) = some (.bool ((rd_T62 t286 x5_3).f0)) ∧ w149.cell? ⟨(ad329.add ((x5_3).toNat * 4)).block, (ad329.add ((x5_3).toNat * 4)).off + 1, none⟩ = some (.int .i64 ((rd_T62 t286 x5_3).f1)) ∧ w149.cell? ⟨(ad329.add ((x5_3).toNat * 4)).block, (ad329.add ((x5_3).toNat * 4)).off + 2, none⟩ = some (.int .i64 ((rd_T62 t286 x5_3).f2)) ∧ w149.cell? ⟨(ad329.add ((x5_3).toNat * 4)).block, (ad329.add ((x5_3).toNat * 4)).off + 3, none⟩ = some (.int .i64 ((rd_T62 t286 x5_3).f3)) := hS_
  refine norm_ (a' := ?_) ?_ ?_
  rotate_left
  ·simp only [putAll, Act.put, List.setIfInBounds_toArray, List.set_cons_zero, List.set_cons_succ]
   rfl
  refine one_ (i := 15) (N := none) cellarlaw9_MemBack.b144 rfl rfl (one_of HT_.out (by kernel_rfl)) (by decide) (fun K hK => ?_)
  have hs150 : w149.cell? ⟨gb336, 0, none⟩ = some (.bool false) := (blk_cell BK336.out 0).trans rfl
  have hfs150 := blk_frozen BK336.out 0
  have hns150_0 := NB279_336.out
  have hns150_1 := NB289_336.out
  have hms150_0 := NB336_279.out
  have hms150_1 := NB336_289.out
  have hs151 : w149.cell? ⟨gb336, 1, none⟩ = some (.int .i64 0) := (blk_cell BK336.out 1).trans rfl
  have hfs151 := blk_frozen BK336.out 1
  have hns151_0 := NB279_336.out
  have hns151_1 := NB289_336.out
  have hms151_0 := NB336_279.out
  have hms151_1 := NB336_289.out
  have hs152 : w149.cell? ⟨gb336, 2, none⟩ = some (.int .i64 0) := (blk_cell BK336.out 2).trans rfl
  have hfs152 := blk_frozen BK336.out 2
  have hns152_0 := NB279_336.out
  have hns152_1 := NB289_336.out
  have hms152_0 := NB336_279.out
  have hms152_1 := NB336_289.out
  have hs153 : w149.cell? ⟨gb336, 3, none⟩ = some (.int .i64 0) := (blk_cell BK336.out 3).trans rfl
  have hfs153 := blk_frozen BK336.out 3
  have hns153_0 := NB279_336.out
  have hns153_1 := NB289_336.out
  have hms153_0 := NB336_279.out
  have hms153_1 := NB336_289.out
  refine skip_ (w1 := ?_) (by rfl) rfl ?_ ?_
  rotate_left
  ·go_simp
   rfl
  refine hK.out _ _ ⟨((cell_far (p := ⟨gb336, _, none⟩) NB279_336.out _).trans (((cell_far (p := ⟨gb336, _, none⟩) NB279_336.out _).trans (((cell_far (p := ⟨gb336, _, none⟩) NB279_336.out _).trans (((cell_far (p := ⟨gb336, _, none⟩) NB279_336.out _).trans (hHeld.1)))))))), ((cell_far (p := ⟨gb336, _, none⟩) NB279_336.out _).trans (((cell_far (p := ⟨gb336, _, none⟩) NB279_336.out _).trans (((cell_far (p := ⟨gb336, _, none⟩) NB279_336.out _).trans (((cell_far (p := ⟨gb336, _, none⟩) NB279_336.out _).trans (hHeld.2.1)))))))), ((cell_far (p := ⟨gb336, _, none⟩) NB279_336.out _).trans (((cell_far (p := ⟨gb336, _, none⟩) NB279_336.out _).trans (((cell_far (p := ⟨gb336, _, none⟩) NB279_336.out _).trans (((cell_far (p := ⟨gb336, _, none⟩) NB279_336.out _).trans (hHeld.2.2.1)))))))), ((cell_far (p := ⟨gb336, _, none⟩) NB279_336.out _).trans (((cell_far (p := ⟨gb336, _, none⟩) NB279_336.out _).trans (((cell_far (p := ⟨gb336, _, none⟩) NB279_336.out _).trans (((cell_far (p := ⟨gb336, _, none⟩) NB279_336.out _).trans (hHeld.2.2.2.1)))))))), ((cell_far (p := ⟨gb336, _, none⟩) (zx (zfar hw328_0 GW336.out)) _).trans (((cell_far (p := ⟨gb336, _, none⟩) (zx (zfar hw328_0 GW336.out)) _).trans (((cell_far (p := ⟨gb336, _, none⟩) (zx (zfar hw328_0 GW336.out)) _).trans (((cell_far (p := ⟨gb336, _, none⟩) (zx (zfar hw328_0 GW336.out)) _).trans (hHeld.2.2.2.2.1)))))))), ((cell_far (p := ⟨gb336, _, none⟩) (by first | exact Kd.own_blk (Kd.R_away HO_4.out (fun _ hk => hk)) | (rw [add_block]; exact Kd.own_blk (Kd.R_away HO_4.out (fun _ hk => hk))) | (show (Addr.add _ _).block ≠ _; rw [add_block]; exact Kd.own_blk (Kd.R_away HO_4.out (fun _ hk => hk))) | (dsimp only; exact Kd.own_blk (Kd.R_away HO_4.out (fun _ hk => hk)))) _).trans (((cell_far (p := ⟨gb336, _, none⟩) (by first | exact Kd.own_blk (Kd.R_away HO_4.out (fun _ hk => hk)) | (rw [add_block]; exact Kd.own_blk (Kd.R_away HO_4.out (fun _ hk => hk))) | (show (Addr.add _ _).block ≠ _; rw [add_block]; exact Kd.own_blk (Kd.R_away HO_4.out (fun _ hk => hk))) | (dsimp only; exact Kd.own_blk (Kd.R_away HO_4.out (fun _ hk => hk)))) _).trans (((cell_far (p := ⟨gb336, _, none⟩) (by first | exact Kd.own_blk (Kd.R_away HO_4.out (fun _ hk => hk)) | (rw [add_block]; exact Kd.own_blk (Kd.R_away HO_4.out (fun _ hk => hk))) | (show (Addr.add _ _).block ≠ _; rw [add_block]; exact Kd.own_blk (Kd.R_away HO_4.out (fun _ hk => hk))) | (dsimp only; exact Kd.own_blk (Kd.R_away HO_4.out (fun _ hk => hk)))) _).trans (((cell_far (p := ⟨gb336, _, none⟩) (by first | exact Kd.own_blk (Kd.R_away HO_4.out (fun _ hk => hk)) | (rw [add_block]; exact Kd.own_blk (Kd.R_away HO_4.out (fun _ hk => hk))) | (show (Addr.add _ _).block ≠ _; rw [add_block]; exact Kd.own_blk (Kd.R_away HO_4.out (fun _ hk => hk))) | (dsimp only; exact Kd.own_blk (Kd.R_away HO_4.out (fun _ hk => hk)))) _).trans (hHeld.2.2.2.2.2.1)))))))), ((cell_far (p := ⟨gb336, _, none⟩) (by first | exact Kd.own_blk (Kd.R_away HO_4.out (fun _ hk => hk)) | (rw [add_block]; exact Kd.own_blk (Kd.R_away HO_4.out (fun _ hk => hk))) | (show (Addr.add _ _).block ≠ _; rw [add_block]; exact Kd.own_blk (Kd.R_away HO_4.out (fun _ hk => hk))) | (dsimp only; exact Kd.own_blk (Kd.R_away HO_4.out (fun _ hk => hk)))) _).trans (((cell_far (p := ⟨gb336, _, none⟩) (by first | exact Kd.own_blk (Kd.R_away HO_4.out (fun _ hk => hk)) | (rw [add_block]; exact Kd.own_blk (Kd.R_away HO_4.out (fun _ hk => hk))) | (show (Addr.add _ _).block ≠ _; rw [add_block]; exact Kd.own_blk (Kd.R_away HO_4.out (fun _ hk => hk))) | (dsimp only; exact Kd.own_blk (Kd.R_away HO_4.out (fun _ hk => hk)))) _).trans (((cell_far (p := ⟨gb336, _, none⟩) (by first | exact Kd.own_blk (Kd.R_away HO_4.out (fun _ hk => hk)) | (rw [add_block]; exact Kd.own_blk (Kd.R_away HO_4.out (fun _ hk => hk))) | (show (Addr.add _ _).block ≠ _; rw [add_block]; exact Kd.own_blk (Kd.R_away HO_4.out (fun _ hk => hk))) | (dsimp only; exact Kd.own_blk (Kd.R_away HO_4.out (fun _ hk => hk)))) _).trans (((cell_far (p := ⟨gb336, _, none⟩) (by first | exact Kd.own_blk (Kd.R_away HO_4.out (fun _ hk => hk)) | (rw [add_block]; exact Kd.own_blk (Kd.R_away HO_4.out (fun _ hk => hk))) | (show (Addr.add _ _).block ≠ _; rw [add_block]; exact Kd.own_blk (Kd.R_away HO_4.out (fun _ hk => hk))) | (dsimp only; exact Kd.own_blk (Kd.R_away HO_4.out (fun _ hk => hk)))) _).trans (hHeld.2.2.2.2.2.2.1)))))))), ((cell_far (p := ⟨gb336, _, none⟩) (by first | exact Kd.own_blk (Kd.R_away HO_4.out (fun _ hk => hk)) | (rw [add_block]; exact Kd.own_blk (Kd.R_away HO_4.out (fun _ hk => hk))) | (show (Addr.add _ _).block ≠ _; rw [add_block]; exact Kd.own_blk (Kd.R_away HO_4.out (fun _ hk => hk))) | (dsimp only; exact Kd.own_blk (Kd.R_away HO_4.out (fun _ hk => hk)))) _).trans (((cell_far (p := ⟨gb336, _, none⟩) (by first | exact Kd.own_blk (Kd.R_away HO_4.out (fun _ hk => hk)) | (rw [add_block]; exact Kd.own_blk (Kd.R_away HO_4.out (fun _ hk => hk))) | (show (Addr.add _ _).block ≠ _; rw [add_block]; exact Kd.own_blk (Kd.R_away HO_4.out (fun _ hk => hk))) | (dsimp only; exact Kd.own_blk (Kd.R_away HO_4.out (fun _ hk => hk)))) _).trans (((cell_far (p := ⟨gb336, _, none⟩) (by first | exact Kd.own_blk (Kd.R_away HO_4.out (fun _ hk => hk)) | (rw [add_block]; exact Kd.own_blk (Kd.R_away HO_4.out (fun _ hk => hk))) | (show (Addr.add _ _).block ≠ _; rw [add_block]; exact Kd.own_blk (Kd.R_away HO_4.out (fun _ hk => hk))) | (dsimp only; exact Kd.own_blk (Kd.R_away HO_4.out (fun _ hk => hk)))) _).trans (((cell_far (p := ⟨gb336, _, none⟩) (by first | exact Kd.own_blk (Kd.R_away HO_4.out (fun _ hk => hk)) | (rw [add_block]; exact Kd.own_blk (Kd.R_away HO_4.out (fun _ hk => hk))) | (show (Addr.add _ _).block ≠ _; rw [add_block]; exact Kd.own_blk (Kd.R_away HO_4.out (fun _ hk => hk))) | (dsimp only; exact Kd.own_blk (Kd.R_away HO_4.out (fun _ hk => hk)))) _).trans (hHeld.2.2.2.2.2.2.2.1)))))))), ((cell_far (p := ⟨gb336, _, none⟩) (by first | exact Kd.own_blk (Kd.R_away HO_4.out (fun _ hk => hk)) | (rw [add_block]; exact Kd.own_blk (Kd.R_away HO_4.out (fun _ hk => hk))) | (show (Addr.add _ _).block ≠ _; rw [add_block]; exact Kd.own_blk (Kd.R_away HO_4.out (fun _ hk => hk))) | (dsimp only; exact Kd.own_blk (Kd.R_away HO_4.out (fun _ hk => hk)))) _).trans (((cell_far (p := ⟨gb336, _, none⟩) (by first | exact Kd.own_blk (Kd.R_away HO_4.out (fun _ hk => hk)) | (rw [add_block]; exact Kd.own_blk (Kd.R_away HO_4.out (fun _ hk => hk))) | (show (Addr.add _ _).block ≠ _; rw [add_block]; exact Kd.own_blk (Kd.R_away HO_4.out (fun _ hk => hk))) | (dsimp only; exact Kd.own_blk (Kd.R_away HO_4.out (fun _ hk => hk)))) _).trans (((cell_far (p := ⟨gb336, _, none⟩) (by first | exact Kd.own_blk (Kd.R_away HO_4.out (fun _ hk => hk)) | (rw [add_block]; exact Kd.own_blk (Kd.R_away HO_4.out (fun _ hk => hk))) | (show (Addr.add _ _).block ≠ _; rw [add_block]; exact Kd.own_blk (Kd.R_away HO_4.out (fun _ hk => hk))) | (dsimp only; exact Kd.own_blk (Kd.R_away HO_4.out (fun _ hk => hk)))) _).trans (((cell_far (p := ⟨gb336, _, none⟩) (by first | exact Kd.own_blk (Kd.R_away HO_4.out (fun _ hk => hk)) | (rw [add_block]; exact Kd.own_blk (Kd.R_away HO_4.out (fun _ hk => hk))) | (show (Addr.add _ _).block ≠ _; rw [add_block]; exact Kd.own_blk (Kd.R_away HO_4.out (fun _ hk => hk))) | (dsimp only; exact Kd.own_blk (Kd.R_away HO_4.out (fun _ hk => hk)))) _).trans (hHeld.2.2.2.2.2.2.2.2))))))))⟩ (fun hHeld => ?_)
  clear hK K
  refine zq 16 (some 20) HT_ ?_; refine zq 17 (some 21) HT_ ?_
  refine done_ (done_of HT_.out (by kernel_rfl)) ?_
  go_upto_region 38 with (fail)
  go_cut [279] (fun v279 wc => ∃ (kq : Nat) (x279_144 : Bool), v279 = .bool x279_144 ∧ Aside0 (cellarlaw9_MemBack.j11 kq x3_1 t286 x5_3 x279_144 l0_0 l0_1 l0_2 l0_3 t330 t331 t332 t333 = some r) ∧ Aside0 (kq ≤ k4) ∧ Aside0 (Kd.R k62 62 wc w.heap.size (fun k_ => k_ ≠ gb336) (.slice (some ad329) t286.length co26) t286) ∧ Aside0 (wc.heap[gb279]? = some (.cells #[(.slice (some ad282) l0_0.length c0_0), (.slice A0_1 l0_1.length c0_1), (.slice A0_2 l0_2.length c0_2), (.slice A0_3 l0_3.length c0_3)] 54 (0, 0))) ∧ Aside0 (wc.heap[gb289]? = some (.cells #[.bool ((Int.tmod x5_3 2) == 0), .int .i64 (wrap64 (2 + (wrap64 (2 * (Int.tmod x3_1 2)))))] 29 (0, 0))) ∧ Aside0 (wc.heap[gb336]? = some (.cells #[.bool t330, .int .i64 t331, .int .i64 t332, .int .i64 t333] 62 (0, 0))) ∧ Aside0 (Below w.heap.size w wc))
  case first =>
   have H := HC145.out
   clear HC145
   replace H := Option.bind_eq_some_iff.mp H
   obtain ⟨t337, A1540, H⟩ := H
   replace H : (if t337 = 0 then (cellarlaw9_MemBack.j11 k4 x3_1 t286 x5_3 (t334 == 0) l0_0 l0_1 l0_2 l0_3 t330 t331 t332 t333) else (cellarlaw9_MemBack.j11 k4 x3_1 t286 x5_3 false l0_0 l0_1 l0_2 l0_3 t330 t331 t332 t333)) = some r := H
   have A154 := Aside0.mk A1540
   clear A1540
   by_cases c155 : t337 = 0
   rotate_left
   ·rw [if_neg c155] at H
    have c155b0 : (t337 == 0) = false := beq_eq_false_iff_ne.mpr c155
    have c155b1 : (t337 != 0) = true := bne_iff_ne.mpr c155
    (first | rw [c155b0] | rw [c155b1] | (simp only [i64_w, i32_w]; rw [c155b0]) | skip)
    have H' := Aside0.mk H
    clear H
    go_wp2_with (first | ((with_reducible refine gate_callee (f := 35) rfl ?_); refine zgo (some 274) Try.func35 #[.int .i64 t335] ?_; (with_reducible refine (cellarlaw9_num.calls t335 t337 _ A154.out).mono ?_); rintro e w' ⟨rfl, ⟨nd, rfl⟩⟩; refine ⟨_, rfl, ?_⟩))
    go_meet
    case rel => exact ⟨_, (false), (zr), H', ⟨by have := HK1.out; have := HJ9.out; have := HK3.out; have := HK4.out; first | omega | exact Nat.le_refl _⟩, ⟨by (with_reducible repeat (first | apply Kd.R_alloc | apply Kd.R_drewN | apply Kd.R_drew)); exact Kd.R_mono (Kd.R_far (p := ⟨gb336, 3, none⟩) (Kd.R_far (p := ⟨gb336, 2, none⟩) (Kd.R_far (p := ⟨gb336, 1, none⟩) (Kd.R_far (p := ⟨gb336, 0, none⟩) (Kd.R_mono HO_4.out (fun k_ hk => (⟨hk, hk⟩ : _ ∧ k_ ≠ gb336))) (fun _ hk => hk.2) (.bool t330)) (fun _ hk => hk.2) (.int .i64 t331)) (fun _ hk => hk.2) (.int .i64 t332)) (fun _ hk => hk.2) (.int .i64 t333)) (fun _ hk => hk.1)⟩, ⟨zf1 BK279.out NB279_336.out⟩, ⟨zf1 BK289.out NB289_336.out⟩, ⟨by (with_reducible repeat (first | refine blk_drewN ?_ _ | refine blk_drew ?_ | refine blk_alloc ?_ _)); refine blk_put (cs := #[.bool t330, .int .i64 t331, .int .i64 t332, .int .i64 0]) ?_ 3 _ rfl; (with_reducible repeat (first | refine blk_drewN ?_ _ | refine blk_drew ?_ | refine blk_alloc ?_ _)); refine blk_put (cs := #[.bool t330, .int .i64 t331, .int .i64 0, .int .i64 0]) ?_ 2 _ rfl; (with_reducible repeat (first | refine blk_drewN ?_ _ | refine blk_drew ?_ | refine blk_alloc ?_ _)); refine blk_put (cs := #[.bool t330, .int .i64 0, .int .i64 0, .int .i64 0]) ?_ 1 _ rfl; (with_reducible repeat (first | refine blk_drewN ?_ _ | refine blk_drew ?_ | refine blk_alloc ?_ _)); refine blk_put (cs := #[.bool false, .int .i64 0, .int .i64 0, .int .i64 0]) ?_ 0 _ rfl; (with_reducible repeat (first | refine blk_drewN ?_ _ | refine blk_drew ?_ | refine blk_alloc ?_ _)); exact BK336.out⟩, ⟨zw3 HB.out GE279.out GE289.out GE336.out⟩⟩
   rw [if_pos c155] at H
   have c155b0 : (t337 == 0) = true := beq_iff_eq.mpr c155
   have c155b1 : (t337 != 0) = false := bne_eq_false_iff_eq.mpr c155
   clear c155
   (first | rw [c155b0] | rw [c155b1] | (simp only [i64_w, i32_w]; rw [c155b0]) | skip)
   have H' := Aside0.mk H
   clear H
   go_wp2_with (first | ((with_reducible refine gate_callee (f := 35) rfl ?_); refine zgo (some 274) Try.func35 #[.int .i64 t335] ?_; (with_reducible refine (cellarlaw9_num.calls t335 t337 _ A154.out).mono ?_); rintro e w' ⟨rfl, ⟨nd, rfl⟩⟩; refine ⟨_, rfl, ?_⟩))
   go_meet
   case rel => exact ⟨_, ((t334 == 0)), (zr), H', ⟨by have := HK1.out; have := HJ9.out; have := HK3.out; have := HK4.out; first | omega | exact Nat.le_refl _⟩, ⟨by (with_reducible repeat (first | apply Kd.R_alloc | apply Kd.R_drewN | apply Kd.R_drew)); exact Kd.R_mono (Kd.R_far (p := ⟨gb336, 3, none⟩) (Kd.R_far (p := ⟨gb336, 2, none⟩) (Kd.R_far (p := ⟨gb336, 1, none⟩) (Kd.R_far (p := ⟨gb336, 0, none⟩) (Kd.R_mono HO_4.out (fun k_ hk => (⟨hk, hk⟩ : _ ∧ k_ ≠ gb336))) (fun _ hk => hk.2) (.bool t330)) (fun _ hk => hk.2) (.int .i64 t331)) (fun _ hk => hk.2) (.int .i64 t332)) (fun _ hk => hk.2) (.int .i64 t333)) (fun _ hk => hk.1)⟩, ⟨zf1 BK279.out NB279_336.out⟩, ⟨zf1 BK289.out NB289_336.out⟩, ⟨by (with_reducible repeat (first | refine blk_drewN ?_ _ | refine blk_drew ?_ | refine blk_alloc ?_ _)); refine blk_put (cs := #[.bool t330, .int .i64 t331, .int .i64 t332, .int .i64 0]) ?_ 3 _ rfl; (with_reducible repeat (first | refine blk_drewN ?_ _ | refine blk_drew ?_ | refine blk_alloc ?_ _)); refine blk_put (cs := #[.bool t330, .int .i64 t331, .int .i64 0, .int .i64 0]) ?_ 2 _ rfl; (with_reducible repeat (first | refine blk_drewN ?_ _ | refine blk_drew ?_ | refine blk_alloc ?_ _)); refine blk_put (cs := #[.bool t330, .int .i64 0, .int .i64 0, .int .i64 0]) ?_ 1 _ rfl; (with_reducible repeat (first | refine blk_drewN ?_ _ | refine blk_drew ?_ | refine blk_alloc ?_ _)); refine blk_put (cs := #[.bool false, .int .i64 0, .int .i64 0, .int .i64 0]) ?_ 0 _ rfl; (with_reducible repeat (first | refine blk_drewN ?_ _ | refine blk_drew ?_ | refine blk_alloc ?_ _)); exact BK336.out⟩, ⟨zw3 HB.out GE279.out GE289.out GE336.out⟩⟩
  case rest =>
  rename_i q8_ _ _ q9_ q19_ q24_ q25_ q26_ q27_ q28_ q29_ q30_ q31_ q32_ q33_ q34_ q35_ q36_ q37_ q38_ q39_ q40_ q41_ q42_ q43_ q44_ q45_ q46_ q47_ q48_ q49_ q50_ q51_ q52_ q53_ q54_ q55_ q56_ q57_ q58_ q59_ q60_ q61_ q62_ q63_ q64_ q65_ q66_ q67_ q68_ q69_ q70_ q71_ q72_ q73_ q74_ q75_ q76_ q77_ q78_ q79_ q80_ q81_ q82_ q83_ q84_ q85_ q86_ q87_ q88_ q89_ q90_ q91_ q92_ q93_ q94_ q95_ q96_ q97_ q98_ q99_ q100_ q101_ q102_ _ _ _ _ _ _ _ _ _ _ _ _ _ _ _ _ _ _ _ _ _ _ _ _ _ _ _ _ _ _ _ _ _ _ _ _ _ _ _ _ _ _ _ _ _ _ _ _ _ _ _ _ _ _ _ _ _ _ _ _ _ _ _ _ _ _ _ _ _ _ _ _ _ _ _ _ _ _ _ _ _ _ _ _ _ _ _ _ _ _ _ _ _ _ _ _ _ _ _ _ _ _ _ _ _ _ _ _ _ _ _ _ _ _ _ _ _ _ _ _ _ _ _ _ _ _ _ _ _ _ _ _ _ _ _ _ _ _ _ _ _ _ _ _ _ _ _ _ _ _ _ _ _ _ _ _ _ _ _ _ _ _ _ _ _ _ _ _ _ _ _ _ _ _ _ _ _ _ _ _ _ _ _ _ _ _ _ _ _ _ q103_ q104_ q105_ q106_ q107_ q108_
  clear q9_ q100_ q101_ q102_ q103_ q104_ q105_ q106_
  revert k c0_0 l0_0 A0_1 c0_1 l0_1 A0_2 c0_2 l0_2 A0_3 c0_3 l0_3 r w hu54 hu29 hu62 hu74 HC0_0 HR0_1 HC0_1 HR0_2 HC0_2 HR0_3 HC0_3 A2 q1_ gb279 w7 GW279 GE279 hfz8_0 hfz8_1 hfz8_2 hfz8_3 q2_ q3_ q4_ q5_ x3_1 k1 q7_ HK1 q8_ u30 u31 u32 u33 u34 u35 u36 u37 u39 u40 kj9 HJ9 c15b0 c16b0 t283 A17 t284 A18 c19b0 c19b1 t286 A20 hfz21_0 hfz21_1 hfz21_2 hfz21_3 ad282 A282_0 c282_0 HR0_0 hcz8_0 hcz8_1 hcz8_2 hcz8_3 q6_ hcz21_0 hcz21_1 hcz21_2 hcz21_3 hx282_0 HR282_0 HC282_0 p282 q282 q10_ q11_ nd A285_0 c285_0 hw285_0 HR285_0 HC285_0 p285 q285 w23 hx285_0 w24 e285 u19 u20 u21 u22 u23 u24 u25 u26 u27 q19_ q24_ q25_ q26_ q27_ q28_ q29_ q30_ q31_ q32_ q33_ q34_ q35_ q36_ q37_ q38_ q39_ q40_ q41_ q42_ q43_ q44_ q45_ q46_ q47_ q48_ q49_ q50_ q51_ q52_ q53_ q54_ q55_ q56_ q57_ q58_ q59_ q60_ q61_ q62_ q63_ q64_ q65_ q66_ q67_ q68_ q69_ q70_ q71_ q72_ q73_ q74_ q75_ q76_ q77_ q78_ q79_ q80_ q81_ q82_ q83_ q84_ q85_ q86_ q87_ q88_ q89_ q90_ q91_ q92_ q93_ q94_ q95_ q96_ q97_ q98_ q99_ q13_ q14_ x5_3 k3 q16_ HK3 c25b0 co26 q12_ q17_ gb289 w27 GW289 GE289 NB279_289 NB289_279 hnb28 hnc28 hcz29_0 hcz29_1 hfz29_0 hfz29_1 u2 u8 u9 u10 u11 u12 u13 u14 u15 u16 u17 u18 q20_ q21_ x7_4 k4 q23_ HK4 c30b0 c140b0 c141b0 c142b0 c143b0 t330 t331 t332 t333 t334 t335 A144 HC145 A328_0 c328_0 e328 hw328_0 HR328_0 HC328_0 p328 q328 ad329 HO288 q15_ q22_ p329 q329 HT_ HW_ w146 hx328_0 hx329_0 hx329_1 hx329_2 hx329_3 gb336 w149 hS_ HO_4 BK279 BK289 BK336 GW336 GE336 NB279_336 NB336_279 NB289_336 NB336_289 HB hs150 hfs150 hns150_0 hns150_1 hms150_0 hms150_1 hs151 hfs151 hns151_0 hns151_1 hms151_0 hms151_1 hs152 hfs152 hns152_0 hns152_1 hms152_0 hms152_1 hs153 hfs153 hns153_0 hns153_1 hms153_0 hms153_1 hHeld q107_ q108_ wc u56 u57 u58 u59 u60 u61 u62 u63 u64 u65 u66 u67 u68 u69 u70 u71 u72 u73 u74 u75 u76 u77 u78 u79 u80 u81 u82 u83 u84 u85 u86 u87 u88 u89 u90 u91 u92 u93 u94 u95 u96 u97 u98 u99 u100 u101 u102 u103 u104 u105 u106 u107 u108 u109 u110 u111 u112 u113 u114 u115 u116 u117 u118 u119 u120 u121 u122 u123 u124 u125 u126 u127 u128 u129 u130 u131 u132 u133 u134 u135 u136 u137 u138 u139 u140 u141 u142 u143 u144 u145 u146 u147 u148 u149 u150 u151 u152 u153 u154 u155 u156 u157 u158 u159 u160 u161 u162 u163 u164 u165 u166 u167 u168 u169 u170 u171 u172 u173 u174 u175 u176 u177 u178 u179 u180 u181 u182 u183 u184 u185 u186 u187 u188 u189 u190 u191 u192 u193 u194 u195 u196 u197 u198 u199 u200 u201 u202 u203 u204 u205 u206 u207 u208 u209 u210 u211 u212 u213 u214 u215 u216 u217 u218 u219 u220 u221 u222 u223 u224 u225 u226 u227 u228 u229 u230 u231 u232 u233 u234 u235 u236 u237 u238 u239 u240 u241 u242 u243 u244 u245 u246 u247 u248 u249 u250 u251 u252 u253 u254 u255 u256 u257 u258 u259 u260 u261 u262 u263 u264 u265 u266 u267 u268 u269 u270 u271 u272 u273 u274 u275 u276 u277 u278 u279 u280 u281 u282 u283 u284 u285 u286 u287 u288 u289 u290 u291 u292 u293 u294 u295 u296 u297 u298 u299 u300 u301 u302 u303 u304 u305 u306 u307 u308 u309 u310 u311 u312 u313 u314 u315 u316 u317 u318 u319 u320 u321 u322 u323 u324 u325 u326 u327 u328 u329 u330 u331 u332 u333 hcut
  exact cutP1.out
 rw [if_pos c30] at H
 have c30b0 : decide (x7_4 ≤ 7) = true := decide_eq_true c30
 clear c30
 have HC31 := Aside0.mk H
 clear H
 go_upto_if 78 with (first | ((with_reducible refine gate_dst (N := 8) rfl ?_); (try (refine gate_guard (by rfl) ?_; dsimp only)); refine zbox (N := 8) (cs := #[.bool false, .int .i64 0, .int .i64 0, .int .i64 0]) (t := 62) ?_; intro gb290 hg w32 hbox hb; have n0_ := Aside0.mk (Kd.R_below (Kd.R_elderB (by (with_reducible repeat (first | apply Kd.R_alloc | apply Kd.R_drewN | apply Kd.R_drew)); exact HO_4.out) gb290 (Nat.le_of_eq hg.symm)) hb); have n1_ := Aside0.mk (zbb BK279.out hb); have n2_ := Aside0.mk (zbb BK289.out hb); have n3_ := Aside0.mk (below_step (zw2 HB.out GE279.out GE289.out) hb); have BK290 := Aside0.mk (hbox); have GW290 := Aside0.mk (zg hg (below_size (zw2 HB.out GE279.out GE289.out))); have GE290 := GW290; have NB279_290 := Aside0.mk (zlt hg BK279.out); have NB290_279 := Aside0.mk (zgt hg BK279.out); have NB289_290 := Aside0.mk (zlt hg BK289.out); have NB290_289 := Aside0.mk (zgt hg BK289.out); clear HO_4 BK279 BK289 HB; have HO_4 := n0_; have BK279 := n1_; have BK289 := n2_; have HB := n3_; clear n0_ n1_ n2_ n3_; clear hb hbox hg; have hnb33 := NB290_279.out; have hnc33 := NB279_290.out; have hnb34 := NB290_289.out; have hnc34 := NB289_290.out; have hcz35_0 := zc BK290.out 0; have hcz35_1 := zc BK290.out 1; have hcz35_2 := zc BK290.out 2; have hcz35_3 := zc BK290.out 3; have hfz35_0 := blk_frozen BK290.out 0; have hfz35_1 := blk_frozen BK290.out 1; have hfz35_2 := blk_frozen BK290.out 2; have hfz35_3 := blk_frozen BK290.out 3))
 (try simp only [Act.put, List.setIfInBounds_toArray, List.set_cons_zero, List.set_cons_succ])
 go_cut [] (fun wc => ∃ (kq : Nat) (x291000_30 : Bool) (x291001_30 : Int) (x291002_30 : Int) (x291003_30 : Int), Aside0 (cellarlaw9_MemBack.j4 kq x3_1 t286 x5_3 x7_4 l0_0 l0_1 l0_2 l0_3 ((Int.tmod x5_3 2) == 0) (wrap64 (2 + (wrap64 (2 * (Int.tmod x3_1 2))))) x291000_30 x291001_30 x291002_30 x291003_30 = some r) ∧ Aside0 (kq ≤ k4) ∧ Aside0 (Kd.R k62 62 wc w.heap.size (fun k_ => k_ ≠ gb290) (.slice Ao26 t286.length co26) t286) ∧ Aside0 (wc.heap[gb279]? = some (.cells #[(.slice (some ad282) l0_0.length c0_0), (.slice A0_1 l0_1.length c0_1), (.slice A0_2 l0_2.length c0_2), (.slice A0_3 l0_3.length c0_3)] 54 (0, 0))) ∧ Aside0 (wc.heap[gb289]? = some (.cells #[.bool ((Int.tmod x5_3 2) == 0), .int .i64 (wrap64 (2 + (wrap64 (2 * (Int.tmod x3_1 2)))))] 29 (0, 0))) ∧ Aside0 (wc.heap[gb290]? = some (.cells #[.bool x291000_30, .int .i64 x291001_30, .int .i64 x291002_30, .int .i64 x291003_30] 62 (0, 0))) ∧ Aside0 (Below w.heap.size w wc))
 case first =>
  have H := HC31.out
  clear HC31
  by_cases c36 : x7_4 = 7
  rotate_left
  ·rw [if_neg c36] at H
   have c36b0 : (x7_4 == 7) = false := beq_eq_false_iff_ne.mpr c36
   have c36b1 : (x7_4 != 7) = true := bne_iff_ne.mpr c36
   (first | rw [c36b0] | rw [c36b1] | (simp only [i64_w, i32_w]; rw [c36b0]) | skip)
   have H' := Aside0.mk H
   clear H
   go_wp2
   go_meet
   case rel => exact ⟨_, (false), (wrap64 (93 + x7_4)), (0), (0), H', ⟨by have := HK1.out; have := HJ9.out; have := HK3.out; have := HK4.out; first | omega | exact Nat.le_refl _⟩, ⟨by (with_reducible repeat (first | apply Kd.R_alloc | apply Kd.R_drewN | apply Kd.R_drew)); exact Kd.R_mono (Kd.R_far (p := ⟨gb290, 3, none⟩) (Kd.R_far (p := ⟨gb290, 2, none⟩) (Kd.R_far (p := ⟨gb290, 1, none⟩) (Kd.R_far (p := ⟨gb290, 0, none⟩) (Kd.R_mono HO_4.out (fun k_ hk => (⟨hk, hk.2⟩ : _ ∧ k_ ≠ gb290))) (fun _ hk => hk.2) (.bool false)) (fun _ hk => hk.2) (.int .i64 (wrap64 (93 + x7_4)))) (fun _ hk => hk.2) (.int .i64 0)) (fun _ hk => hk.2) (.int .i64 0)) (fun _ hk => hk.1.2)⟩, ⟨zf1 BK279.out NB279_290.out⟩, ⟨zf1 BK289.out NB289_290.out⟩, ⟨by (with_reducible repeat (first | refine blk_drewN ?_ _ | refine blk_drew ?_ | refine blk_alloc ?_ _)); refine blk_put (cs := #[.bool false, .int .i64 (wrap64 (93 + x7_4)), .int .i64 0, .int .i64 0]) ?_ 3 _ rfl; (with_reducible repeat (first | refine blk_drewN ?_ _ | refine blk_drew ?_ | refine blk_alloc ?_ _)); refine blk_put (cs := #[.bool false, .int .i64 (wrap64 (93 + x7_4)), .int .i64 0, .int .i64 0]) ?_ 2 _ rfl; (with_reducible repeat (first | refine blk_drewN ?_ _ | refine blk_drew ?_ | refine blk_alloc ?_ _)); refine blk_put (cs := #[.bool false, .int .i64 0, .int .i64 0, .int .i64 0]) ?_ 1 _ rfl; (with_reducible repeat (first | refine blk_drewN ?_ _ | refine blk_drew ?_ | refine blk_alloc ?_ _)); refine blk_put (cs := #[.bool false, .int .i64 0, .int .i64 0, .int .i64 0]) ?_ 0 _ rfl; (with_reducible repeat (first | refine blk_drewN ?_ _ | refine blk_drew ?_ | refine blk_alloc ?_ _)); exact BK290.out⟩, ⟨zw3 HB.out GE279.out GE289.out GE290.out⟩⟩
  rw [if_pos c36] at H
  have c36b0 : (x7_4 == 7) = true := beq_iff_eq.mpr c36
  have c36b1 : (x7_4 != 7) = false := bne_eq_false_iff_eq.mpr c36
  clear c36
  (first | rw [c36b0] | rw [c36b1] | (simp only [i64_w, i32_w]; rw [c36b0]) | skip)
  have H' := Aside0.mk H
  clear H
  have hnb37 := NB290_279.out
  have hnc37 := NB279_290.out
  have hnb38 := NB290_289.out
  have hnc38 := NB289_290.out
  have hcz39_0 := zc BK290.out 0
  have hcz39_1 := zc BK290.out 1
  have hcz39_2 := zc BK290.out 2
  have hcz39_3 := zc BK290.out 3
  have hfz39_0 := blk_frozen BK290.out 0
  have hfz39_1 := blk_frozen BK290.out 1
  have hfz39_2 := blk_frozen BK290.out 2
  have hfz39_3 := blk_frozen BK290.out 3
  go_wp2
  go_meet
  case rel => exact ⟨_, (true), (0), (1), (Int.tmod x7_4 3), H', ⟨by have := HK1.out; have := HJ9.out; have := HK3.out; have := HK4.out; first | omega | exact Nat.le_refl _⟩, ⟨by (with_reducible repeat (first | apply Kd.R_alloc | apply Kd.R_drewN | apply Kd.R_drew)); exact Kd.R_mono (Kd.R_far (p := ⟨gb290, 3, none⟩) (Kd.R_far (p := ⟨gb290, 2, none⟩) (Kd.R_far (p := ⟨gb290, 1, none⟩) (Kd.R_far (p := ⟨gb290, 0, none⟩) (Kd.R_far (p := ⟨gb290, 3, none⟩) (Kd.R_far (p := ⟨gb290, 2, none⟩) (Kd.R_far (p := ⟨gb290, 1, none⟩) (Kd.R_far (p := ⟨gb290, 0, none⟩) (Kd.R_mono HO_4.out (fun k_ hk => (⟨hk, hk.2⟩ : _ ∧ k_ ≠ gb290))) (fun _ hk => hk.2) (.bool false)) (fun _ hk => hk.2) (.int .i64 (wrap64 (93 + x7_4)))) (fun _ hk => hk.2) (.int .i64 0)) (fun _ hk => hk.2) (.int .i64 0)) (fun _ hk => hk.2) (.bool true)) (fun _ hk => hk.2) (.int .i64 0)) (fun _ hk => hk.2) (.int .i64 1)) (fun _ hk => hk.2) (.int .i64 (Int.tmod x7_4 3))) (fun _ hk => hk.1.2)⟩, ⟨zf1 BK279.out NB279_290.out⟩, ⟨zf1 BK289.out NB289_290.out⟩, ⟨by (with_reducible repeat (first | refine blk_drewN ?_ _ | refine blk_drew ?_ | refine blk_alloc ?_ _)); refine blk_put (cs := #[.bool true, .int .i64 0, .int .i64 1, .int .i64 0]) ?_ 3 _ rfl; (with_reducible repeat (first | refine blk_drewN ?_ _ | refine blk_drew ?_ | refine blk_alloc ?_ _)); refine blk_put (cs := #[.bool true, .int .i64 0, .int .i64 0, .int .i64 0]) ?_ 2 _ rfl; (with_reducible repeat (first | refine blk_drewN ?_ _ | refine blk_drew ?_ | refine blk_alloc ?_ _)); refine blk_put (cs := #[.bool true, .int .i64 (wrap64 (93 + x7_4)), .int .i64 0, .int .i64 0]) ?_ 1 _ rfl; (with_reducible repeat (first | refine blk_drewN ?_ _ | refine blk_drew ?_ | refine blk_alloc ?_ _)); refine blk_put (cs := #[.bool false, .int .i64 (wrap64 (93 + x7_4)), .int .i64 0, .int .i64 0]) ?_ 0 _ rfl; (with_reducible repeat (first | refine blk_drewN ?_ _ | refine blk_drew ?_ | refine blk_alloc ?_ _)); refine blk_put (cs := #[.bool false, .int .i64 (wrap64 (93 + x7_4)), .int .i64 0, .int .i64 0]) ?_ 3 _ rfl; (with_reducible repeat (first | refine blk_drewN ?_ _ | refine blk_drew ?_ | refine blk_alloc ?_ _)); refine blk_put (cs := #[.bool false, .int .i64 (wrap64 (93 + x7_4)), .int .i64 0, .int .i64 0]) ?_ 2 _ rfl; (with_reducible repeat (first | refine blk_drewN ?_ _ | refine blk_drew ?_ | refine blk_alloc ?_ _)); refine blk_put (cs := #[.bool false, .int .i64 0, .int .i64 0, .int .i64 0]) ?_ 1 _ rfl; (with_reducible repeat (first | refine blk_drewN ?_ _ | refine blk_drew ?_ | refine blk_alloc ?_ _)); refine blk_put (cs := #[.bool false, .int .i64 0, .int .i64 0, .int .i64 0]) ?_ 0 _ rfl; (with_reducible repeat (first | refine blk_drewN ?_ _ | refine blk_drew ?_ | refine blk_alloc ?_ _)); exact BK290.out⟩, ⟨zw3 HB.out GE279.out GE289.out GE290.out⟩⟩
 case rest =>
 rename_i q8_ q9_ q24_ q25_ q26_ _ _ _ _ _ _ _ _ _ _ _ _ _ _ _ _ _ _ _ _ _ _ _ _ _ _ _ _ _ _ _ _ _ _ _ _ _ _ _ _ _ _ _ _ _ _ _ _ _ _ _ _ _ _ _ _ _ _ _ _ _ _ _ _ _ _ _ _ _ _ _ _ _ _ _ _ _ _ _ _ _ _ _ _ _ _ _ _ _ _ _ _ _ _ _ _ _ _ _ _ _ _ _ _ _ _ _ _ _ _ _ _ _ _ _ _ _ _ _ _ _ _ _ _ _ _ _ _ _ _ _ _ _ _ _ _ _ _ _ _ _ _ _ _ _ _ _ _ _ _ _ _ _ _ _ _ _ _ _ _ _ _ _ _ _ _ _ _ _ _ _ _ _ _ _ _ _ _ _ _ _ _ _ _ _ _ _ _ _ q27_ q28_ q29_ q30_
 clear q9_ q24_ q25_ q26_
 revert k c0_0 l0_0 A0_1 c0_1 l0_1 A0_2 c0_2 l0_2 A0_3 c0_3 l0_3 r w hu54 hu29 hu62 hu74 HC0_0 HR0_1 HC0_1 HR0_2 HC0_2 HR0_3 HC0_3 A2 q1_ gb279 w7 GW279 GE279 hfz8_0 hfz8_1 hfz8_2 hfz8_3 q2_ q3_ q4_ q5_ x3_1 k1 q7_ HK1 q8_ u30 u31 u32 u33 u34 u35 u36 u37 u39 u40 kj9 HJ9 c15b0 c16b0 t283 A17 t284 A18 c19b0 c19b1 t286 A20 hfz21_0 hfz21_1 hfz21_2 hfz21_3 ad282 A282_0 c282_0 HR0_0 hcz8_0 hcz8_1 hcz8_2 hcz8_3 q6_ hcz21_0 hcz21_1 hcz21_2 hcz21_3 hx282_0 HR282_0 HC282_0 p282 q282 q10_ q11_ nd A285_0 c285_0 hw285_0 HR285_0 HC285_0 p285 q285 HT_ HW_ w23 hx285_0 w24 hHeld e285 u19 u20 u21 u22 u23 u24 u25 u26 u27 u60 u61 u259 u260 u261 u262 u263 u264 u265 u266 u267 u268 u269 u270 u271 u272 u273 u274 u275 u276 u277 u278 u279 u280 u281 u282 u283 u284 u285 u286 u287 u288 u289 u290 u291 u292 u293 u294 u295 u296 u297 u298 u299 u300 u301 u302 u303 u304 u305 u306 u307 u308 u309 u310 u311 u312 u313 u314 u315 u316 u317 u318 u319 u320 u321 u322 u323 u324 u325 u326 u327 u328 u329 u330 u331 u332 u333 q13_ q14_ x5_3 k3 q16_ HK3 c25b0 Ao26 co26 HO288 q15_ q12_ q17_ gb289 w27 GW289 GE289 NB279_289 NB289_279 hnb28 hnc28 hcz29_0 hcz29_1 hfz29_0 hfz29_1 q18_ q19_ wr u2 u9 u10 u11 u12 u13 u14 u15 u16 u17 u18 q20_ q21_ q22_ x7_4 k4 q23_ HK4 c30b0 HC31 q27_ q28_ gb290 w32 BK290 GW290 GE290 NB279_290 NB290_279 NB289_290 NB290_289 HO_4 BK279 BK289 HB hnb33 hnc33 hnb34 hnc34 hcz35_0 hcz35_1 hcz35_2 hcz35_3 hfz35_0 hfz35_1 hfz35_2 hfz35_3 q29_ q30_ wc u70 u71 u72 u73 u74 u75 u76 u77 u78 u79 u80 u81 u82 u83 u84 u85 u86 u87 u88 u89 u90 u91 u92 u93 u94 u95 u96 u97 u98 u99 u100 u101 u102 u103 u104 u105 u106 u107 u108 u109 u110 u111 u112 u113 u114 u115 u116 u117 u118 u119 u120 u121 u122 u123 u124 u125 u126 u127 u128 u129 u130 u131 u132 u133 u134 u135 u136 u137 u138 u139 u140 u141 u142 u143 u144 u145 u146 u147 u148 u149 u150 u151 u152 u153 u154 u155 u156 u157 u158 u159 u160 u161 u162 u163 u164 u165 u166 u167 u168 u169 u170 u171 u172 u173 u174 u175 u176 u177 u178 u179 u180 u181 u182 u183 u184 u185 u186 u187 u188 u189 u190 u191 u192 u193 u194 u195 u196 u197 u198 u199 u200 u201 u202 u203 u204 u205 u206 u207 u208 u209 u210 u211 u212 u213 u214 u215 u216 u217 u218 u219 u220 u221 u222 u223 u224 u225 u226 u227 u228 u229 u230 u231 u232 u233 u234 u235 u236 u237 u238 u239 u240 u241 u242 u243 u244 u245 u246 u247 u248 u249 u250 u251 u252 u253 u254 u255 u256 u257 u258 hcut
 exact cutP2.out
end Go.Proofs.Ytjoplkillkhiaaa.Q2
