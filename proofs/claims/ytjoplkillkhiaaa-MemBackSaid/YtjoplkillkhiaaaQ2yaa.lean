-- Written by this session's own edition of the print.
import Derived.Test.YtjoplkillkhiaaaQ2x0
import Derived.Test.YtjoplkillkhiaaaQ2x1
import Derived.Test.YtjoplkillkhiaaaQ2x2
import Derived.Test.YtjoplkillkhiaaaQ2x3
import Derived.Test.YtjoplkillkhiaaaQ2x6
import Derived.Test.YtjoplkillkhiaaaQ2x7
import Derived.Test.YtjoplkillkhiaaaQ2x10
import Derived.Test.YtjoplkillkhiaaaQ2x11
import Derived.Test.YtjoplkillkhiaaaYSq
import Derived.Test.YtjoplkillkhiaaaYSq2
import Derived.Test.YtjoplkillkhiaaaYSq3
import Derived.Test.YtjoplkillkhiaaaQ2x12
import Derived.Test.YtjoplkillkhiaaaCut
import Derived.Test.YtjoplkillkhiaaaQ2y
import Derived.Test.YtjoplkillkhiaaaQ2ya
namespace Go.Proofs.Ytjoplkillkhiaaa.Q2
open Go.Proofs.Ytjoplkillkhiaaa.Cuts Go.RowKit Go.Proofs.Ytjoplkillkhiaaa.Fn Go.Proofs.YtjoplkillkhiaaaW.PrintWords Go.Proofs.YtjoplkillkhiaaaW.PrintLast Go.Proofs.YtjoplkillkhiaaaW.PrintMore
set_option linter.unusedVariables false
set_option linter.unusedSimpArgs false
set_option maxHeartbeats 60000000 in
set_option maxRecDepth 100000 in
noncomputable def cellarlaw9_MemBack.cut_aa : Cut1 (cellarlaw9_MemBack.cut_a.P1) := by
 apply Cut1.mk
 case h =>
 intro cutP1
 intro k A0_0 c0_0 l0_0 A0_1 c0_1 l0_1 A0_2 c0_2 l0_2 A0_3 c0_3 l0_3 r w hu54 hu29 hu62 hu74 HR0_0 HC0_0 HR0_1 HC0_1 HR0_2 HC0_2 HR0_3 HC0_3 A2 q1_ gb279 w7 GW279 GE279 hcz8_0 hcz8_1 hcz8_2 hcz8_3 hfz8_0 hfz8_1 hfz8_2 hfz8_3 q2_ q3_ wr u2 u4 u5 u6 u7 u8 u9 u10 u11 u12 u13 u14 u15 u16 u17 u18 u19 u20 u21 u22 u23 u24 u25 u26 u27 q4_ q5_ q6_ x3_1 BK279 HB k1 q7_ HK1 HC10 q10_ q11_ q12_ q13_ wc u30 u31 u32 u33 u34 u35 u36 u37 u38 u39 u40 u41 u42 u43 u44 u45 u46 u47 u48 u49 u50 u51 u52 u53 u54 u55 u56 u57 u58 u59 u60 u61 u62 u63 u64 u65 u66 u67 u68 u69 u70 u71 u72 u73 u74 u75 u76 u77 u78 u79 u80 u81 u82 u83 u84 u85 u86 u87 u88 u89 u90 u91 u92 u93 u94 u95 u96 u97 u98 u99 u100 u101 u102 u103 u104 u105 u106 u107 u108 u109 u110 u111 u112 u113 u114 u115 u116 u117 u118 u119 u120 u121 u122 u123 u124 u125 u126 u127 u128 u129 u130 u131 u132 u133 u134 u135 u136 u137 u138 u139 u140 u141 u142 u143 u144 u145 u146 u147 u148 u149 u150 u151 u152 u153 u154 u155 u156 u157 u158 u159 u160 u161 u162 u163 u164 u165 u166 u167 u168 u169 u170 u171 u172 u173 u174 u175 u176 u177 u178 u179 u180 u181 u182 u183 u184 u185 u186 u187 u188 u189 u190 u191 u192 u193 u194 u195 u196 u197 u198 u199 u200 u201 u202 u203 u204 u205 u206 u207 u208 u209 u210 u211 u212 u213 u214 u215 u216 u217 u218 u219 u220 u221 u222 u223 u224 u225 u226 u227 u228 u229 u230 u231 u232 u233 u234 u235 u236 u237 u238 u239 u240 u241 u242 u243 u244 u245 u246 u247 u248 u249 u250 u251 u252 u253 u254 u255 u256 u257 u258 u259 u260 u261 u262 u263 u264 u265 u266 u267 u268 u269 u270 u271 u272 u273 u274 u275 u276 u277 u278 u279 u280 u281 u282 u283 u284 u285 u286 u287 u288 u289 u290 u291 u292 u293 u294 u295 u296 u297 u298 u299 u300 u301 u302 u303 u304 u305 u306 u307 u308 u309 u310 u311 u312 u313 u314 u315 u316 u317 u318 u319 u320 u321 u322 u323 u324 u325 u326 u327 u328 u329 u330 u331 u332 u333 hcut
 clear HC10
 try clear c1; try clear c2; try clear p2; try clear c3; try clear c9; try clear c11; try clear c11b0; try clear p2
 obtain ⟨kq, x38_9, rfl, HA, HJ9, BK279, HB⟩ := hcut
 cases kq with
 | zero => exact absurd HA.out (by simp [cellarlaw9_MemBack.j1])
 | succ kj9 =>
 have H := HA.out
 clear HA
 simp only [cellarlaw9_MemBack.j1] at H
 by_cases c14 : x38_9 = true
 ·subst c14
  have H1 : (if 0 ≤ x3_1 then (if x3_1 < (l0_0.length : Int) then ((mem_Check.f (rd_L4 l0_0 x3_1)).bind fun t283 => ((cellarlaw9_num.f t283).bind fun t284 => (if t284 = 0 then ((cellarlaw9_pointers.f kj9 l0_0 l0_1 l0_2 l0_3 (rd_L4 l0_0 x3_1)).bind fun t286 => (cellarlaw9_MemBack.l1 kj9 x3_1 t286 0 l0_0 l0_1 l0_2 l0_3)) else (cellarlaw9_MemBack.l0 kj9 (wrap64 (x3_1 + 1)) l0_0 l0_1 l0_2 l0_3)))) else (none)) else (none)) = some r := by rw [if_pos rfl] at H; exact H
  clear H
  have H := H1
  clear H1
  by_cases c15 : 0 ≤ x3_1
  rotate_left
  ·rw [if_neg c15] at H
   exact absurd H (by simp)
  rw [if_pos c15] at H
  have c15b0 : decide (0 ≤ x3_1) = true := decide_eq_true c15
  clear c15
  by_cases c16 : x3_1 < (l0_0.length : Int)
  rotate_left
  ·rw [if_neg c16] at H
   exact absurd H (by simp)
  rw [if_pos c16] at H
  have c16b0 : decide (x3_1 < (l0_0.length : Int)) = true := decide_eq_true c16
  clear c16
  replace H := Option.bind_eq_some_iff.mp H
  obtain ⟨t283, A170, H⟩ := H
  replace H : ((cellarlaw9_num.f t283).bind fun t284 => (if t284 = 0 then ((cellarlaw9_pointers.f kj9 l0_0 l0_1 l0_2 l0_3 (rd_L4 l0_0 x3_1)).bind fun t286 => (cellarlaw9_MemBack.l1 kj9 x3_1 t286 0 l0_0 l0_1 l0_2 l0_3)) else (cellarlaw9_MemBack.l0 kj9 (wrap64 (x3_1 + 1)) l0_0 l0_1 l0_2 l0_3))) = some r := H
  have A17 := Aside0.mk A170
  clear A170
  replace H := Option.bind_eq_some_iff.mp H
  obtain ⟨t284, A180, H⟩ := H
  replace H : (if t284 = 0 then ((cellarlaw9_pointers.f kj9 l0_0 l0_1 l0_2 l0_3 (rd_L4 l0_0 x3_1)).bind fun t286 => (cellarlaw9_MemBack.l1 kj9 x3_1 t286 0 l0_0 l0_1 l0_2 l0_3)) else (cellarlaw9_MemBack.l0 kj9 (wrap64 (x3_1 + 1)) l0_0 l0_1 l0_2 l0_3)) = some r := H
  have A18 := Aside0.mk A180
  clear A180
  by_cases c19 : t284 = 0
  rotate_left
  ·rw [if_neg c19] at H
   have c19b0 : (t284 == 0) = false := beq_eq_false_iff_ne.mpr c19
   have c19b1 : (t284 != 0) = true := bne_iff_ne.mpr c19
   have H' := Aside0.mk H
   clear H
   have hcz190_0 := zc BK279.out 0
   have hcz190_1 := zc BK279.out 1
   have hcz190_2 := zc BK279.out 2
   have hcz190_3 := zc BK279.out 3
   have hfz190_0 := blk_frozen BK279.out 0
   have hfz190_1 := blk_frozen BK279.out 1
   have hfz190_2 := blk_frozen BK279.out 2
   have hfz190_3 := blk_frozen BK279.out 3
   have p282 : 0 ≤ (x3_1 : Int) := zdec
   have q282 : x3_1 < (l0_0.length : Int) := zdec
   obtain ⟨ad282, A282_0, c282_0, e282, hx282_0, hl282_0, hi282_0⟩ := at_L4 HR0_0.out x3_1 p282 q282
   cases e282
   replace hx282_0 := zh HB.out hx282_0
   have HR282_0 := Aside0.mk hi282_0
   have HC282_0 := Aside0.mk hl282_0
   clear hi282_0 hl282_0
   replace p282 := eq_true p282
   replace q282 := eq_true q282
   go_wp2_with (first | ((with_reducible refine gate_callee (f := 42) rfl ?_); refine zgo (some 46) Try.func42 #[.slice A282_0 (rd_L4 l0_0 x3_1).length c282_0] ?_; (with_reducible refine (mem_Check.calls _ _ (rd_L4 l0_0 x3_1) t283 _ ?side1 ?side2 A17.out).mono ?_); (case side1 => repeat (first | exact (Kd.C_below HR282_0.out HB.out) | (with_reducible refine Kd.C_alloc ?_ _) | (with_reducible refine Kd.C_drewN ?_ _) | (with_reducible refine Kd.C_drew ?_))); (case side2 => exact HC282_0.out); rintro e w191 ⟨rfl, hb⟩; refine ⟨_, rfl, ?_⟩; have n0_ := Aside0.mk (zbb BK279.out hb); have n1_ := Aside0.mk (below_step (zw1 HB.out GE279.out) hb); clear BK279 HB; have BK279 := n0_; have HB := n1_; clear n0_ n1_; (try clear hb); (try clear hb2); (try clear hk); (try clear hi)) | ((with_reducible refine gate_callee (f := 35) rfl ?_); refine zgo (some 47) Try.func35 #[.int .i64 t283] ?_; (with_reducible refine (cellarlaw9_num.calls t283 t284 _ A18.out).mono ?_); rintro e w' ⟨rfl, ⟨nd, rfl⟩⟩; refine ⟨_, rfl, ?_⟩))
   go_roundg kj9
   case measure => have := HK1.out; have := HJ9.out; omega
   case rel => exact ⟨(wrap64 (x3_1 + 1)), (zr), H', ⟨by have := HK1.out; have := HJ9.out; omega⟩, ⟨zb BK279.out⟩, ⟨zw1 HB.out GE279.out⟩⟩
  rw [if_pos c19] at H
  have c19b0 : (t284 == 0) = true := beq_iff_eq.mpr c19
  have c19b1 : (t284 != 0) = false := bne_eq_false_iff_eq.mpr c19
  clear c19
  replace H := Option.bind_eq_some_iff.mp H
  obtain ⟨t286, A200, H⟩ := H
  replace H : (cellarlaw9_MemBack.l1 kj9 x3_1 t286 0 l0_0 l0_1 l0_2 l0_3) = some r := H
  have A20 := Aside0.mk A200
  clear A200
  have H' := Aside0.mk H
  clear H
  have hcz21_0 := zc BK279.out 0
  have hcz21_1 := zc BK279.out 1
  have hcz21_2 := zc BK279.out 2
  have hcz21_3 := zc BK279.out 3
  have hfz21_0 := blk_frozen BK279.out 0
  have hfz21_1 := blk_frozen BK279.out 1
  have hfz21_2 := blk_frozen BK279.out 2
  have hfz21_3 := blk_frozen BK279.out 3
  have p282 : 0 ≤ (x3_1 : Int) := zdec
  have q282 : x3_1 < (l0_0.length : Int) := zdec
  obtain ⟨ad282, A282_0, c282_0, e282, hx282_0, hl282_0, hi282_0⟩ := at_L4 HR0_0.out x3_1 p282 q282
  cases e282
  replace hx282_0 := zh HB.out hx282_0
  have HR282_0 := Aside0.mk hi282_0
  have HC282_0 := Aside0.mk hl282_0
  clear hi282_0 hl282_0
  replace p282 := eq_true p282
  replace q282 := eq_true q282
  try go_wp2_with (first | ((with_reducible refine gate_callee (f := 42) rfl ?_); refine zgo (some 46) Try.func42 #[.slice A282_0 (rd_L4 l0_0 x3_1).length c282_0] ?_; (with_reducible refine (mem_Check.calls _ _ (rd_L4 l0_0 x3_1) t283 _ ?side1 ?side2 A17.out).mono ?_); (case side1 => repeat (first | exact (Kd.C_below HR282_0.out HB.out) | (with_reducible refine Kd.C_alloc ?_ _) | (with_reducible refine Kd.C_drewN ?_ _) | (with_reducible refine Kd.C_drew ?_))); (case side2 => exact HC282_0.out); rintro e w22 ⟨rfl, hb⟩; refine ⟨_, rfl, ?_⟩; have n0_ := Aside0.mk (zbb BK279.out hb); have n1_ := Aside0.mk (below_step (zw1 HB.out GE279.out) hb); clear BK279 HB; have BK279 := n0_; have HB := n1_; clear n0_ n1_; (try clear hb); (try clear hb2); (try clear hk); (try clear hi)) | ((with_reducible refine gate_callee (f := 35) rfl ?_); refine zgo (some 47) Try.func35 #[.int .i64 t283] ?_; (with_reducible refine (cellarlaw9_num.calls t283 t284 _ A18.out).mono ?_); rintro e w' ⟨rfl, ⟨nd, rfl⟩⟩; refine ⟨_, rfl, ?_⟩))
  (try (rw [drewN_self w22]; generalize hq_ : World.drewN w22 _ = w22; have n0_ : Aside0 (w22.heap[gb279]? = some (.cells #[.slice (some ad282) l0_0.length c0_0, .slice A0_1 l0_1.length c0_1, .slice A0_2 l0_2.length c0_2, .slice A0_3 l0_3.length c0_3] 54 (0, 0))) := ⟨by rw [← hq_]; exact (zb BK279.out)⟩; have n1_ : Aside0 (Below w.heap.size w w22) := ⟨by rw [← hq_]; exact (zw1 HB.out GE279.out)⟩; clear BK279 HB hq_; have BK279 := n0_; have HB := n1_; clear n0_ n1_))
  have n0_ := Aside0.mk (blk_drew BK279.out)
  have n1_ := Aside0.mk (below_drew1 HB.out)
  clear BK279
  clear HB
  have BK279 := n0_
  have HB := n1_
  clear n0_ n1_
  have p285 : 0 ≤ (x3_1 : Int) := zdec
  have q285 : x3_1 < (l0_0.length : Int) := zdec
  obtain ⟨ad285, A285_0, c285_0, e285, hx285_0, hl285_0, hi285_0⟩ := at_L4 HR0_0.out x3_1 p285 q285
  have hw285_0 := hx285_0
  obtain rfl : ad282 = ad285 := (by injection e285)
  replace hx285_0 := zh HB.out hx285_0
  have HR285_0 := Aside0.mk hi285_0
  have HC285_0 := Aside0.mk hl285_0
  clear hi285_0 hl285_0
  replace p285 := eq_true p285
  replace q285 := eq_true q285
  refine start_ (n := 8) (S := fun w' => w'.cell? ⟨gb279, 0, none⟩ = some (.slice (some ad282) l0_0.length c0_0) ∧ w'.cell? ⟨gb279, 1, none⟩ = some (.slice A0_1 l0_1.length c0_1) ∧ w'.cell? ⟨gb279, 2, none⟩ = some (.slice A0_2 l0_2.length c0_2) ∧ w'.cell? ⟨gb279, 3, none⟩ = some (.slice A0_3 l0_3.length c0_3) ∧ w'.cell? (ad282.add (x3_1).toNat) = some (.slice A285_0 (rd_L4 l0_0 x3_1).length c285_0)) (ds := []) #[false,false,false,false,false,false,false,false] (by kernel_rfl) rfl rfl ⟨(blk_cell BK279.out 0).trans rfl, (blk_cell BK279.out 1).trans rfl, (blk_cell BK279.out 2).trans rfl, (blk_cell BK279.out 3).trans rfl, ((HB.out.cell (World.block_lt_of_cell? w _ hw285_0)).trans hw285_0)⟩ (fun hHeld => ?_); refine with_tabW cellarlaw9_MemBack.tab7 cellarlaw9_MemBack.bits7 (fun HT_ HW_ => ?_)
  generalize w22.drew = w23 at BK279 HB HR285_0 hx285_0 hHeld ⊢
  refine zq 1 (some 50) HT_ ?_; refine zq 3 (some 52) HT_ ?_; refine zt 0 (some 49) HT_ HW_ hHeld ?_; refine zt 2 (some 51) HT_ HW_ hHeld ?_; refine zq 4 (some 53) HT_ ?_; refine zt 5 (some 54) HT_ HW_ hHeld ?_
  refine one_ (i := 6) (N := some 55) #[true,true,true,true,true,true,true,false] rfl rfl (one_of HT_.out (by kernel_rfl)) (by decide) (fun K hK => ?_)
  refine goes_ Try.func29 (by kernel_rfl) rfl #[.agg #[.slice (some ad282) l0_0.length c0_0, .slice A0_1 l0_1.length c0_1, .slice A0_2 l0_2.length c0_2, .slice A0_3 l0_3.length c0_3], .slice A285_0 (rd_L4 l0_0 x3_1).length c285_0] (by rfl) rfl rfl (by (try simp only [List.map_toArray, List.map_cons, List.map_nil]); first | done | rfl | (simp only [List.length_drop, List.length_take]; rfl)) ?_
  with_reducible refine (cellarlaw9_pointers.calls kj9 _ _ l0_0 _ _ l0_1 _ _ l0_2 _ _ l0_3 _ _ (rd_L4 l0_0 x3_1) t286 _ ?side1 ?side2 ?side3 ?side4 ?side5 ?side6 ?side7 ?side8 ?side9 ?side10 A20.out).mono ?_
  (case side1 => repeat (first | exact (Kd.C_below HR0_0.out HB.out) | (with_reducible refine Kd.C_alloc ?_ _) | (with_reducible refine Kd.C_drewN ?_ _) | (with_reducible refine Kd.C_drew ?_)))
  (case side2 => exact HC0_0.out)
  (case side3 => repeat (first | exact (Kd.C_below HR0_1.out HB.out) | (with_reducible refine Kd.C_alloc ?_ _) | (with_reducible refine Kd.C_drewN ?_ _) | (with_reducible refine Kd.C_drew ?_)))
  (case side4 => exact HC0_1.out)
  (case side5 => repeat (first | exact (Kd.C_below HR0_2.out HB.out) | (with_reducible refine Kd.C_alloc ?_ _) | (with_reducible refine Kd.C_drewN ?_ _) | (with_reducible refine Kd.C_drew ?_)))
  (case side6 => exact HC0_2.out)
  (case side7 => repeat (first | exact (Kd.C_below HR0_3.out HB.out) | (with_reducible refine Kd.C_alloc ?_ _) | (with_reducible refine Kd.C_drewN ?_ _) | (with_reducible refine Kd.C_drew ?_)))
  (case side8 => exact HC0_3.out)
  (case side9 => repeat (first | exact (Kd.C_below HR285_0.out HB.out) | (with_reducible refine Kd.C_alloc ?_ _) | (with_reducible refine Kd.C_drewN ?_ _) | (with_reducible refine Kd.C_drew ?_)))
  (case side10 => exact HC285_0.out)
  rintro e w24 ⟨v287, rfl, ho0, hb⟩
  refine ⟨_, rfl, ?_⟩
  have n0_ := Aside0.mk (Kd.R_lower ho0 (below_size (zw1 HB.out GE279.out)))
  have n1_ := Aside0.mk (zbb BK279.out hb)
  have n2_ := Aside0.mk (below_step (zw1 HB.out GE279.out) hb)
  clear BK279
  clear HB
  have HO288 := n0_
  have BK279 := n1_
  have HB := n2_
  clear n0_ n1_ n2_
  (try clear hb)
  (try clear hb2)
  (try clear hk)
  (try clear hi)
  (try clear ho0)
  refine hK.out _ _ ⟨(blk_cell BK279.out 0).trans rfl, (blk_cell BK279.out 1).trans rfl, (blk_cell BK279.out 2).trans rfl, (blk_cell BK279.out 3).trans rfl, ((HB.out.cell (World.block_lt_of_cell? w _ hw285_0)).trans hw285_0)⟩ (fun hHeld => ?_)
  clear hK K
  refine norm_ (a' := ?_) ?_ ?_
  rotate_left
  ·show Act.put _ (some 55) _ = _
   simp only [Act.put, List.setIfInBounds_toArray, List.set_cons_zero, List.set_cons_succ, i64_w, i32_w]
   rfl
  refine zq 7 (some 4) HT_ ?_
  refine done_ (done_of HT_.out (by kernel_rfl)) ?_
  try go_wp2
  go_loopg [5] kj9 (fun kq v5 w' => ∃ (x5_3 : Int), v5 = .int .i64 x5_3 ∧ Aside0 (cellarlaw9_MemBack.l1 kq x3_1 t286 x5_3 l0_0 l0_1 l0_2 l0_3 = some r) ∧ Aside0 (kq ≤ kj9) ∧ Aside0 (Kd.R k62 62 w' w.heap.size (fun _ => True) v287 t286) ∧ Aside0 (w'.heap[gb279]? = some (.cells #[(.slice (some ad282) l0_0.length c0_0), (.slice A0_1 l0_1.length c0_1), (.slice A0_2 l0_2.length c0_2), (.slice A0_3 l0_3.length c0_3)] 54 (0, 0))) ∧ Aside0 (Below w.heap.size w w'))
  case atStart => exact ⟨(0), (zr), H', ⟨Nat.le_refl _⟩, ⟨by (with_reducible repeat (first | apply Kd.R_alloc | apply Kd.R_drewN | apply Kd.R_drew)); exact HO288.out⟩, ⟨zb BK279.out⟩, ⟨zw1 HB.out GE279.out⟩⟩
  case round =>
  rename_i q8_ _ _ _ _ _ _ _ _ _ _ _ _ _ _ _ _ _ _ _ _ _ _ _ _ _ _ _ _ _ _ _ _ _ _ _ _ _ _ _ _ _ _ _ _ _ _ _ _ _ _ _ _ _ _ _ _ _ _ _ _ _ _ _ _ _ _ _ _ _ _ _ _ _ _ _ _ _ _ _ _ _ _ _ _ _ _ _ _ _ _ _ _ _ _ _ _ _ _ _ _ _ _ _ _ _ _ _ _ _ _ _ _ _ _ _ _ _ _ _ _ _ _ _ _ _ _ _ _ _ _ _ _ _ _ _ _ _ _ _ _ _ _ _ _ _ _ _ _ _ _ _ _ _ _ _ _ _ _ _ _ _ _ _ _ _ _ _ _ _ _ _ _ _ _ _ _ _ _ _ _ _ _ _ _ _ _ _ _ _ _ _ _ _ _ _ _ _ _ _ _ _ _ _ _ _ _ _ _ _ _ _ _ _ _ _ _ _ _ _ _ _ _ _ _ _ _ _ _ _ _ _ _ _ _ _ _ _ _ _ _ _ _ _ _ _ _ _ _ _ _ _ _ _ _ _ _ _ _ _ _ _ _ _ _ _ _ _ _ _ _ _ _ _ _ _ _ _ _ q9_ q10_ q11_ _ q12_ q13_ q14_ q15_ q16_
  clear q8_ q9_ q12_
  revert k c0_0 l0_0 A0_1 c0_1 l0_1 A0_2 c0_2 l0_2 A0_3 c0_3 l0_3 r w hu54 hu29 hu62 hu74 HC0_0 HR0_1 HC0_1 HR0_2 HC0_2 HR0_3 HC0_3 A2 q1_ gb279 w7 GW279 GE279 hfz8_0 hfz8_1 hfz8_2 hfz8_3 q2_ q3_ q4_ q5_ x3_1 k1 q7_ HK1 wc u30 u31 u32 u33 u34 u35 u36 u37 u39 u40 kj9 HJ9 c15b0 c16b0 t283 A17 t284 A18 c19b0 c19b1 t286 A20 H' hfz21_0 hfz21_1 hfz21_2 hfz21_3 ad282 A282_0 c282_0 HR0_0 hcz8_0 hcz8_1 hcz8_2 hcz8_3 q6_ hcz21_0 hcz21_1 hcz21_2 hcz21_3 hx282_0 HR282_0 HC282_0 p282 q282 q10_ q11_ nd A285_0 c285_0 hw285_0 HR285_0 HC285_0 p285 q285 HT_ HW_ w23 hx285_0 w24 v287 HO288 BK279 HB hHeld e285 gk wr u2 u5 u6 u7 u8 u9 u10 u11 u12 u13 u14 u15 u16 u17 u18 u19 u20 u21 u22 u23 u24 u25 u26 u27 u56 u57 u58 u59 u60 u61 u62 u63 u64 u65 u66 u67 u68 u69 u70 u71 u72 u73 u74 u75 u76 u77 u78 u79 u80 u81 u82 u83 u84 u85 u86 u87 u88 u89 u90 u91 u92 u93 u94 u95 u96 u97 u98 u99 u100 u101 u102 u103 u104 u105 u106 u107 u108 u109 u110 u111 u112 u113 u114 u115 u116 u117 u118 u119 u120 u121 u122 u123 u124 u125 u126 u127 u128 u129 u130 u131 u132 u133 u134 u135 u136 u137 u138 u139 u140 u141 u142 u143 u144 u145 u146 u147 u148 u149 u150 u151 u152 u153 u154 u155 u156 u157 u158 u159 u160 u161 u162 u163 u164 u165 u166 u167 u168 u169 u170 u171 u172 u173 u174 u175 u176 u177 u178 u179 u180 u181 u182 u183 u184 u185 u186 u187 u188 u189 u190 u191 u192 u193 u194 u195 u196 u197 u198 u199 u200 u201 u202 u203 u204 u205 u206 u207 u208 u209 u210 u211 u212 u213 u214 u215 u216 u217 u218 u219 u220 u221 u222 u223 u224 u225 u226 u227 u228 u229 u230 u231 u232 u233 u234 u235 u236 u237 u238 u239 u240 u241 u242 u243 u244 u245 u246 u247 u248 u249 u250 u251 u252 u253 u254 u255 u256 u257 u258 u259 u260 u261 u262 u263 u264 u265 u266 u267 u268 u269 u270 u271 u272 u273 u274 u275 u276 u277 u278 u279 u280 u281 u282 u283 u284 u285 u286 u287 u288 u289 u290 u291 u292 u293 u294 u295 u296 u297 u298 u299 u300 u301 u302 u303 u304 u305 u306 u307 u308 u309 u310 u311 u312 u313 u314 u315 u316 u317 u318 u319 u320 u321 u322 u323 u324 u325 u326 u327 u328 u329 u330 u331 u332 u333 hrel q13_ q14_ q15_ q16_
  exact cutP1.out
 ·replace c14 := Bool.eq_false_iff.mpr c14
  subst c14
  have H1 : ((cellarlaw9_wakes.f kj9).bind fun t281 => (some t281)) = some r := by rw [if_neg (show ¬ (false = true) by decide)] at H; exact H
  clear H
  have H := H1
  clear H1
  replace H := Option.bind_eq_some_iff.mp H
  obtain ⟨t281, A1920, H⟩ := H
  replace H : (some t281) = some r := H
  have A192 := Aside0.mk A1920
  clear A1920
  obtain rfl := Option.some.inj H
  go_wp2_with (first | ((with_reducible refine gate_callee (f := 38) rfl ?_); refine zgo (some 334) Try.func38 #[] ?_; (with_reducible refine (cellarlaw9_wakes.calls kj9  t281 _ A192.out).mono ?_); rintro e w193 ⟨rfl, hb⟩; refine ⟨_, rfl, ?_⟩; have n0_ := Aside0.mk (zbb BK279.out hb); have n1_ := Aside0.mk (below_step (zw1 HB.out GE279.out) hb); clear BK279 HB; have BK279 := n0_; have HB := n1_; clear n0_ n1_; (try clear hb); (try clear hb2); (try clear hk); (try clear hi)))
  go_ret
  exact ⟨ze, zw1 HB.out GE279.out⟩

end Go.Proofs.Ytjoplkillkhiaaa.Q2
