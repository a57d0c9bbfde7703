-- Written by this session's own edition of the print.
import Derived.Test.YtjoplkillkhiaaaQ2x0
import Derived.Test.YtjoplkillkhiaaaQ2x1
import Derived.Test.YtjoplkillkhiaaaQ2x2
import Derived.Test.YtjoplkillkhiaaaQ2x3
import Derived.Test.YtjoplkillkhiaaaQ2x6
import Derived.Test.YtjoplkillkhiaaaQ2x7
import Derived.Test.YtjoplkillkhiaaaQ2x10
import Derived.Test.YtjoplkillkhiaaaQ2x11
import Derived.Test.YtjoplkillkhiaaaYSq
import Derived.Test.YtjoplkillkhiaaaYSq2
import Derived.Test.YtjoplkillkhiaaaYSq3
import Derived.Test.YtjoplkillkhiaaaQ2x12
import Derived.Test.YtjoplkillkhiaaaCut
import Derived.Test.YtjoplkillkhiaaaQ2y
import Derived.Test.YtjoplkillkhiaaaQ2ya
import Derived.Test.YtjoplkillkhiaaaQ2yaa
namespace Go.Proofs.Ytjoplkillkhiaaa.Q2
open Go.Proofs.Ytjoplkillkhiaaa.Cuts Go.RowKit Go.Proofs.Ytjoplkillkhiaaa.Fn Go.Proofs.YtjoplkillkhiaaaW.PrintWords Go.Proofs.YtjoplkillkhiaaaW.PrintLast Go.Proofs.YtjoplkillkhiaaaW.PrintMore
set_option linter.unusedVariables false
set_option linter.unusedSimpArgs false
set_option maxHeartbeats 60000000 in
set_option maxRecDepth 100000 in
noncomputable def cellarlaw9_MemBack.cut_aaa : Cut1 (cellarlaw9_MemBack.cut_aa.P1) := by
 apply Cut1.mk
 case h =>
 intro cutP1
 intro k c0_0 l0_0 A0_1 c0_1 l0_1 A0_2 c0_2 l0_2 A0_3 c0_3 l0_3 r w hu54 hu29 hu62 hu74 HC0_0 HR0_1 HC0_1 HR0_2 HC0_2 HR0_3 HC0_3 A2 q1_ gb279 w7 GW279 GE279 hfz8_0 hfz8_1 hfz8_2 hfz8_3 q2_ q3_ q4_ q5_ x3_1 k1 q7_ HK1 wc u30 u31 u32 u33 u34 u35 u36 u37 u39 u40 kj9 HJ9 c15b0 c16b0 t283 A17 t284 A18 c19b0 c19b1 t286 A20 H' hfz21_0 hfz21_1 hfz21_2 hfz21_3 ad282 A282_0 c282_0 HR0_0 hcz8_0 hcz8_1 hcz8_2 hcz8_3 q6_ hcz21_0 hcz21_1 hcz21_2 hcz21_3 hx282_0 HR282_0 HC282_0 p282 q282 q10_ q11_ nd A285_0 c285_0 hw285_0 HR285_0 HC285_0 p285 q285 HT_ HW_ w23 hx285_0 w24 v287 HO288 BK279 HB hHeld e285 gk wr u2 u5 u6 u7 u8 u9 u10 u11 u12 u13 u14 u15 u16 u17 u18 u19 u20 u21 u22 u23 u24 u25 u26 u27 u56 u57 u58 u59 u60 u61 u62 u63 u64 u65 u66 u67 u68 u69 u70 u71 u72 u73 u74 u75 u76 u77 u78 u79 u80 u81 u82 u83 u84 u85 u86 u87 u88 u89 u90 u91 u92 u93 u94 u95 u96 u97 u98 u99 u100 u101 u102 u103 u104 u105 u106 u107 u108 u109 u110 u111 u112 u113 u114 u115 u116 u117 u118 u119 u120 u121 u122 u123 u124 u125 u126 u127 u128 u129 u130 u131 u132 u133 u134 u135 u136 u137 u138 u139 u140 u141 u142 u143 u144 u145 u146 u147 u148 u149 u150 u151 u152 u153 u154 u155 u156 u157 u158 u159 u160 u161 u162 u163 u164 u165 u166 u167 u168 u169 u170 u171 u172 u173 u174 u175 u176 u177 u178 u179 u180 u181 u182 u183 u184 u185 u186 u187 u188 u189 u190 u191 u192 u193 u194 u195 u196 u197 u198 u199 u200 u201 u202 u203 u204 u205 u206 u207 u208 u209 u210 u211 u212 u213 u214 u215 u216 u217 u218 u219 u220 u221 u222 u223 u224 u225 u226 u227 u228 u229 u230 u231 u232 u233 u234 u235 u236 u237 u238 u239 u240 u241 u242 u243 u244 u245 u246 u247 u248 u249 u250 u251 u252 u253 u254 u255 u256 u257 u258 u259 u260 u261 u262 u263 u264 u265 u266 u267 u268 u269 u270 u271 u272 u273 u274 u275 u276 u277 u278 u279 u280 u281 u282 u283 u284 u285 u286 u287 u288 u289 u290 u291 u292 u293 u294 u295 u296 u297 u298 u299 u300 u301 u302 u303 u304 u305 u306 u307 u308 u309 u310 u311 u312 u313 u314 u315 u316 u317 u318 u319 u320 u321 u322 u323 u324 u325 u326 u327 u328 u329 u330 u331 u332 u333 hrel q13_ q14_ q15_ q16_
 clear H'
 try clear c1; try clear c2; try clear p2; try clear q2; try clear c3; try clear c4; try clear p6; try clear c9; try clear c11; try clear c11b0; try clear c14; try clear c15; try clear c15b0; try clear c16; try clear c16b0; try clear c19; try clear c19b0; try clear c19b1; try clear p2; try clear p282; try clear p285; try clear q282; try clear q285
 obtain ⟨x5_3, rfl, HA, HK3, HO_4, BK279, HB⟩ := hrel
 cases gk with
 | zero => exact absurd HA.out (by simp [cellarlaw9_MemBack.l1])
 | succ k3 =>
 have H := HA.out
 clear HA
 simp only [cellarlaw9_MemBack.l1] at H
 by_cases c25 : x5_3 < (t286.length : Int)
 rotate_left
 ·rw [if_neg c25] at H
  have c25b0 : decide (x5_3 < (t286.length : Int)) = false := decide_eq_false c25
  clear c25
  have H' := Aside0.mk H
  clear H
  obtain ⟨Ao189, co189, eo189⟩ := Kd.R_slice HO_4.out
  subst eo189
  go_wp2
  go_roundg k3
  case measure => have := HK1.out; have := HJ9.out; have := HK3.out; omega
  case rel => exact ⟨(wrap64 (x3_1 + 1)), (zr), H', ⟨by have := HK1.out; have := HJ9.out; have := HK3.out; omega⟩, ⟨zb BK279.out⟩, ⟨zw1 HB.out GE279.out⟩⟩
 rw [if_pos c25] at H
 have c25b0 : decide (x5_3 < (t286.length : Int)) = true := decide_eq_true c25
 clear c25
 have H' := Aside0.mk H
 clear H
 obtain ⟨Ao26, co26, eo26⟩ := Kd.R_slice HO_4.out
 subst eo26
 go_wp2_with (first | ((with_reducible refine gate_dst (N := 6) rfl ?_); (try (refine gate_guard (by rfl) ?_; dsimp only)); refine zbox (N := 6) (cs := #[.bool false, .int .i64 0]) (t := 29) ?_; intro gb289 hg w27 hbox hb; have n0_ := Aside0.mk (Kd.R_below (by (with_reducible repeat (first | apply Kd.R_alloc | apply Kd.R_drewN | apply Kd.R_drew)); exact HO_4.out) hb); have n1_ := Aside0.mk (zbb BK279.out hb); have n2_ := Aside0.mk (below_step (zw1 HB.out GE279.out) hb); have BK289 := Aside0.mk (hbox); have GW289 := Aside0.mk (zg hg (below_size (zw1 HB.out GE279.out))); have GE289 := GW289; have NB279_289 := Aside0.mk (zlt hg BK279.out); have NB289_279 := Aside0.mk (zgt hg BK279.out); clear HO_4 BK279 HB; have HO_4 := n0_; have BK279 := n1_; have HB := n2_; clear n0_ n1_ n2_; clear hb hbox hg; have hnb28 := NB289_279.out; have hnc28 := NB279_289.out; have hcz29_0 := zc BK289.out 0; have hcz29_1 := zc BK289.out 1; have hfz29_0 := blk_frozen BK289.out 0; have hfz29_1 := blk_frozen BK289.out 1))
 go_loopg [7] k3 (fun kq v7 w' => ∃ (x7_4 : Int), v7 = .int .i64 x7_4 ∧ Aside0 (cellarlaw9_MemBack.l2 kq x3_1 t286 x5_3 x7_4 l0_0 l0_1 l0_2 l0_3 ((Int.tmod x5_3 2) == 0) (wrap64 (2 + (wrap64 (2 * (Int.tmod x3_1 2))))) = some r) ∧ Aside0 (kq ≤ k3) ∧ Aside0 (Kd.R k62 62 w' w.heap.size (fun _ => True) (.slice Ao26 t286.length co26) t286) ∧ Aside0 (w'.heap[gb279]? = some (.cells #[(.slice (some ad282) l0_0.length c0_0), (.slice A0_1 l0_1.length c0_1), (.slice A0_2 l0_2.length c0_2), (.slice A0_3 l0_3.length c0_3)] 54 (0, 0))) ∧ Aside0 (w'.heap[gb289]? = some (.cells #[.bool ((Int.tmod x5_3 2) == 0), .int .i64 (wrap64 (2 + (wrap64 (2 * (Int.tmod x3_1 2)))))] 29 (0, 0))) ∧ Aside0 (Below w.heap.size w w'))
 case atStart => exact ⟨(1), (zr), H', ⟨Nat.le_refl _⟩, ⟨by (with_reducible repeat (first | apply Kd.R_alloc | apply Kd.R_drewN | apply Kd.R_drew)); exact Kd.R_mono (Kd.R_far (p := ⟨gb289, 1, none⟩) (Kd.R_far (p := ⟨gb289, 0, none⟩) (Kd.R_types HO_4.out BK289.out (by decide)) (fun _ hk => hk.2) (.bool ((Int.tmod x5_3 2) == 0))) (fun _ hk => hk.2) (.int .i64 (wrap64 (2 + (wrap64 (2 * (Int.tmod x3_1 2))))))) (fun _ hk => trivial)⟩, ⟨zf1 BK279.out NB279_289.out⟩, ⟨by (with_reducible repeat (first | refine blk_drewN ?_ _ | refine blk_drew ?_ | refine blk_alloc ?_ _)); refine blk_put (cs := #[.bool ((Int.tmod x5_3 2) == 0), .int .i64 0]) ?_ 1 _ rfl; (with_reducible repeat (first | refine blk_drewN ?_ _ | refine blk_drew ?_ | refine blk_alloc ?_ _)); refine blk_put (cs := #[.bool false, .int .i64 0]) ?_ 0 _ rfl; (with_reducible repeat (first | refine blk_drewN ?_ _ | refine blk_drew ?_ | refine blk_alloc ?_ _)); exact BK289.out⟩, ⟨zw2 HB.out GE279.out GE289.out⟩⟩
 case round =>
 rename_i q8_ q9_ _ _ _ _ _ _ _ _ _ _ _ _ _ _ _ _ _ _ _ _ _ _ _ _ _ _ _ _ _ _ _ _ _ _ _ _ _ _ _ _ _ _ _ _ _ _ _ _ _ _ _ _ _ _ _ _ _ _ _ _ _ _ _ _ _ _ _ _ _ _ _ _ _ _ _ _ _ _ _ _ _ _ _ _ _ _ _ _ _ _ _ _ _ _ _ _ _ _ _ _ _ _ _ _ _ _ _ _ _ _ _ _ _ _ _ _ _ _ _ _ _ _ _ _ _ _ _ _ _ _ _ _ _ _ _ _ _ _ _ _ _ _ _ _ _ _ _ _ _ _ _ _ _ _ _ _ _ _ _ _ _ _ _ _ _ _ _ _ _ _ _ _ _ _ _ _ _ _ _ _ _ _ _ _ _ _ _ _ _ _ _ _ _ _ _ _ _ _ _ _ _ _ _ q12_ q17_ q18_ q19_ q20_ q21_ q22_ q23_
 clear q8_ q9_
 revert k c0_0 l0_0 A0_1 c0_1 l0_1 A0_2 c0_2 l0_2 A0_3 c0_3 l0_3 r w hu54 hu29 hu62 hu74 HC0_0 HR0_1 HC0_1 HR0_2 HC0_2 HR0_3 HC0_3 A2 q1_ gb279 w7 GW279 GE279 hfz8_0 hfz8_1 hfz8_2 hfz8_3 q2_ q3_ q4_ q5_ x3_1 k1 q7_ HK1 wc u30 u31 u32 u33 u34 u35 u36 u37 u39 u40 kj9 HJ9 c15b0 c16b0 t283 A17 t284 A18 c19b0 c19b1 t286 A20 hfz21_0 hfz21_1 hfz21_2 hfz21_3 ad282 A282_0 c282_0 HR0_0 hcz8_0 hcz8_1 hcz8_2 hcz8_3 q6_ hcz21_0 hcz21_1 hcz21_2 hcz21_3 hx282_0 HR282_0 HC282_0 p282 q282 q10_ q11_ nd A285_0 c285_0 hw285_0 HR285_0 HC285_0 p285 q285 HT_ HW_ w23 hx285_0 w24 hHeld e285 u19 u20 u21 u22 u23 u24 u25 u26 u27 u60 u61 u259 u260 u261 u262 u263 u264 u265 u266 u267 u268 u269 u270 u271 u272 u273 u274 u275 u276 u277 u278 u279 u280 u281 u282 u283 u284 u285 u286 u287 u288 u289 u290 u291 u292 u293 u294 u295 u296 u297 u298 u299 u300 u301 u302 u303 u304 u305 u306 u307 u308 u309 u310 u311 u312 u313 u314 u315 u316 u317 u318 u319 u320 u321 u322 u323 u324 u325 u326 u327 u328 u329 u330 u331 u332 u333 q13_ q14_ x5_3 k3 q16_ HK3 c25b0 H' Ao26 co26 HO288 q15_ q12_ q17_ gb289 w27 BK289 GW289 GE289 NB279_289 NB289_279 HO_4 BK279 HB hnb28 hnc28 hcz29_0 hcz29_1 hfz29_0 hfz29_1 q18_ q19_ gk wr u2 u7 u8 u9 u10 u11 u12 u13 u14 u15 u16 u17 u18 u70 u71 u72 u73 u74 u75 u76 u77 u78 u79 u80 u81 u82 u83 u84 u85 u86 u87 u88 u89 u90 u91 u92 u93 u94 u95 u96 u97 u98 u99 u100 u101 u102 u103 u104 u105 u106 u107 u108 u109 u110 u111 u112 u113 u114 u115 u116 u117 u118 u119 u120 u121 u122 u123 u124 u125 u126 u127 u128 u129 u130 u131 u132 u133 u134 u135 u136 u137 u138 u139 u140 u141 u142 u143 u144 u145 u146 u147 u148 u149 u150 u151 u152 u153 u154 u155 u156 u157 u158 u159 u160 u161 u162 u163 u164 u165 u166 u167 u168 u169 u170 u171 u172 u173 u174 u175 u176 u177 u178 u179 u180 u181 u182 u183 u184 u185 u186 u187 u188 u189 u190 u191 u192 u193 u194 u195 u196 u197 u198 u199 u200 u201 u202 u203 u204 u205 u206 u207 u208 u209 u210 u211 u212 u213 u214 u215 u216 u217 u218 u219 u220 u221 u222 u223 u224 u225 u226 u227 u228 u229 u230 u231 u232 u233 u234 u235 u236 u237 u238 u239 u240 u241 u242 u243 u244 u245 u246 u247 u248 u249 u250 u251 u252 u253 u254 u255 u256 u257 u258 hrel q20_ q21_ q22_ q23_
 exact cutP1.out
end Go.Proofs.Ytjoplkillkhiaaa.Q2
