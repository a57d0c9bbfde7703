import Derived.Test.YtjoplkillkhiaaaQ2x0
import Derived.Test.YtjoplkillkhiaaaQ2x1
import Derived.Test.YtjoplkillkhiaaaQ2x2
import Derived.Test.YtjoplkillkhiaaaQ2x3
import Derived.Test.YtjoplkillkhiaaaQ2x6
import Derived.Test.YtjoplkillkhiaaaQ2x7
import Derived.Test.YtjoplkillkhiaaaQ2x10
import Derived.Test.YtjoplkillkhiaaaQ2x11
import Derived.Test.YtjoplkillkhiaaaYSq
import Derived.Test.YtjoplkillkhiaaaYSq2
import Derived.Test.YtjoplkillkhiaaaYSq3
import Derived.Test.YtjoplkillkhiaaaQ2x12
import Derived.Test.YtjoplkillkhiaaaCut
import Derived.Test.YtjoplkillkhiaaaQ2y
import Derived.Test.YtjoplkillkhiaaaQ2ya
import Derived.Test.YtjoplkillkhiaaaQ2yaa
import Derived.Test.YtjoplkillkhiaaaQ2yaaa
import Derived.Test.YtjoplkillkhiaaaQ2yaaaa
import Derived.Test.YtjoplkillkhiaaaQ2yaaaab
import Derived.Test.YtjoplkillkhiaaaQ2yaaaaba
-- Written by this session's own edition of the print.
namespace Go.Proofs.Ytjoplkillkhiaaa.Q2
open Go.Proofs.Ytjoplkillkhiaaa.Cuts Go.RowKit Go.Proofs.Ytjoplkillkhiaaa.Fn Go.Proofs.YtjoplkillkhiaaaW.PrintWords Go.Proofs.YtjoplkillkhiaaaW.PrintLast Go.Proofs.YtjoplkillkhiaaaW.PrintMore
set_option linter.unusedVariables false
set_option linter.unusedSimpArgs false
set_option maxHeartbeats 60000000 in
set_option maxRecDepth 100000 in
noncomputable def cellarlaw9_MemBack.cut_aaaabaa : Cut1 (cellarlaw9_MemBack.cut_aaaaba.P1) := by
 apply Cut1.mk
 case h =>
 intro cutP1
 intro k c0_0 l0_0 A0_1 c0_1 l0_1 A0_2 c0_2 l0_2 A0_3 c0_3 l0_3 r w hu54 hu29 hu62 hu74 HC0_0 HR0_1 HC0_1 HR0_2 HC0_2 HR0_3 HC0_3 A2 q1_ gb279 w7 GW279 GE279 hfz8_0 hfz8_1 hfz8_2 hfz8_3 q2_ q3_ q4_ q5_ x3_1 k1 q7_ HK1 q8_ u30 u31 u32 u33 u34 u35 u36 u37 u39 u40 kj9 HJ9 c15b0 c16b0 t283 A17 t284 A18 c19b0 c19b1 t286 A20 hfz21_0 hfz21_1 hfz21_2 hfz21_3 ad282 A282_0 c282_0 HR0_0 hcz8_0 hcz8_1 hcz8_2 hcz8_3 q6_ hcz21_0 hcz21_1 hcz21_2 hcz21_3 hx282_0 HR282_0 HC282_0 p282 q282 q10_ q11_ A285_0 c285_0 hw285_0 HR285_0 HC285_0 p285 q285 w23 hx285_0 w24 e285 u19 u20 u21 u22 u23 u24 u25 u26 u27 u60 u61 u259 u260 u261 u262 u263 u264 u265 u266 u267 u268 u269 u270 u271 u272 u273 u274 u275 u276 u277 u278 u279 u280 u281 u282 u283 u284 u285 u286 u287 u288 u289 u290 u291 u292 u293 u294 u295 u296 u297 u298 u299 u300 u301 u302 u303 u304 u305 u306 u307 u308 u309 u310 u311 u312 u313 u314 u315 u316 u317 u318 u319 u320 u321 u322 u323 u324 u325 u326 u327 u328 u329 u330 u331 u332 u333 q13_ q14_ x5_3 k3 q16_ HK3 c25b0 co26 q12_ q17_ gb289 w27 GW289 GE289 NB279_289 NB289_279 hnb28 hnc28 hcz29_0 hcz29_1 hfz29_0 hfz29_1 q18_ q19_ wr u2 u15 u16 u17 u18 q20_ q21_ x7_4 k4 q23_ HK4 c30b0 q27_ q28_ gb290 w32 GW290 GE290 NB279_290 NB290_279 NB289_290 NB290_289 hnb33 hnc33 hnb34 hnc34 hcz35_0 hcz35_1 hcz35_2 hcz35_3 hfz35_0 hfz35_1 hfz35_2 hfz35_3 x291000_30 x291001_30 x291002_30 x291003_30 kj30 HJ30 c40b0 c41b0 c42b0 c43b0 t293 t296 t297 A44 A291_0 c291_0 hw291_0 HR291_0 HC291_0 p291 q291 ad292 HO288 q15_ q22_ p292 q292 w46 hx291_0 hx292_0 hx292_1 hx292_2 hx292_3 w47 HS11_ HS12_ HS13_ HS14_ kj44 HJ44 c67b0 c68b0 t303 t304 t305 t306 t307 t308 A69 HC70 Ao71 co71 HO295 e291 e302 p302 q302 HT_ HW_ w72 hx302_0 hx302_1 hx302_2 hx302_3 gb309 w75 hS_ HO_4 HO_9 BK279 BK289 BK290 BK309 GW309 GE309 NB279_309 NB309_279 NB289_309 NB309_289 NB290_309 NB309_290 HB hs76 hfs76 hns76_0 hns76_1 hns76_2 hms76_0 hms76_1 hms76_2 hs77 hfs77 hns77_0 hns77_1 hns77_2 hms77_0 hms77_1 hms77_2 hs78 hfs78 hns78_0 hns78_1 hns78_2 hms78_0 hms78_1 hms78_2 hs79 hfs79 hns79_0 hns79_1 hns79_2 hms79_0 hms79_1 hms79_2 hHeld q33_ q34_ q35_ q36_ wc u70 u71 u72 u73 u74 u75 u76 u77 u78 u79 u80 u81 u82 u83 u84 u85 u86 u87 u88 u89 u90 u91 u92 u93 u94 u95 u96 u97 u98 u99 u100 u101 u102 u103 u104 u105 u106 u107 u108 u109 u110 u111 u112 u113 u114 u115 u116 u117 u118 u119 u120 u121 u122 u123 u124 u125 u126 u127 u128 u129 u130 u131 u132 u133 u134 u135 u136 u137 u138 u139 u140 u141 u142 u143 u144 u145 u146 u147 u148 u149 u150 u151 u152 u153 u154 u155 u156 u157 u158 u159 u160 u161 u162 u163 u164 u165 u166 u167 u168 u169 u170 u171 u172 u173 u174 u175 u176 u177 u178 u179 u180 u181 u182 u183 u184 u185 u186 u187 u188 u189 u190 u191 u192 u193 u194 u195 u196 u197 u198 u199 u200 u201 u202 u203 u204 u205 u206 u207 u208 u209 u210 u211 u212 u213 u214 u215 u216 u217 u218 u219 u220 u221 u222 u223 u224 u225 u226 u227 u228 u229 u230 u231 u232 u233 u234 u235 u236 u237 u238 u239 u240 u241 u242 u243 u244 u245 u246 u247 u248 u249 u250 u251 u252 u253 u254 u255 u256 u257 u258 hcut
 clear HC70
 try clear c1; try clear p2; try clear c3; try clear p3; try clear q3; try clear c5; try clear c6; try clear p6; try clear c8; try clear c9; try clear c10; try clear c30; try clear p30; try clear q30; try clear c31; try clear p31; try clear q31; try clear c35; try clear c39; try clear c50; try clear c52; try clear c52b0; try clear c52b1; try clear c53; try clear c53b0; try clear c54; try clear c54b0; try clear c56; try clear c57; try clear c58; try clear c62; try clear c63; try clear p64; try clear c67; try clear c67b0; try clear c68; try clear c68b0; try clear c81; try clear c81b0; try clear c81b1; try clear c82; try clear c82b0; try clear c82b1; try clear c83; try clear c83b0; try clear c84; try clear c85; try clear c86; try clear c88; try clear c89; try clear c91; try clear c91b0; try clear c92; try clear c92b0; try clear c93; try clear c94; try clear c95; try clear c97; try clear c98; try clear c100; try clear p300; try clear p302; try clear p311; try clear q300; try clear q302; try clear q311
 obtain ⟨kq, x153_69, rfl, HA, HJ69, HO_4, HO_9, BK279, BK289, BK290, BK309, HB⟩ := hcut
 cases kq with
 | zero => exact absurd HA.out (by simp [cellarlaw9_MemBack.j6])
 | succ kj69 =>
 have H := HA.out
 clear HA
 simp only [cellarlaw9_MemBack.j6] at H
 by_cases c102 : x153_69 = true
 ·subst c102
  have H1 : (some false) = some r := by rw [if_pos rfl] at H; exact H
  clear H
  have H := H1
  clear H1
  obtain rfl := Option.some.inj H
  go_wp2
  go_ret
  exact ⟨ze, zw4 HB.out GE279.out GE289.out GE290.out GE309.out⟩
 replace c102 := Bool.eq_false_iff.mpr c102
 subst c102
 have H1 : ((cellarref1_Size.f kj69 ((Int.tmod x5_3 2) == 0) (wrap64 (2 + (wrap64 (2 * (Int.tmod x3_1 2))))) x7_4).bind fun t312 => (cellarlaw9_MemBack.l3 kj69 x3_1 t286 x5_3 x7_4 t293 t312 0 l0_0 l0_1 l0_2 l0_3 ((Int.tmod x5_3 2) == 0) (wrap64 (2 + (wrap64 (2 * (Int.tmod x3_1 2))))))) = some r := by rw [if_neg (show ¬ (false = true) by decide)] at H; exact H
 clear H
 have H := H1
 clear H1
 replace H := Option.bind_eq_some_iff.mp H
 obtain ⟨t312, A1030, H⟩ := H
 replace H : (cellarlaw9_MemBack.l3 kj69 x3_1 t286 x5_3 x7_4 t293 t312 0 l0_0 l0_1 l0_2 l0_3 ((Int.tmod x5_3 2) == 0) (wrap64 (2 + (wrap64 (2 * (Int.tmod x3_1 2)))))) = some r := H
 have A103 := Aside0.mk A1030
 clear A1030
 have H' := Aside0.mk H
 clear H
 have hnb104 := NB289_279.out
 have hnc104 := NB279_289.out
 have hnb105 := NB289_290.out
 have hnc105 := NB290_289.out
 have hnb106 := NB289_309.out
 have hnc106 := NB309_289.out
 have hcz107_0 := zc BK289.out 0
 have hcz107_1 := zc BK289.out 1
 have hfz107_0 := blk_frozen BK289.out 0
 have hfz107_1 := blk_frozen BK289.out 1
 go_wp2_with (first | ((with_reducible refine gate_callee (f := 43) rfl ?_); refine zgo (some 156) Try.func43 #[.agg #[.bool ((Int.tmod x5_3 2) == 0), .int .i64 (wrap64 (2 + (wrap64 (2 * (Int.tmod x3_1 2)))))], .int .i64 x7_4] ?_; (with_reducible refine (cellarref1_Size.calls kj69 ((Int.tmod x5_3 2) == 0) (wrap64 (2 + (wrap64 (2 * (Int.tmod x3_1 2))))) x7_4 t312 _ A103.out).mono ?_); rintro e w108 ⟨rfl, hb⟩; refine ⟨_, rfl, ?_⟩; have n0_ := Aside0.mk (Kd.R_below (by (with_reducible repeat (first | apply Kd.R_alloc | apply Kd.R_drewN | apply Kd.R_drew)); exact HO_4.out) hb); have n1_ := Aside0.mk (Kd.S_below (by (with_reducible repeat (first | apply Kd.S_alloc | apply Kd.S_drewN | apply Kd.S_drew)); exact HO_9.out) hb); have n2_ := Aside0.mk (zbb BK279.out hb); have n3_ := Aside0.mk (zbb BK289.out hb); have n4_ := Aside0.mk (zbb BK290.out hb); have n5_ := Aside0.mk (zbb BK309.out hb); have n6_ := Aside0.mk (below_step (zw4 HB.out GE279.out GE289.out GE290.out GE309.out) hb); clear HO_4 HO_9 BK279 BK289 BK290 BK309 HB; have HO_4 := n0_; have HO_9 := n1_; have BK279 := n2_; have BK289 := n3_; have BK290 := n4_; have BK309 := n5_; have HB := n6_; clear n0_ n1_ n2_ n3_ n4_ n5_ n6_; (try clear hb); (try clear hb2); (try clear hk); (try clear hi)))
 go_loopg [16] kj69 (fun kq v16 w' => ∃ (x16_8 : Int), v16 = .int .i64 x16_8 ∧ Aside0 (cellarlaw9_MemBack.l3 kq x3_1 t286 x5_3 x7_4 t293 t312 x16_8 l0_0 l0_1 l0_2 l0_3 ((Int.tmod x5_3 2) == 0) (wrap64 (2 + (wrap64 (2 * (Int.tmod x3_1 2))))) = some r) ∧ Aside0 (kq ≤ kj69) ∧ Aside0 (Kd.R k62 62 w' w.heap.size (fun k_ => k_ ≠ gb290 ∧ k_ ≠ gb309) (.slice (some ad292) t286.length co26) t286) ∧ Aside0 (Kd.S k76 76 w' w.heap.size (fun _ => True) (.slice Ao71 t293.length co71) t293) ∧ Aside0 (w'.heap[gb279]? = some (.cells #[(.slice (some ad282) l0_0.length c0_0), (.slice A0_1 l0_1.length c0_1), (.slice A0_2 l0_2.length c0_2), (.slice A0_3 l0_3.length c0_3)] 54 (0, 0))) ∧ Aside0 (w'.heap[gb289]? = some (.cells #[.bool ((Int.tmod x5_3 2) == 0), .int .i64 (wrap64 (2 + (wrap64 (2 * (Int.tmod x3_1 2)))))] 29 (0, 0))) ∧ Aside0 (w'.heap[gb290]? = some (.cells #[.bool x291000_30, .int .i64 x291001_30, .int .i64 x291002_30, .int .i64 x291003_30] 62 (0, 0))) ∧ Aside0 (w'.heap[gb309]? = some (.cells #[.bool t303, .int .i64 t304, .int .i64 t305, .int .i64 t306] 62 (0, 0))) ∧ Aside0 (Below w.heap.size w w'))
 case atStart => exact ⟨(0), (zr), H', ⟨Nat.le_refl _⟩, ⟨by (with_reducible repeat (first | apply Kd.R_alloc | apply Kd.R_drewN | apply Kd.R_drew)); exact HO_4.out⟩, ⟨by (with_reducible repeat (first | apply Kd.S_alloc | apply Kd.S_drewN | apply Kd.S_drew)); exact HO_9.out⟩, ⟨zb BK279.out⟩, ⟨zb BK289.out⟩, ⟨zb BK290.out⟩, ⟨zb BK309.out⟩, ⟨zw4 HB.out GE279.out GE289.out GE290.out GE309.out⟩⟩
 case round =>
 rename_i q9_ q24_ q25_ q26_ q29_ q30_ q31_ _ _ _ _ _ _ _ _ _ _ _ _ _ _ _ _ _ _ _ _ _ _ _ _ _ _ _ _ _ _ _ _ _ _ _ _ _ _ _ _ _ _ _ _ _ _ _ _ _ _ _ _ _ _ _ _ _ _ _ _ _ _ _ _ _ _ _ _ _ _ _ _ _ _ _ _ _ _ _ _ _ _ _ _ _ _ _ _ _ _ _ _ _ _ _ _ _ _ _ _ _ _ q32_ q33_ q34_ q35_
 clear q9_ q24_ q25_ q26_ q29_ q30_ q31_
 revert k c0_0 l0_0 A0_1 c0_1 l0_1 A0_2 c0_2 l0_2 A0_3 c0_3 l0_3 r w hu54 hu29 hu62 hu74 HC0_0 HR0_1 HC0_1 HR0_2 HC0_2 HR0_3 HC0_3 A2 q1_ gb279 w7 GW279 GE279 hfz8_0 hfz8_1 hfz8_2 hfz8_3 q2_ q3_ q4_ q5_ x3_1 k1 q7_ HK1 q8_ u30 u31 u32 u33 u34 u35 u36 u37 u39 u40 kj9 HJ9 c15b0 c16b0 t283 A17 t284 A18 c19b0 c19b1 t286 A20 hfz21_0 hfz21_1 hfz21_2 hfz21_3 ad282 A282_0 c282_0 HR0_0 hcz8_0 hcz8_1 hcz8_2 hcz8_3 q6_ hcz21_0 hcz21_1 hcz21_2 hcz21_3 hx282_0 HR282_0 HC282_0 p282 q282 q10_ q11_ A285_0 c285_0 hw285_0 HR285_0 HC285_0 p285 q285 w23 hx285_0 w24 e285 u19 u20 u21 u22 u23 u24 u25 u26 u27 u60 u61 u259 u260 u261 u262 u263 u264 u265 u266 u267 u268 u269 u270 u271 u272 u273 u274 u275 u276 u277 u278 u279 u280 u281 u282 u283 u284 u285 u286 u287 u288 u289 u290 u291 u292 u293 u294 u295 u296 u297 u298 u299 u300 u301 u302 u303 u304 u305 u306 u307 u308 u309 u310 u311 u312 u313 u314 u315 u316 u317 u318 u319 u320 u321 u322 u323 u324 u325 u326 u327 u328 u329 u330 u331 u332 u333 q13_ q14_ x5_3 k3 q16_ HK3 c25b0 co26 q12_ q17_ gb289 w27 GW289 GE289 NB279_289 NB289_279 hnb28 hnc28 hcz29_0 hcz29_1 hfz29_0 hfz29_1 q18_ q19_ q20_ q21_ x7_4 k4 q23_ HK4 c30b0 q27_ q28_ gb290 w32 GW290 GE290 NB279_290 NB290_279 NB289_290 NB290_289 hnb33 hnc33 hnb34 hnc34 hcz35_0 hcz35_1 hcz35_2 hcz35_3 hfz35_0 hfz35_1 hfz35_2 hfz35_3 x291000_30 x291001_30 x291002_30 x291003_30 kj30 HJ30 c40b0 c41b0 c42b0 c43b0 t293 t296 t297 A44 A291_0 c291_0 hw291_0 HR291_0 HC291_0 p291 q291 ad292 HO288 q15_ q22_ p292 q292 w46 hx291_0 hx292_0 hx292_1 hx292_2 hx292_3 w47 HS11_ HS12_ HS13_ HS14_ kj44 HJ44 c67b0 c68b0 t303 t304 t305 t306 t307 t308 A69 Ao71 co71 HO295 e291 p302 q302 HT_ HW_ w72 hx302_0 hx302_1 hx302_2 hx302_3 gb309 w75 hS_ GW309 GE309 NB279_309 NB309_279 NB289_309 NB309_289 NB290_309 NB309_290 hs76 hfs76 hns76_0 hns76_1 hns76_2 hms76_0 hms76_1 hms76_2 hs77 hfs77 hns77_0 hns77_1 hns77_2 hms77_0 hms77_1 hms77_2 hs78 hfs78 hns78_0 hns78_1 hns78_2 hms78_0 hms78_1 hms78_2 hs79 hfs79 hns79_0 hns79_1 hns79_2 hms79_0 hms79_1 hms79_2 hHeld wc u70 u71 u72 u73 u74 u75 u76 u77 u78 u79 u80 u81 u82 u83 u84 u85 u86 u87 u88 u89 u90 u91 u92 u93 u94 u95 u96 u97 u98 u99 u100 u101 u102 u103 u104 u105 u106 u107 u108 u109 u110 u111 u112 u113 u114 u115 u116 u117 u118 u119 u120 u121 u122 u123 u124 u125 u126 u127 u128 u129 u130 u131 u132 u133 u134 u135 u136 u137 u138 u139 u140 u141 u142 u143 u144 u145 u146 u147 u148 u149 u150 u151 u152 kj69 HJ69 t312 A103 H' hnb104 hnc104 hnb105 hnc105 hnb106 hnc106 hcz107_0 hcz107_1 hfz107_0 hfz107_1 w108 HO_4 HO_9 BK279 BK289 BK290 BK309 HB e302 gk wr u2 u16 u17 u18 u157 u158 u159 u160 u161 u162 u163 u164 u165 u166 u167 u168 u169 u170 u171 u172 u173 u174 u175 u176 u177 u178 u179 u180 u181 u182 u183 u184 u185 u186 u187 u188 u189 u190 u191 u192 u193 u194 u195 u196 u197 u198 u199 u200 u201 u202 u203 u204 u205 u206 u207 u208 u209 u210 u211 u212 u213 u214 u215 u216 u217 u218 u219 u220 u221 u222 u223 u224 u225 u226 u227 u228 u229 u230 u231 u232 u233 u234 u235 u236 u237 u238 u239 u240 u241 u242 u243 u244 u245 u246 u247 u248 u249 u250 u251 u252 u253 u254 u255 u256 u257 u258 hrel q32_ q33_ q34_ q35_
 exact cutP1.out
end Go.Proofs.Ytjoplkillkhiaaa.Q2
-- Written by this session's own edition of the print.
namespace Go.Proofs.Ytjoplkillkhiaaa.Q2
open Go.Proofs.Ytjoplkillkhiaaa.Cuts Go.RowKit Go.Proofs.Ytjoplkillkhiaaa.Fn Go.Proofs.YtjoplkillkhiaaaW.PrintWords Go.Proofs.YtjoplkillkhiaaaW.PrintLast Go.Proofs.YtjoplkillkhiaaaW.PrintMore
set_option linter.unusedVariables false
set_option linter.unusedSimpArgs false
set_option maxHeartbeats 60000000 in
set_option maxRecDepth 100000 in
noncomputable def cellarlaw9_MemBack.cut_aaaabaaa : Cut2 (cellarlaw9_MemBack.cut_aaaabaa.P1) := by
 apply Cut2.mk
 case h =>
 intro cutP1 cutP2
 intro k c0_0 l0_0 A0_1 c0_1 l0_1 A0_2 c0_2 l0_2 A0_3 c0_3 l0_3 r w hu54 hu29 hu62 hu74 HC0_0 HR0_1 HC0_1 HR0_2 HC0_2 HR0_3 HC0_3 A2 q1_ gb279 w7 GW279 GE279 hfz8_0 hfz8_1 hfz8_2 hfz8_3 q2_ q3_ q4_ q5_ x3_1 k1 q7_ HK1 q8_ u30 u31 u32 u33 u34 u35 u36 u37 u39 u40 kj9 HJ9 c15b0 c16b0 t283 A17 t284 A18 c19b0 c19b1 t286 A20 hfz21_0 hfz21_1 hfz21_2 hfz21_3 ad282 A282_0 c282_0 HR0_0 hcz8_0 hcz8_1 hcz8_2 hcz8_3 q6_ hcz21_0 hcz21_1 hcz21_2 hcz21_3 hx282_0 HR282_0 HC282_0 p282 q282 q10_ q11_ A285_0 c285_0 hw285_0 HR285_0 HC285_0 p285 q285 w23 hx285_0 w24 e285 u19 u20 u21 u22 u23 u24 u25 u26 u27 u60 u61 u259 u260 u261 u262 u263 u264 u265 u266 u267 u268 u269 u270 u271 u272 u273 u274 u275 u276 u277 u278 u279 u280 u281 u282 u283 u284 u285 u286 u287 u288 u289 u290 u291 u292 u293 u294 u295 u296 u297 u298 u299 u300 u301 u302 u303 u304 u305 u306 u307 u308 u309 u310 u311 u312 u313 u314 u315 u316 u317 u318 u319 u320 u321 u322 u323 u324 u325 u326 u327 u328 u329 u330 u331 u332 u333 q13_ q14_ x5_3 k3 q16_ HK3 c25b0 co26 q12_ q17_ gb289 w27 GW289 GE289 NB279_289 NB289_279 hnb28 hnc28 hcz29_0 hcz29_1 hfz29_0 hfz29_1 q18_ q19_ q20_ q21_ x7_4 k4 q23_ HK4 c30b0 q27_ q28_ gb290 w32 GW290 GE290 NB279_290 NB290_279 NB289_290 NB290_289 hnb33 hnc33 hnb34 hnc34 hcz35_0 hcz35_1 hcz35_2 hcz35_3 hfz35_0 hfz35_1 hfz35_2 hfz35_3 x291000_30 x291001_30 x291002_30 x291003_30 kj30 HJ30 c40b0 c41b0 c42b0 c43b0 t293 t296 t297 A44 A291_0 c291_0 hw291_0 HR291_0 HC291_0 p291 q291 ad292 HO288 q15_ q22_ p292 q292 w46 hx291_0 hx292_0 hx292_1 hx292_2 hx292_3 w47 HS11_ HS12_ HS13_ HS14_ kj44 HJ44 c67b0 c68b0 t303 t304 t305 t306 t307 t308 A69 Ao71 co71 HO295 e291 p302 q302 HT_ HW_ w72 hx302_0 hx302_1 hx302_2 hx302_3 gb309 w75 hS_ GW309 GE309 NB279_309 NB309_279 NB289_309 NB309_289 NB290_309 NB309_290 hs76 hfs76 hns76_0 hns76_1 hns76_2 hms76_0 hms76_1 hms76_2 hs77 hfs77 hns77_0 hns77_1 hns77_2 hms77_0 hms77_1 hms77_2 hs78 hfs78 hns78_0 hns78_1 hns78_2 hms78_0 hms78_1 hms78_2 hs79 hfs79 hns79_0 hns79_1 hns79_2 hms79_0 hms79_1 hms79_2 hHeld wc u70 u71 u72 u73 u74 u75 u76 u77 u78 u79 u80 u81 u82 u83 u84 u85 u86 u87 u88 u89 u90 u91 u92 u93 u94 u95 u96 u97 u98 u99 u100 u101 u102 u103 u104 u105 u106 u107 u108 u109 u110 u111 u112 u113 u114 u115 u116 u117 u118 u119 u120 u121 u122 u123 u124 u125 u126 u127 u128 u129 u130 u131 u132 u133 u134 u135 u136 u137 u138 u139 u140 u141 u142 u143 u144 u145 u146 u147 u148 u149 u150 u151 u152 kj69 HJ69 t312 A103 H' hnb104 hnc104 hnb105 hnc105 hnb106 hnc106 hcz107_0 hcz107_1 hfz107_0 hfz107_1 w108 HO_4 HO_9 BK279 BK289 BK290 BK309 HB e302 gk wr u2 u16 u17 u18 u157 u158 u159 u160 u161 u162 u163 u164 u165 u166 u167 u168 u169 u170 u171 u172 u173 u174 u175 u176 u177 u178 u179 u180 u181 u182 u183 u184 u185 u186 u187 u188 u189 u190 u191 u192 u193 u194 u195 u196 u197 u198 u199 u200 u201 u202 u203 u204 u205 u206 u207 u208 u209 u210 u211 u212 u213 u214 u215 u216 u217 u218 u219 u220 u221 u222 u223 u224 u225 u226 u227 u228 u229 u230 u231 u232 u233 u234 u235 u236 u237 u238 u239 u240 u241 u242 u243 u244 u245 u246 u247 u248 u249 u250 u251 u252 u253 u254 u255 u256 u257 u258 hrel q32_ q33_ q34_ q35_
 clear H'
 try clear c1; try clear p2; try clear c3; try clear p3; try clear q3; try clear c4; try clear c5; try clear c6; try clear p6; try clear c8; try clear c9; try clear c10; try clear c30; try clear p30; try clear q30; try clear c31; try clear p31; try clear q31; try clear c35; try clear c39; try clear c43; try clear c50; try clear c52; try clear c52b0; try clear c52b1; try clear c53; try clear c53b0; try clear c54; try clear c54b0; try clear c56; try clear c57; try clear c58; try clear c62; try clear c63; try clear p64; try clear c67; try clear c67b0; try clear c68; try clear c68b0; try clear c81; try clear c81b0; try clear c81b1; try clear c82; try clear c82b0; try clear c82b1; try clear c83; try clear c83b0; try clear c84; try clear c85; try clear c86; try clear c88; try clear c89; try clear c91; try clear c91b0; try clear c92; try clear c92b0; try clear c93; try clear c94; try clear c95; try clear c97; try clear c98; try clear c100; try clear c102; try clear c104; try clear c105; try clear c106; try clear p2; try clear p3; try clear p30; try clear p300; try clear p302; try clear p31; try clear p311; try clear p6; try clear p64; try clear q3; try clear q30; try clear q300; try clear q302; try clear q31; try clear q311
 obtain ⟨x16_8, rfl, HA, HK8, HO_4, HO_9, BK279, BK289, BK290, BK309, HB⟩ := hrel
 cases gk with
 | zero => exact absurd HA.out (by simp [cellarlaw9_MemBack.l3])
 | succ k8 =>
 have H := HA.out
 clear HA
 simp only [cellarlaw9_MemBack.l3] at H
 by_cases c109 : x16_8 < (t293.length : Int)
 rotate_left
 ·rw [if_neg c109] at H
  have c109b0 : decide (x16_8 < (t293.length : Int)) = false := decide_eq_false c109
  clear c109
  have H' := Aside0.mk H
  clear H
  go_wp2
  go_roundg k8
  case measure => have := HK1.out; have := HJ9.out; have := HK3.out; have := HK4.out; have := HJ30.out; have := HJ44.out; have := HJ69.out; have := HK8.out; omega
  case rel => exact ⟨(wrap64 (x7_4 + 1)), (zr), H', ⟨by have := HK1.out; have := HJ9.out; have := HK3.out; have := HK4.out; have := HJ30.out; have := HJ44.out; have := HJ69.out; have := HK8.out; omega⟩, ⟨by (with_reducible repeat (first | apply Kd.R_alloc | apply Kd.R_drewN | apply Kd.R_drew)); exact Kd.R_mono HO_4.out (fun _ hk => trivial)⟩, ⟨zb BK279.out⟩, ⟨zb BK289.out⟩, ⟨zw4 HB.out GE279.out GE289.out GE290.out GE309.out⟩⟩
 rw [if_pos c109] at H
 have c109b0 : decide (x16_8 < (t293.length : Int)) = true := decide_eq_true c109
 clear c109
 have HC110 := Aside0.mk H
 clear H
 go_upto_region 29 with (fail)
 go_cut [196] (fun v196 wc => ∃ (kq : Nat) (x196_109 : Bool), v196 = .bool x196_109 ∧ Aside0 (cellarlaw9_MemBack.j8 kq x3_1 t286 x5_3 x7_4 t293 t312 x16_8 x196_109 l0_0 l0_1 l0_2 l0_3 ((Int.tmod x5_3 2) == 0) (wrap64 (2 + (wrap64 (2 * (Int.tmod x3_1 2))))) = some r) ∧ Aside0 (kq ≤ k8) ∧ Aside0 (Kd.R k62 62 wc w.heap.size (fun k_ => k_ ≠ gb290 ∧ k_ ≠ gb309) (.slice (some ad292) t286.length co26) t286) ∧ Aside0 (Kd.S k76 76 wc w.heap.size (fun _ => True) (.slice Ao71 t293.length co71) t293) ∧ Aside0 (wc.heap[gb279]? = some (.cells #[(.slice (some ad282) l0_0.length c0_0), (.slice A0_1 l0_1.length c0_1), (.slice A0_2 l0_2.length c0_2), (.slice A0_3 l0_3.length c0_3)] 54 (0, 0))) ∧ Aside0 (wc.heap[gb289]? = some (.cells #[.bool ((Int.tmod x5_3 2) == 0), .int .i64 (wrap64 (2 + (wrap64 (2 * (Int.tmod x3_1 2)))))] 29 (0, 0))) ∧ Aside0 (wc.heap[gb290]? = some (.cells #[.bool x291000_30, .int .i64 x291001_30, .int .i64 x291002_30, .int .i64 x291003_30] 62 (0, 0))) ∧ Aside0 (wc.heap[gb309]? = some (.cells #[.bool t303, .int .i64 t304, .int .i64 t305, .int .i64 t306] 62 (0, 0))) ∧ Aside0 (Below w.heap.size w wc))
 case first =>
  rename_i q9_ q24_ q25_ q26_ q29_ q30_ q31_ q36_ q37_ q38_ q39_ q40_ q41_ q42_ q43_ q44_ q45_
  clear q9_ q24_ q25_ q26_ q29_ q30_ q31_
  revert k c0_0 l0_0 A0_1 c0_1 l0_1 A0_2 c0_2 l0_2 A0_3 c0_3 l0_3 r w hu54 hu29 hu62 hu74 HC0_0 HR0_1 HC0_1 HR0_2 HC0_2 HR0_3 HC0_3 A2 q1_ gb279 w7 GW279 GE279 hfz8_0 hfz8_1 hfz8_2 hfz8_3 q2_ q3_ q4_ q5_ x3_1 k1 q7_ HK1 q8_ u30 u31 u32 u33 u34 u35 u36 u37 u39 u40 kj9 HJ9 c15b0 c16b0 t283 A17 t284 A18 c19b0 c19b1 t286 A20 hfz21_0 hfz21_1 hfz21_2 hfz21_3 ad282 A282_0 c282_0 HR0_0 hcz8_0 hcz8_1 hcz8_2 hcz8_3 q6_ hcz21_0 hcz21_1 hcz21_2 hcz21_3 hx282_0 HR282_0 HC282_0 p282 q282 q10_ q11_ A285_0 c285_0 hw285_0 HR285_0 HC285_0 p285 q285 w23 hx285_0 w24 e285 u19 u20 u21 u22 u23 u24 u25 u26 u27 u60 u61 u259 u260 u261 u262 u263 u264 u265 u266 u267 u268 u269 u270 u271 u272 u273 u274 u275 u276 u277 u278 u279 u280 u281 u282 u283 u284 u285 u286 u287 u288 u289 u290 u291 u292 u293 u294 u295 u296 u297 u298 u299 u300 u301 u302 u303 u304 u305 u306 u307 u308 u309 u310 u311 u312 u313 u314 u315 u316 u317 u318 u319 u320 u321 u322 u323 u324 u325 u326 u327 u328 u329 u330 u331 u332 u333 q13_ q14_ x5_3 k3 q16_ HK3 c25b0 co26 q12_ q17_ gb289 w27 GW289 GE289 NB279_289 NB289_279 hnb28 hnc28 hcz29_0 hcz29_1 hfz29_0 hfz29_1 q18_ q19_ q20_ q21_ x7_4 k4 q23_ HK4 c30b0 q27_ q28_ gb290 w32 GW290 GE290 NB279_290 NB290_279 NB289_290 NB290_289 hnb33 hnc33 hnb34 hnc34 hcz35_0 hcz35_1 hcz35_2 hcz35_3 hfz35_0 hfz35_1 hfz35_2 hfz35_3 x291000_30 x291001_30 x291002_30 x291003_30 kj30 HJ30 c40b0 c41b0 c42b0 c43b0 t293 t296 t297 A44 A291_0 c291_0 hw291_0 HR291_0 HC291_0 p291 q291 ad292 HO288 q15_ q22_ p292 q292 w46 hx291_0 hx292_0 hx292_1 hx292_2 hx292_3 w47 HS11_ HS12_ HS13_ HS14_ kj44 HJ44 c67b0 c68b0 t303 t304 t305 t306 t307 t308 A69 Ao71 co71 HO295 e291 p302 q302 HT_ HW_ w72 hx302_0 hx302_1 hx302_2 hx302_3 gb309 w75 hS_ GW309 GE309 NB279_309 NB309_279 NB289_309 NB309_289 NB290_309 NB309_290 hs76 hfs76 hns76_0 hns76_1 hns76_2 hms76_0 hms76_1 hms76_2 hs77 hfs77 hns77_0 hns77_1 hns77_2 hms77_0 hms77_1 hms77_2 hs78 hfs78 hns78_0 hns78_1 hns78_2 hms78_0 hms78_1 hms78_2 hs79 hfs79 hns79_0 hns79_1 hns79_2 hms79_0 hms79_1 hms79_2 hHeld wc u70 u71 u72 u73 u74 u75 u76 u77 u78 u79 u80 u81 u82 u83 u84 u85 u86 u87 u88 u89 u90 u91 u92 u93 u94 u95 u96 u97 u98 u99 u100 u101 u102 u103 u104 u105 u106 u107 u108 u109 u110 u111 u112 u113 u114 u115 u116 u117 u118 u119 u120 u121 u122 u123 u124 u125 u126 u127 u128 u129 u130 u131 u132 u133 u134 u135 u136 u137 u138 u139 u140 u141 u142 u143 u144 u145 u146 u147 u148 u149 u150 u151 u152 kj69 HJ69 t312 A103 hnb104 hnc104 hnb105 hnc105 hnb106 hnc106 hcz107_0 hcz107_1 hfz107_0 hfz107_1 e302 wr u2 u17 u18 u161 u162 u163 u164 u165 u166 u167 u168 u169 u170 u171 u172 u173 u174 u175 u176 u177 u178 u179 u180 u181 u182 u183 u184 u185 u186 u187 u188 u189 u190 u191 u192 u193 u194 u195 u196 u197 u198 u199 u200 u201 u202 u203 u204 u205 u206 u207 u208 u209 u210 u211 u212 u213 u214 u215 u216 u217 u218 u219 u220 u221 u222 u223 u224 u225 u226 u227 u228 u229 u230 u231 u232 u233 u234 u235 u236 u237 u238 u239 u240 u241 u242 u243 u244 u245 u246 u247 u248 u249 u250 u251 u252 u253 u254 u255 u256 u257 u258 q32_ q33_ q34_ x16_8 HO_4 HO_9 BK279 BK289 BK290 BK309 HB k8 q35_ HK8 c109b0 HC110 q36_ q37_ q38_ q39_ q40_ q41_ q42_ q43_ q44_ q45_
  exact cutP1.out
 case rest =>
 rename_i q9_ q24_ q25_ q26_ q29_ q30_ q31_ q36_ _ _ _ _ _ _ _ _ _ _ _ _ _ _ _ _ _ _ _ _ _ _ _ _ _ _ _ _ _ _ _ _ _ _ _ _ _ _ _ _ _ _ _ _ _ _ _ _ _ _ _ _ _ _ _ _ _ _ _ _ _ _ _ _ _ _ _ _ _ _ _ _ _ _ _ _ _ _ _ _ _ _ _ _ _ _ _ _ _ _ _ _ _ _ _ _ _ _ _ _ _ _ q37_ q38_ q39_ q40_ q41_ q42_
 clear q24_ q25_ q26_ q29_ q30_ q31_ q36_
 revert k c0_0 l0_0 A0_1 c0_1 l0_1 A0_2 c0_2 l0_2 A0_3 c0_3 l0_3 r w hu54 hu29 hu62 hu74 HC0_0 HR0_1 HC0_1 HR0_2 HC0_2 HR0_3 HC0_3 A2 q1_ gb279 w7 GW279 GE279 hfz8_0 hfz8_1 hfz8_2 hfz8_3 q2_ q3_ q4_ q5_ x3_1 k1 q7_ HK1 q8_ u30 u31 u32 u33 u34 u35 u36 u37 u39 u40 kj9 HJ9 c15b0 c16b0 t283 A17 t284 A18 c19b0 c19b1 t286 A20 hfz21_0 hfz21_1 hfz21_2 hfz21_3 ad282 A282_0 c282_0 HR0_0 hcz8_0 hcz8_1 hcz8_2 hcz8_3 q6_ hcz21_0 hcz21_1 hcz21_2 hcz21_3 hx282_0 HR282_0 HC282_0 p282 q282 q10_ q11_ A285_0 c285_0 hw285_0 HR285_0 HC285_0 p285 q285 w23 hx285_0 w24 e285 u19 u20 u21 u22 u23 u24 u25 u26 u27 u60 u61 u259 u260 u261 u262 u263 u264 u265 u266 u267 u268 u269 u270 u271 u272 u273 u274 u275 u276 u277 u278 u279 u280 u281 u282 u283 u284 u285 u286 u287 u288 u289 u290 u291 u292 u293 u294 u295 u296 u297 u298 u299 u300 u301 u302 u303 u304 u305 u306 u307 u308 u309 u310 u311 u312 u313 u314 u315 u316 u317 u318 u319 u320 u321 u322 u323 u324 u325 u326 u327 u328 u329 u330 u331 u332 u333 q13_ q14_ x5_3 k3 q16_ HK3 c25b0 co26 q12_ q17_ gb289 w27 GW289 GE289 NB279_289 NB289_279 hnb28 hnc28 hcz29_0 hcz29_1 hfz29_0 hfz29_1 q18_ q19_ q20_ q21_ x7_4 k4 q23_ HK4 c30b0 q27_ q28_ gb290 w32 GW290 GE290 NB279_290 NB290_279 NB289_290 NB290_289 hnb33 hnc33 hnb34 hnc34 hcz35_0 hcz35_1 hcz35_2 hcz35_3 hfz35_0 hfz35_1 hfz35_2 hfz35_3 x291000_30 x291001_30 x291002_30 x291003_30 kj30 HJ30 c40b0 c41b0 c42b0 c43b0 t293 t296 t297 A44 A291_0 c291_0 hw291_0 HR291_0 HC291_0 p291 q291 ad292 HO288 q15_ q22_ p292 q292 w46 hx291_0 hx292_0 hx292_1 hx292_2 hx292_3 w47 HS11_ HS12_ HS13_ HS14_ kj44 HJ44 c67b0 c68b0 t303 t304 t305 t306 t307 t308 A69 Ao71 co71 HO295 e291 p302 q302 HT_ HW_ w72 hx302_0 hx302_1 hx302_2 hx302_3 gb309 w75 hS_ GW309 GE309 NB279_309 NB309_279 NB289_309 NB309_289 NB290_309 NB309_290 hs76 hfs76 hns76_0 hns76_1 hns76_2 hms76_0 hms76_1 hms76_2 hs77 hfs77 hns77_0 hns77_1 hns77_2 hms77_0 hms77_1 hms77_2 hs78 hfs78 hns78_0 hns78_1 hns78_2 hms78_0 hms78_1 hms78_2 hs79 hfs79 hns79_0 hns79_1 hns79_2 hms79_0 hms79_1 hms79_2 hHeld q9_ u70 u71 u72 u73 u74 u75 u76 u77 u78 u79 u80 u81 u82 u83 u84 u85 u86 u87 u88 u89 u90 u91 u92 u93 u94 u95 u96 u97 u98 u99 u100 u101 u102 u103 u104 u105 u106 u107 u108 u109 u110 u111 u112 u113 u114 u115 u116 u117 u118 u119 u120 u121 u122 u123 u124 u125 u126 u127 u128 u129 u130 u131 u132 u133 u134 u135 u136 u137 u138 u139 u140 u141 u142 u143 u144 u145 u146 u147 u148 u149 u150 u151 u152 kj69 HJ69 t312 A103 hnb104 hnc104 hnb105 hnc105 hnb106 hnc106 hcz107_0 hcz107_1 hfz107_0 hfz107_1 e302 wr u2 u17 u18 q32_ q33_ q34_ x16_8 HO_4 HO_9 BK279 BK289 BK290 BK309 HB k8 q35_ HK8 c109b0 HC110 q37_ q38_ q39_ q40_ q41_ q42_ wc u157 u158 u159 u160 u161 u162 u163 u164 u165 u166 u167 u168 u169 u170 u171 u172 u173 u174 u175 u176 u177 u178 u179 u180 u181 u182 u183 u184 u185 u186 u187 u188 u189 u190 u191 u192 u193 u194 u195 u196 u197 u198 u199 u200 u201 u202 u203 u204 u205 u206 u207 u208 u209 u210 u211 u212 u213 u214 u215 u216 u217 u218 u219 u220 u221 u222 u223 u224 u225 u226 u227 u228 u229 u230 u231 u232 u233 u234 u235 u236 u237 u238 u239 u240 u241 u242 u243 u244 u245 u246 u247 u248 u249 u250 u251 u252 u253 u254 u255 u256 u257 u258 hcut
 exact cutP2.out
end Go.Proofs.Ytjoplkillkhiaaa.Q2
-- Written by this session's own edition of the print.
namespace Go.Proofs.Ytjoplkillkhiaaa.Q2
open Go.Proofs.Ytjoplkillkhiaaa.Cuts Go.RowKit Go.Proofs.Ytjoplkillkhiaaa.Fn Go.Proofs.YtjoplkillkhiaaaW.PrintWords Go.Proofs.YtjoplkillkhiaaaW.PrintLast Go.Proofs.YtjoplkillkhiaaaW.PrintMore
set_option linter.unusedVariables false
set_option linter.unusedSimpArgs false
set_option maxHeartbeats 60000000 in
set_option maxRecDepth 100000 in
theorem cellarlaw9_MemBack.part_aaaabaaaa : cellarlaw9_MemBack.cut_aaaabaaa.P1 := by
 intro k c0_0 l0_0 A0_1 c0_1 l0_1 A0_2 c0_2 l0_2 A0_3 c0_3 l0_3 r w hu54 hu29 hu62 hu74 HC0_0 HR0_1 HC0_1 HR0_2 HC0_2 HR0_3 HC0_3 A2 q1_ gb279 w7 GW279 GE279 hfz8_0 hfz8_1 hfz8_2 hfz8_3 q2_ q3_ q4_ q5_ x3_1 k1 q7_ HK1 q8_ u30 u31 u32 u33 u34 u35 u36 u37 u39 u40 kj9 HJ9 c15b0 c16b0 t283 A17 t284 A18 c19b0 c19b1 t286 A20 hfz21_0 hfz21_1 hfz21_2 hfz21_3 ad282 A282_0 c282_0 HR0_0 hcz8_0 hcz8_1 hcz8_2 hcz8_3 q6_ hcz21_0 hcz21_1 hcz21_2 hcz21_3 hx282_0 HR282_0 HC282_0 p282 q282 q10_ q11_ A285_0 c285_0 hw285_0 HR285_0 HC285_0 p285 q285 w23 hx285_0 w24 e285 u19 u20 u21 u22 u23 u24 u25 u26 u27 u60 u61 u259 u260 u261 u262 u263 u264 u265 u266 u267 u268 u269 u270 u271 u272 u273 u274 u275 u276 u277 u278 u279 u280 u281 u282 u283 u284 u285 u286 u287 u288 u289 u290 u291 u292 u293 u294 u295 u296 u297 u298 u299 u300 u301 u302 u303 u304 u305 u306 u307 u308 u309 u310 u311 u312 u313 u314 u315 u316 u317 u318 u319 u320 u321 u322 u323 u324 u325 u326 u327 u328 u329 u330 u331 u332 u333 q13_ q14_ x5_3 k3 q16_ HK3 c25b0 co26 q12_ q17_ gb289 w27 GW289 GE289 NB279_289 NB289_279 hnb28 hnc28 hcz29_0 hcz29_1 hfz29_0 hfz29_1 q18_ q19_ q20_ q21_ x7_4 k4 q23_ HK4 c30b0 q27_ q28_ gb290 w32 GW290 GE290 NB279_290 NB290_279 NB289_290 NB290_289 hnb33 hnc33 hnb34 hnc34 hcz35_0 hcz35_1 hcz35_2 hcz35_3 hfz35_0 hfz35_1 hfz35_2 hfz35_3 x291000_30 x291001_30 x291002_30 x291003_30 kj30 HJ30 c40b0 c41b0 c42b0 c43b0 t293 t296 t297 A44 A291_0 c291_0 hw291_0 HR291_0 HC291_0 p291 q291 ad292 HO288 q15_ q22_ p292 q292 w46 hx291_0 hx292_0 hx292_1 hx292_2 hx292_3 w47 HS11_ HS12_ HS13_ HS14_ kj44 HJ44 c67b0 c68b0 t303 t304 t305 t306 t307 t308 A69 Ao71 co71 HO295 e291 p302 q302 HT_ HW_ w72 hx302_0 hx302_1 hx302_2 hx302_3 gb309 w75 hS_ GW309 GE309 NB279_309 NB309_279 NB289_309 NB309_289 NB290_309 NB309_290 hs76 hfs76 hns76_0 hns76_1 hns76_2 hms76_0 hms76_1 hms76_2 hs77 hfs77 hns77_0 hns77_1 hns77_2 hms77_0 hms77_1 hms77_2 hs78 hfs78 hns78_0 hns78_1 hns78_2 hms78_0 hms78_1 hms78_2 hs79 hfs79 hns79_0 hns79_1 hns79_2 hms79_0 hms79_1 hms79_2 hHeld wc u70 u71 u72 u73 u74 u75 u76 u77 u78 u79 u80 u81 u82 u83 u84 u85 u86 u87 u88 u89 u90 u91 u92 u93 u94 u95 u96 u97 u98 u99 u100 u101 u102 u103 u104 u105 u106 u107 u108 u109 u110 u111 u112 u113 u114 u115 u116 u117 u118 u119 u120 u121 u122 u123 u124 u125 u126 u127 u128 u129 u130 u131 u132 u133 u134 u135 u136 u137 u138 u139 u140 u141 u142 u143 u144 u145 u146 u147 u148 u149 u150 u151 u152 kj69 HJ69 t312 A103 hnb104 hnc104 hnb105 hnc105 hnb106 hnc106 hcz107_0 hcz107_1 hfz107_0 hfz107_1 e302 wr u2 u17 u18 u161 u162 u163 u164 u165 u166 u167 u168 u169 u170 u171 u172 u173 u174 u175 u176 u177 u178 u179 u180 u181 u182 u183 u184 u185 u186 u187 u188 u189 u190 u191 u192 u193 u194 u195 u196 u197 u198 u199 u200 u201 u202 u203 u204 u205 u206 u207 u208 u209 u210 u211 u212 u213 u214 u215 u216 u217 u218 u219 u220 u221 u222 u223 u224 u225 u226 u227 u228 u229 u230 u231 u232 u233 u234 u235 u236 u237 u238 u239 u240 u241 u242 u243 u244 u245 u246 u247 u248 u249 u250 u251 u252 u253 u254 u255 u256 u257 u258 q32_ q33_ q34_ x16_8 HO_4 HO_9 BK279 BK289 BK290 BK309 HB k8 q35_ HK8 c109b0 HC110 q36_ q37_ q38_ q39_ q40_ q41_ q42_ q43_ q44_ q45_
 have H := HC110.out
 clear HC110
 by_cases c111 : 0 ≤ x16_8
 rotate_left
 ·rw [if_neg c111] at H
  exact absurd H (by simp)
 rw [if_pos c111] at H
 have c111b0 : decide (0 ≤ x16_8) = true := decide_eq_true c111
 clear c111
 (first | rw [c111b0] | (simp only [i64_w, i32_w]; rw [c111b0]) | skip)
 by_cases c112 : 0 ≤ x3_1
 rotate_left
 ·rw [if_neg c112] at H
  exact absurd H (by simp)
 rw [if_pos c112] at H
 have c112b0 : decide (0 ≤ x3_1) = true := decide_eq_true c112
 clear c112
 by_cases c113 : x3_1 < (l0_0.length : Int)
 rotate_left
 ·rw [if_neg c113] at H
  exact absurd H (by simp)
 rw [if_pos c113] at H
 have c113b0 : decide (x3_1 < (l0_0.length : Int)) = true := decide_eq_true c113
 clear c113
 by_cases c114 : x16_8 < ((rd_L4 l0_0 x3_1).length : Int)
 rotate_left
 ·rw [if_neg c114] at H
  exact absurd H (by simp)
 rw [if_pos c114] at H
 have c114b0 : decide (x16_8 < ((rd_L4 l0_0 x3_1).length : Int)) = true := decide_eq_true c114
 clear c114
 by_cases c115 : (((rd_T76 t293 x16_8).f1).length : Int) = (((rd_T76 (rd_L4 l0_0 x3_1) x16_8).f1).length : Int)
 rotate_left
 ·rw [if_neg c115] at H
  have c115b0 : ((((rd_T76 t293 x16_8).f1).length : Int) == (((rd_T76 (rd_L4 l0_0 x3_1) x16_8).f1).length : Int)) = false := beq_eq_false_iff_ne.mpr c115
  have c115b1 : ((((rd_T76 t293 x16_8).f1).length : Int) != (((rd_T76 (rd_L4 l0_0 x3_1) x16_8).f1).length : Int)) = true := bne_iff_ne.mpr c115
  have c115b2 : (((rd_T76 t293 x16_8).f1).length == ((rd_T76 (rd_L4 l0_0 x3_1) x16_8).f1).length) = false := by first | simpa using c115 | (simp at c115 ⊢; omega)
  have H' := Aside0.mk H
  clear H
  try go_wp2
  have n0_ := Aside0.mk (Kd.R_drew HO_4.out)
  have n1_ := Aside0.mk (Kd.S_drew HO_9.out)
  have n2_ := Aside0.mk (blk_drew BK279.out)
  have n3_ := Aside0.mk (blk_drew BK289.out)
  have n4_ := Aside0.mk (blk_drew BK290.out)
  have n5_ := Aside0.mk (blk_drew BK309.out)
  have n6_ := Aside0.mk (below_drew1 HB.out)
  clear HO_4
  clear HO_9
  clear BK279
  clear BK289
  clear BK290
  clear BK309
  clear HB
  have HO_4 := n0_
  have HO_9 := n1_
  have BK279 := n2_
  have BK289 := n3_
  have BK290 := n4_
  have BK309 := n5_
  have HB := n6_
  clear n0_ n1_ n2_ n3_ n4_ n5_ n6_
  have p313 : 0 ≤ (x16_8 : Int) := zdec
  have q313 : x16_8 < (t293.length : Int) := zdec
  obtain ⟨ad313, A313_1, c313_1, e313, hx313_0, hx313_1, hl313_1, hi313_1⟩ := at_T76 (Kd.S_reads' HO_9.out).2.2 x16_8 p313 q313
  cases e313
  obtain ⟨ce313, hce313, hMe313, hcc313⟩ := Kd.S_get HO_9.out z76 x16_8 p313 (by first | exact q313 | exact zdec | (have e_ := (Kd.S_reads' HO_9.out).1; omega))
  obtain ⟨ve313_1, rfl, ge313_1⟩ := k76_openM hMe313
  have hv313_1 := hcc313 1 _ rfl
  rw [add_field _ _ 1 (by omega)] at hv313_1
  replace hv313_1 := Option.some.inj (hv313_1.symm.trans hx313_1)
  rw [hv313_1] at ge313_1
  have HL313_1 := Aside0.mk (show Kd.R k74 74 _ _ _ _ ((rd_T76 t293 x16_8).f1) from ge313_1)
  clear hv313_1 ge313_1
  clear hcc313 hce313
  have HR313_1 := Aside0.mk hi313_1
  have HC313_1 := Aside0.mk hl313_1
  clear hi313_1 hl313_1
  replace p313 := eq_true p313
  replace q313 := eq_true q313
  have p314 : 0 ≤ (x3_1 : Int) := zdec
  have q314 : x3_1 < (l0_0.length : Int) := zdec
  obtain ⟨ad314, A314_0, c314_0, e314, hx314_0, hl314_0, hi314_0⟩ := at_L4 HR0_0.out x3_1 p314 q314
  have hw314_0 := hx314_0
  obtain rfl : ad282 = ad314 := (by injection e314)
  replace hx314_0 := zh HB.out hx314_0
  have HR314_0 := Aside0.mk hi314_0
  have HC314_0 := Aside0.mk hl314_0
  clear hi314_0 hl314_0
  replace p314 := eq_true p314
  replace q314 := eq_true q314
  have p315 : 0 ≤ (x16_8 : Int) := zdec
  have q315 : x16_8 < ((rd_L4 l0_0 x3_1).length : Int) := zdec
  obtain ⟨ad315, A315_1, c315_1, e315, hx315_0, hx315_1, hl315_1, hi315_1⟩ := at_T76 HR314_0.out x16_8 p315 q315
  have hw315_1 := hx315_1
  have hw315_0 := hx315_0
  cases e315
  replace hx315_0 := zh HB.out hx315_0
  replace hx315_1 := zh HB.out hx315_1
  have HR315_1 := Aside0.mk hi315_1
  have HC315_1 := Aside0.mk hl315_1
  clear hi315_1 hl315_1
  replace p315 := eq_true p315
  replace q315 := eq_true q315
  refine start_ (n := 34) (S := fun w' => w'.cell? ⟨gb279, 0, none⟩ = some (.slice (some ad282) l0_0.length c0_0) ∧ w'.cell? ⟨gb279, 1, none⟩ = some (.slice A0_1 l0_1.length c0_1) ∧ w'.cell? ⟨gb279, 2, none⟩ = some (.slice A0_2 l0_2.length c0_2) ∧ w'.cell? ⟨gb279, 3, none⟩ = some (.slice A0_3 l0_3.length c0_3) ∧ w'.cell? (ad313.add ((x16_8).toNat * 2)) = some (.int .i64 ((rd_T76 t293 x16_8).f0)) ∧ w'.cell? ⟨(ad313.add ((x16_8).toNat * 2)).block, (ad313.add ((x16_8).toNat * 2)).off + 1, none⟩ = some (.slice A313_1 ((rd_T76 t293 x16_8).f1).length c313_1) ∧ w'.cell? (ad282.add (x3_1).toNat) = some (.slice (some ad315) (rd_L4 l0_0 x3_1).length c314_0) ∧ w'.cell? (ad315.add ((x16_8).toNat * 2)) = some (.int .i64 ((rd_T76 (rd_L4 l0_0 x3_1) x16_8).f0)) ∧ w'.cell? ⟨(ad315.add ((x16_8).toNat * 2)).block, (ad315.add ((x16_8).toNat * 2)).off + 1, none⟩ = some (.slice A315_1 ((rd_T76 (rd_L4 l0_0 x3_1) x16_8).f1).length c315_1)) (ds := []) cellarlaw9_MemBack.b43 (by kernel_rfl) rfl rfl ⟨(blk_cell BK279.out 0).trans rfl, (blk_cell BK279.out 1).trans rfl, (blk_cell BK279.out 2).trans rfl, (blk_cell BK279.out 3).trans rfl, hx313_0, hx313_1, ((HB.out.cell (World.block_lt_of_cell? w _ hw314_0)).trans hw314_0), ((HB.out.cell (World.block_lt_of_cell? w _ hw315_0)).trans hw315_0), ((HB.out.cell (World.block_lt_of_cell? w _ hw315_1)).trans hw315_1)⟩ (fun hHeld => ?_); refine with_tabW cellarlaw9_MemBack.tab29 cellarlaw9_MemBack.bits29 (fun HT_ HW_ => ?_)
  generalize wr.drew = w117 at HO_4 HO_9 BK279 BK289 BK290 BK309 HB HL313_1 HR313_1 HR314_0 HR315_1 hx313_0 hx313_1 hx314_0 hx315_0 hx315_1 hHeld ⊢
  refine zq 0 (some 163) HT_ ?_; refine zq 1 (some 164) HT_ ?_; refine zq 2 (some 165) HT_ ?_; refine zq 3 (some 166) HT_ ?_; refine zq 6 (some 169) HT_ ?_; refine zq 8 (some 171) HT_ ?_; refine zq 11 (some 174) HT_ ?_; refine zt 4 (some 167) HT_ HW_ hHeld ?_; refine zq 5 (some 168) HT_ ?_; refine zt 7 (some 170) HT_ HW_ hHeld ?_; refine zq 9 (some 172) HT_ ?_; refine zt 10 (some 173) HT_ HW_ hHeld ?_; refine zq 12 (some 175) HT_ ?_; refine zq 13 (some 176) HT_ ?_; refine zt 14 (some 177) HT_ HW_ hHeld ?_; refine zq 15 (some 178) HT_ ?_; refine zq 16 (some 179) HT_ ?_; refine zq 17 (some 180) HT_ ?_; refine zu 18 (some 181) HT_ ?_; refine zu 19 (some 182) HT_ ?_; refine zu 20 (some 183) HT_ ?_; refine zu 21 (some 184) HT_ ?_; refine zu 22 (some 185) HT_ ?_; refine zu 23 (some 186) HT_ ?_; refine zu 24 (some 187) HT_ ?_; refine zu 25 (some 188) HT_ ?_; refine zu 26 (some 189) HT_ ?_; refine zu 27 (some 190) HT_ ?_; refine zu 28 (some 191) HT_ ?_; refine zu 29 (some 192) HT_ ?_; refine zu 30 (some 193) HT_ ?_; refine zu 31 (some 194) HT_ ?_; refine zu 32 (some 195) HT_ ?_; refine zq 33 (some 196) HT_ ?_
  refine done_ (done_of HT_.out (by kernel_rfl)) ?_
  try go_wp2
  go_meet
  case rel => exact ⟨_, (true), (zr), H', ⟨by have := HK1.out; have := HJ9.out; have := HK3.out; have := HK4.out; have := HJ30.out; have := HJ44.out; have := HJ69.out; have := HK8.out; first | omega | exact Nat.le_refl _⟩, ⟨by (with_reducible repeat (first | apply Kd.R_alloc | apply Kd.R_drewN | apply Kd.R_drew)); exact HO_4.out⟩, ⟨by (with_reducible repeat (first | apply Kd.S_alloc | apply Kd.S_drewN | apply Kd.S_drew)); exact HO_9.out⟩, ⟨zb BK279.out⟩, ⟨zb BK289.out⟩, ⟨zb BK290.out⟩, ⟨zb BK309.out⟩, ⟨zw4 HB.out GE279.out GE289.out GE290.out GE309.out⟩⟩
 rw [if_pos c115] at H
 have c115b0 : ((((rd_T76 t293 x16_8).f1).length : Int) == (((rd_T76 (rd_L4 l0_0 x3_1) x16_8).f1).length : Int)) = true := beq_iff_eq.mpr c115
 have c115b1 : ((((rd_T76 t293 x16_8).f1).length : Int) != (((rd_T76 (rd_L4 l0_0 x3_1) x16_8).f1).length : Int)) = false := bne_eq_false_iff_eq.mpr c115
 have c115b2 : (((rd_T76 t293 x16_8).f1).length == ((rd_T76 (rd_L4 l0_0 x3_1) x16_8).f1).length) = true := by first | simpa using c115 | (simp at c115 ⊢; omega)
 clear c115
 have H' := Aside0.mk H
 clear H
 try go_wp2
 have n0_ := Aside0.mk (Kd.R_drew HO_4.out)
 have n1_ := Aside0.mk (Kd.S_drew HO_9.out)
 have n2_ := Aside0.mk (blk_drew BK279.out)
 have n3_ := Aside0.mk (blk_drew BK289.out)
 have n4_ := Aside0.mk (blk_drew BK290.out)
 have n5_ := Aside0.mk (blk_drew BK309.out)
 have n6_ := Aside0.mk (below_drew1 HB.out)
 clear HO_4
 clear HO_9
 clear BK279
 clear BK289
 clear BK290
 clear BK309
 clear HB
 have HO_4 := n0_
 have HO_9 := n1_
 have BK279 := n2_
 have BK289 := n3_
 have BK290 := n4_
 have BK309 := n5_
 have HB := n6_
 clear n0_ n1_ n2_ n3_ n4_ n5_ n6_
 have p313 : 0 ≤ (x16_8 : Int) := zdec
 have q313 : x16_8 < (t293.length : Int) := zdec
 obtain ⟨ad313, A313_1, c313_1, e313, hx313_0, hx313_1, hl313_1, hi313_1⟩ := at_T76 (Kd.S_reads' HO_9.out).2.2 x16_8 p313 q313
 cases e313
 obtain ⟨ce313, hce313, hMe313, hcc313⟩ := Kd.S_get HO_9.out z76 x16_8 p313 (by first | exact q313 | exact zdec | (have e_ := (Kd.S_reads' HO_9.out).1; omega))
 obtain ⟨ve313_1, rfl, ge313_1⟩ := k76_openM hMe313
 have hv313_1 := hcc313 1 _ rfl
 rw [add_field _ _ 1 (by omega)] at hv313_1
 replace hv313_1 := Option.some.inj (hv313_1.symm.trans hx313_1)
 rw [hv313_1] at ge313_1
 have HL313_1 := Aside0.mk (show Kd.R k74 74 _ _ _ _ ((rd_T76 t293 x16_8).f1) from ge313_1)
 clear hv313_1 ge313_1
 clear hcc313 hce313
 have HR313_1 := Aside0.mk hi313_1
 have HC313_1 := Aside0.mk hl313_1
 clear hi313_1 hl313_1
 replace p313 := eq_true p313
 replace q313 := eq_true q313
 have p314 : 0 ≤ (x3_1 : Int) := zdec
 have q314 : x3_1 < (l0_0.length : Int) := zdec
 obtain ⟨ad314, A314_0, c314_0, e314, hx314_0, hl314_0, hi314_0⟩ := at_L4 HR0_0.out x3_1 p314 q314
 have hw314_0 := hx314_0
 obtain rfl : ad282 = ad314 := (by injection e314)
 replace hx314_0 := zh HB.out hx314_0
 have HR314_0 := Aside0.mk hi314_0
 have HC314_0 := Aside0.mk hl314_0
 clear hi314_0 hl314_0
 replace p314 := eq_true p314
 replace q314 := eq_true q314
 have p315 : 0 ≤ (x16_8 : Int) := zdec
 have q315 : x16_8 < ((rd_L4 l0_0 x3_1).length : Int) := zdec
 obtain ⟨ad315, A315_1, c315_1, e315, hx315_0, hx315_1, hl315_1, hi315_1⟩ := at_T76 HR314_0.out x16_8 p315 q315
 have hw315_1 := hx315_1
 have hw315_0 := hx315_0
 cases e315
 replace hx315_0 := zh HB.out hx315_0
 replace hx315_1 := zh HB.out hx315_1
 have HR315_1 := Aside0.mk hi315_1
 have HC315_1 := Aside0.mk hl315_1
 clear hi315_1 hl315_1
 replace p315 := eq_true p315
 replace q315 := eq_true q315
 have p316 : 0 ≤ (x16_8 : Int) := zdec
 have q316 : x16_8 < (t293.length : Int) := zdec
 obtain ⟨ad316, A316_1, c316_1, e316, hx316_0, hx316_1, hl316_1, hi316_1⟩ := at_T76 (Kd.S_reads' HO_9.out).2.2 x16_8 p316 q316
 obtain rfl : ad313 = ad316 := (by injection e316)
 obtain ⟨ce316, hce316, hMe316, hcc316⟩ := Kd.S_get HO_9.out z76 x16_8 p316 (by first | exact q316 | exact zdec | (have e_ := (Kd.S_reads' HO_9.out).1; omega))
 obtain ⟨ve316_1, rfl, ge316_1⟩ := k76_openM hMe316
 have hv316_1 := hcc316 1 _ rfl
 rw [add_field _ _ 1 (by omega)] at hv316_1
 replace hv316_1 := Option.some.inj (hv316_1.symm.trans hx316_1)
 rw [hv316_1] at ge316_1
 have HL316_1 := Aside0.mk (show Kd.R k74 74 _ _ _ _ ((rd_T76 t293 x16_8).f1) from ge316_1)
 clear hv316_1 ge316_1
 clear hcc316 hce316
 have HR316_1 := Aside0.mk hi316_1
 have HC316_1 := Aside0.mk hl316_1
 clear hi316_1 hl316_1
 replace p316 := eq_true p316
 replace q316 := eq_true q316
 have ea_ := Option.some.inj (hx313_1.symm.trans hx316_1)
 injection ea_ with ea_ en_ ec_
 subst ea_
 subst ec_
 clear en_
 have p317 : 0 ≤ (x3_1 : Int) := zdec
 have q317 : x3_1 < (l0_0.length : Int) := zdec
 obtain ⟨ad317, A317_0, c317_0, e317, hx317_0, hl317_0, hi317_0⟩ := at_L4 HR0_0.out x3_1 p317 q317
 have hw317_0 := hx317_0
 obtain rfl : ad282 = ad317 := (by injection e317)
 replace hx317_0 := zh HB.out hx317_0
 have HR317_0 := Aside0.mk hi317_0
 have HC317_0 := Aside0.mk hl317_0
 clear hi317_0 hl317_0
 replace p317 := eq_true p317
 replace q317 := eq_true q317
 have ea_ := Option.some.inj (hx314_0.symm.trans hx317_0)
 injection ea_ with ea_ en_ ec_
 subst ea_
 subst ec_
 clear en_
 have p318 : 0 ≤ (x16_8 : Int) := zdec
 have q318 : x16_8 < ((rd_L4 l0_0 x3_1).length : Int) := zdec
 obtain ⟨ad318, A318_1, c318_1, e318, hx318_0, hx318_1, hl318_1, hi318_1⟩ := at_T76 HR317_0.out x16_8 p318 q318
 have hw318_1 := hx318_1
 have hw318_0 := hx318_0
 cases e318
 replace hx318_0 := zh HB.out hx318_0
 replace hx318_1 := zh HB.out hx318_1
 have HR318_1 := Aside0.mk hi318_1
 have HC318_1 := Aside0.mk hl318_1
 clear hi318_1 hl318_1
 replace p318 := eq_true p318
 replace q318 := eq_true q318
 refine start_ (n := 34) (S := fun w' => w'.cell? ⟨gb279, 0, none⟩ = some (.slice (some ad282) l0_0.length c0_0) ∧ w'.cell? ⟨gb279, 1, none⟩ = some (.slice A0_1 l0_1.length c0_1) ∧ w'.cell? ⟨gb279, 2, none⟩ = some (.slice A0_2 l0_2.length c0_2) ∧ w'.cell? ⟨gb279, 3, none⟩ = some (.slice A0_3 l0_3.length c0_3) ∧ w'.cell? (ad313.add ((x16_8).toNat * 2)) = some (.int .i64 ((rd_T76 t293 x16_8).f0)) ∧ w'.cell? ⟨(ad313.add ((x16_8).toNat * 2)).block, (ad313.add ((x16_8).toNat * 2)).off + 1, none⟩ = some (.slice A313_1 ((rd_T76 t293 x16_8).f1).length c313_1) ∧ w'.cell? (ad282.add (x3_1).toNat) = some (.slice (some ad315) (rd_L4 l0_0 x3_1).length c314_0) ∧ w'.cell? (ad315.add ((x16_8).toNat * 2)) = some (.int .i64 ((rd_T76 (rd_L4 l0_0 x3_1) x16_8).f0)) ∧ w'.cell? ⟨(ad315.add ((x16_8).toNat * 2)).block, (ad315.add ((x16_8).toNat * 2)).off + 1, none⟩ = some (.slice A315_1 ((rd_T76 (rd_L4 l0_0 x3_1) x16_8).f1).length c315_1) ∧ w'.cell? (ad313.add ((x16_8).toNat * 2)) = some (.int .i64 ((rd_T76 t293 x16_8).f0)) ∧ w'.cell? ⟨(ad313.add ((x16_8).toNat * 2)).block, (ad313.add ((x16_8).toNat * 2)).off + 1, none⟩ = some (.slice A313_1 ((rd_T76 t293 x16_8).f1).length c313_1) ∧ w'.cell? (ad282.add (x3_1).toNat) = some (.slice (some ad315) (rd_L4 l0_0 x3_1).length c314_0) ∧ w'.cell? (ad315.add ((x16_8).toNat * 2)) = some (.int .i64 ((rd_T76 (rd_L4 l0_0 x3_1) x16_8).f0)) ∧ w'.cell? ⟨(ad315.add ((x16_8).toNat * 2)).block, (ad315.add ((x16_8).toNat * 2)).off + 1, none⟩ = some (.slice A318_1 ((rd_T76 (rd_L4 l0_0 x3_1) x16_8).f1).length c318_1)) (ds := []) cellarlaw9_MemBack.b43 (by kernel_rfl) rfl rfl ⟨(blk_cell BK279.out 0).trans rfl, (blk_cell BK279.out 1).trans rfl, (blk_cell BK279.out 2).trans rfl, (blk_cell BK279.out 3).trans rfl, hx313_0, hx313_1, ((HB.out.cell (World.block_lt_of_cell? w _ hw314_0)).trans hw314_0), ((HB.out.cell (World.block_lt_of_cell? w _ hw315_0)).trans hw315_0), ((HB.out.cell (World.block_lt_of_cell? w _ hw315_1)).trans hw315_1), hx316_0, hx316_1, ((HB.out.cell (World.block_lt_of_cell? w _ hw317_0)).trans hw317_0), ((HB.out.cell (World.block_lt_of_cell? w _ hw318_0)).trans hw318_0), ((HB.out.cell (World.block_lt_of_cell? w _ hw318_1)).trans hw318_1)⟩ (fun hHeld => ?_); refine with_tabW cellarlaw9_MemBack.tab29 cellarlaw9_MemBack.bits29 (fun HT_ HW_ => ?_)
 generalize wr.drew = w116 at HO_4 HO_9 BK279 BK289 BK290 BK309 HB HL313_1 HL316_1 HR313_1 HR314_0 HR315_1 HR316_1 HR317_0 HR318_1 hx313_0 hx313_1 hx314_0 hx315_0 hx315_1 hx316_0 hx316_1 hx317_0 hx318_0 hx318_1 hHeld ⊢
 refine zq 0 (some 163) HT_ ?_; refine zq 1 (some 164) HT_ ?_; refine zq 2 (some 165) HT_ ?_; refine zq 3 (some 166) HT_ ?_; refine zq 6 (some 169) HT_ ?_; refine zq 8 (some 171) HT_ ?_; refine zq 11 (some 174) HT_ ?_; refine zt 4 (some 167) HT_ HW_ hHeld ?_; refine zq 5 (some 168) HT_ ?_; refine zt 7 (some 170) HT_ HW_ hHeld ?_; refine zq 9 (some 172) HT_ ?_; refine zt 10 (some 173) HT_ HW_ hHeld ?_; refine zq 12 (some 175) HT_ ?_; refine zq 13 (some 176) HT_ ?_; refine zt 14 (some 177) HT_ HW_ hHeld ?_; refine zq 15 (some 178) HT_ ?_; refine zq 16 (some 179) HT_ ?_; refine zq 17 (some 180) HT_ ?_; refine zq 18 (some 181) HT_ ?_; refine zq 19 (some 182) HT_ ?_; refine zq 20 (some 183) HT_ ?_; refine zq 21 (some 184) HT_ ?_; refine zq 23 (some 186) HT_ ?_; refine zq 25 (some 188) HT_ ?_; refine zq 28 (some 191) HT_ ?_; refine zt 22 (some 185) HT_ HW_ hHeld ?_; refine zt 24 (some 187) HT_ HW_ hHeld ?_; refine zq 26 (some 189) HT_ ?_; refine zt 27 (some 190) HT_ HW_ hHeld ?_; refine zq 29 (some 192) HT_ ?_; refine zq 30 (some 193) HT_ ?_; refine zt 31 (some 194) HT_ HW_ hHeld ?_; refine zq 32 (some 195) HT_ ?_; refine zq 33 (some 196) HT_ ?_
 refine done_ (done_of HT_.out (by kernel_rfl)) ?_
 try go_wp2
 go_meet
 case rel => exact ⟨_, ((((rd_T76 t293 x16_8).f0) != ((rd_T76 (rd_L4 l0_0 x3_1) x16_8).f0))), (zr), H', ⟨by have := HK1.out; have := HJ9.out; have := HK3.out; have := HK4.out; have := HJ30.out; have := HJ44.out; have := HJ69.out; have := HK8.out; first | omega | exact Nat.le_refl _⟩, ⟨by (with_reducible repeat (first | apply Kd.R_alloc | apply Kd.R_drewN | apply Kd.R_drew)); exact HO_4.out⟩, ⟨by (with_reducible repeat (first | apply Kd.S_alloc | apply Kd.S_drewN | apply Kd.S_drew)); exact HO_9.out⟩, ⟨zb BK279.out⟩, ⟨zb BK289.out⟩, ⟨zb BK290.out⟩, ⟨zb BK309.out⟩, ⟨zw4 HB.out GE279.out GE289.out GE290.out GE309.out⟩⟩
end Go.Proofs.Ytjoplkillkhiaaa.Q2
