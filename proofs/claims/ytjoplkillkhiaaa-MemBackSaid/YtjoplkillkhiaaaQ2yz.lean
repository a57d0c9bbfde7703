import Derived.Test.YtjoplkillkhiaaaQ2x0
import Derived.Test.YtjoplkillkhiaaaQ2x1
import Derived.Test.YtjoplkillkhiaaaQ2x2
import Derived.Test.YtjoplkillkhiaaaQ2x3
import Derived.Test.YtjoplkillkhiaaaQ2x6
import Derived.Test.YtjoplkillkhiaaaQ2x7
import Derived.Test.YtjoplkillkhiaaaQ2x10
import Derived.Test.YtjoplkillkhiaaaQ2x11
import Derived.Test.YtjoplkillkhiaaaYSq
import Derived.Test.YtjoplkillkhiaaaYSq2
import Derived.Test.YtjoplkillkhiaaaYSq3
import Derived.Test.YtjoplkillkhiaaaQ2x12
import Derived.Test.YtjoplkillkhiaaaCut
import Derived.Test.YtjoplkillkhiaaaQ2y
import Derived.Test.YtjoplkillkhiaaaQ2ya
import Derived.Test.YtjoplkillkhiaaaQ2yaa
import Derived.Test.YtjoplkillkhiaaaQ2yaaa
import Derived.Test.YtjoplkillkhiaaaQ2yaaaa
import Derived.Test.YtjoplkillkhiaaaQ2yaaaab
import Derived.Test.YtjoplkillkhiaaaQ2yaaaaba
import Derived.Test.YtjoplkillkhiaaaQ2yaaaabaaaa
import Derived.Test.YtjoplkillkhiaaaItb
import Derived.Test.YtjoplkillkhiaaaQ2yaaaaa
import Derived.Test.YtjoplkillkhiaaaQ2yaaaaab
-- Written by this session's own edition of the print.
namespace Go.Proofs.Ytjoplkillkhiaaa.Q2
open Go.Proofs.Ytjoplkillkhiaaa.Cuts Go.RowKit Go.Proofs.Ytjoplkillkhiaaa.Fn Go.Proofs.YtjoplkillkhiaaaW.PrintWords Go.Proofs.YtjoplkillkhiaaaW.PrintLast Go.Proofs.YtjoplkillkhiaaaW.PrintMore
set_option linter.unusedVariables false
set_option linter.unusedSimpArgs false
set_option maxHeartbeats 60000000 in
set_option maxRecDepth 100000 in
noncomputable def cellarlaw9_MemBack.cut_aaaabaaab : Cut1 (cellarlaw9_MemBack.cut_aaaabaaa.P2) := by
 apply Cut1.mk
 case h =>
 intro cutP1
 intro k c0_0 l0_0 A0_1 c0_1 l0_1 A0_2 c0_2 l0_2 A0_3 c0_3 l0_3 r w hu54 hu29 hu62 hu74 HC0_0 HR0_1 HC0_1 HR0_2 HC0_2 HR0_3 HC0_3 A2 q1_ gb279 w7 GW279 GE279 hfz8_0 hfz8_1 hfz8_2 hfz8_3 q2_ q3_ q4_ q5_ x3_1 k1 q7_ HK1 q8_ u30 u31 u32 u33 u34 u35 u36 u37 u39 u40 kj9 HJ9 c15b0 c16b0 t283 A17 t284 A18 c19b0 c19b1 t286 A20 hfz21_0 hfz21_1 hfz21_2 hfz21_3 ad282 A282_0 c282_0 HR0_0 hcz8_0 hcz8_1 hcz8_2 hcz8_3 q6_ hcz21_0 hcz21_1 hcz21_2 hcz21_3 hx282_0 HR282_0 HC282_0 p282 q282 q10_ q11_ A285_0 c285_0 hw285_0 HR285_0 HC285_0 p285 q285 w23 hx285_0 w24 e285 u19 u20 u21 u22 u23 u24 u25 u26 u27 u60 u61 u259 u260 u261 u262 u263 u264 u265 u266 u267 u268 u269 u270 u271 u272 u273 u274 u275 u276 u277 u278 u279 u280 u281 u282 u283 u284 u285 u286 u287 u288 u289 u290 u291 u292 u293 u294 u295 u296 u297 u298 u299 u300 u301 u302 u303 u304 u305 u306 u307 u308 u309 u310 u311 u312 u313 u314 u315 u316 u317 u318 u319 u320 u321 u322 u323 u324 u325 u326 u327 u328 u329 u330 u331 u332 u333 q13_ q14_ x5_3 k3 q16_ HK3 c25b0 co26 q12_ q17_ gb289 w27 GW289 GE289 NB279_289 NB289_279 hnb28 hnc28 hcz29_0 hcz29_1 hfz29_0 hfz29_1 q18_ q19_ q20_ q21_ x7_4 k4 q23_ HK4 c30b0 q27_ q28_ gb290 w32 GW290 GE290 NB279_290 NB290_279 NB289_290 NB290_289 hnb33 hnc33 hnb34 hnc34 hcz35_0 hcz35_1 hcz35_2 hcz35_3 hfz35_0 hfz35_1 hfz35_2 hfz35_3 x291000_30 x291001_30 x291002_30 x291003_30 kj30 HJ30 c40b0 c41b0 c42b0 c43b0 t293 t296 t297 A44 A291_0 c291_0 hw291_0 HR291_0 HC291_0 p291 q291 ad292 HO288 q15_ q22_ p292 q292 w46 hx291_0 hx292_0 hx292_1 hx292_2 hx292_3 w47 HS11_ HS12_ HS13_ HS14_ kj44 HJ44 c67b0 c68b0 t303 t304 t305 t306 t307 t308 A69 Ao71 co71 HO295 e291 p302 q302 HT_ HW_ w72 hx302_0 hx302_1 hx302_2 hx302_3 gb309 w75 hS_ GW309 GE309 NB279_309 NB309_279 NB289_309 NB309_289 NB290_309 NB309_290 hs76 hfs76 hns76_0 hns76_1 hns76_2 hms76_0 hms76_1 hms76_2 hs77 hfs77 hns77_0 hns77_1 hns77_2 hms77_0 hms77_1 hms77_2 hs78 hfs78 hns78_0 hns78_1 hns78_2 hms78_0 hms78_1 hms78_2 hs79 hfs79 hns79_0 hns79_1 hns79_2 hms79_0 hms79_1 hms79_2 hHeld q9_ u70 u71 u72 u73 u74 u75 u76 u77 u78 u79 u80 u81 u82 u83 u84 u85 u86 u87 u88 u89 u90 u91 u92 u93 u94 u95 u96 u97 u98 u99 u100 u101 u102 u103 u104 u105 u106 u107 u108 u109 u110 u111 u112 u113 u114 u115 u116 u117 u118 u119 u120 u121 u122 u123 u124 u125 u126 u127 u128 u129 u130 u131 u132 u133 u134 u135 u136 u137 u138 u139 u140 u141 u142 u143 u144 u145 u146 u147 u148 u149 u150 u151 u152 kj69 HJ69 t312 A103 hnb104 hnc104 hnb105 hnc105 hnb106 hnc106 hcz107_0 hcz107_1 hfz107_0 hfz107_1 e302 wr u2 u17 u18 q32_ q33_ q34_ x16_8 HO_4 HO_9 BK279 BK289 BK290 BK309 HB k8 q35_ HK8 c109b0 HC110 q37_ q38_ q39_ q40_ q41_ q42_ wc u157 u158 u159 u160 u161 u162 u163 u164 u165 u166 u167 u168 u169 u170 u171 u172 u173 u174 u175 u176 u177 u178 u179 u180 u181 u182 u183 u184 u185 u186 u187 u188 u189 u190 u191 u192 u193 u194 u195 u196 u197 u198 u199 u200 u201 u202 u203 u204 u205 u206 u207 u208 u209 u210 u211 u212 u213 u214 u215 u216 u217 u218 u219 u220 u221 u222 u223 u224 u225 u226 u227 u228 u229 u230 u231 u232 u233 u234 u235 u236 u237 u238 u239 u240 u241 u242 u243 u244 u245 u246 u247 u248 u249 u250 u251 u252 u253 u254 u255 u256 u257 u258 hcut
 clear HC110
 try clear c1; try clear p2; try clear c3; try clear p3; try clear q3; try clear c11; try clear c31; try clear p31; try clear q31; try clear c111; try clear c112; try clear c113; try clear c114; try clear c115; try clear c115b0; try clear c115b1; try clear c115b2; try clear p313; try clear p314; try clear p315; try clear p317; try clear p318; try clear q313; try clear q314; try clear q315; try clear q317; try clear q318
 obtain ⟨kq, x196_109, rfl, HA, HJ109, HO_4, HO_9, BK279, BK289, BK290, BK309, HB⟩ := hcut
 cases kq with
 | zero => exact absurd HA.out (by simp [cellarlaw9_MemBack.j8])
 | succ kj109 =>
 have H := HA.out
 clear HA
 simp only [cellarlaw9_MemBack.j8] at H
 by_cases c118 : x196_109 = true
 ·subst c118
  have H1 : (some false) = some r := by rw [if_pos rfl] at H; exact H
  clear H
  have H := H1
  clear H1
  obtain rfl := Option.some.inj H
  go_wp2
  go_ret
  exact ⟨ze, zw4 HB.out GE279.out GE289.out GE290.out GE309.out⟩
 replace c118 := Bool.eq_false_iff.mpr c118
 subst c118
 have H1 : (cellarlaw9_MemBack.l4 kj109 x3_1 t286 x5_3 x7_4 t293 t312 x16_8 0 l0_0 l0_1 l0_2 l0_3 ((Int.tmod x5_3 2) == 0) (wrap64 (2 + (wrap64 (2 * (Int.tmod x3_1 2)))))) = some r := by rw [if_neg (show ¬ (false = true) by decide)] at H; exact H
 clear H
 have H := H1
 clear H1
 have H' := Aside0.mk H
 clear H
 go_wp2
 go_loopg [17] kj109 (fun kq v17 w' => ∃ (x17_10 : Int), v17 = .int .i64 x17_10 ∧ Aside0 (cellarlaw9_MemBack.l4 kq x3_1 t286 x5_3 x7_4 t293 t312 x16_8 x17_10 l0_0 l0_1 l0_2 l0_3 ((Int.tmod x5_3 2) == 0) (wrap64 (2 + (wrap64 (2 * (Int.tmod x3_1 2))))) = some r) ∧ Aside0 (kq ≤ kj109) ∧ Aside0 (Kd.R k62 62 w' w.heap.size (fun k_ => k_ ≠ gb290 ∧ k_ ≠ gb309) (.slice (some ad292) t286.length co26) t286) ∧ Aside0 (Kd.S k76 76 w' w.heap.size (fun _ => True) (.slice Ao71 t293.length co71) t293) ∧ Aside0 (w'.heap[gb279]? = some (.cells #[(.slice (some ad282) l0_0.length c0_0), (.slice A0_1 l0_1.length c0_1), (.slice A0_2 l0_2.length c0_2), (.slice A0_3 l0_3.length c0_3)] 54 (0, 0))) ∧ Aside0 (w'.heap[gb289]? = some (.cells #[.bool ((Int.tmod x5_3 2) == 0), .int .i64 (wrap64 (2 + (wrap64 (2 * (Int.tmod x3_1 2)))))] 29 (0, 0))) ∧ Aside0 (w'.heap[gb290]? = some (.cells #[.bool x291000_30, .int .i64 x291001_30, .int .i64 x291002_30, .int .i64 x291003_30] 62 (0, 0))) ∧ Aside0 (w'.heap[gb309]? = some (.cells #[.bool t303, .int .i64 t304, .int .i64 t305, .int .i64 t306] 62 (0, 0))) ∧ Aside0 (Below w.heap.size w w'))
 case atStart => exact ⟨(0), (zr), H', ⟨Nat.le_refl _⟩, ⟨by (with_reducible repeat (first | apply Kd.R_alloc | apply Kd.R_drewN | apply Kd.R_drew)); exact HO_4.out⟩, ⟨by (with_reducible repeat (first | apply Kd.S_alloc | apply Kd.S_drewN | apply Kd.S_drew)); exact HO_9.out⟩, ⟨zb BK279.out⟩, ⟨zb BK289.out⟩, ⟨zb BK290.out⟩, ⟨zb BK309.out⟩, ⟨zw4 HB.out GE279.out GE289.out GE290.out GE309.out⟩⟩
 case round =>
 rename_i q24_ q25_ q26_ q29_ q30_ q31_ q36_ _ _ _ _ _ _ _ _ _ _ _ _ _ _ _ _ _ _ _ _ _ _ _ _ _ _ _ _ _ _ _ _ _ _ _ _ _ _ _ _ _ _ _ _ _ _ _ _ _ _ _ _ _ _ _ _ _ _ _ _ _ _ q39_ q40_ q41_ q42_
 clear q24_ q25_ q26_ q29_ q30_ q31_ q36_
 revert k c0_0 l0_0 A0_1 c0_1 l0_1 A0_2 c0_2 l0_2 A0_3 c0_3 l0_3 r w hu54 hu29 hu62 hu74 HC0_0 HR0_1 HC0_1 HR0_2 HC0_2 HR0_3 HC0_3 A2 q1_ gb279 w7 GW279 GE279 hfz8_0 hfz8_1 hfz8_2 hfz8_3 q2_ q3_ q4_ q5_ x3_1 k1 q7_ HK1 q8_ u30 u31 u32 u33 u34 u35 u36 u37 u39 u40 kj9 HJ9 c15b0 c16b0 t283 A17 t284 A18 c19b0 c19b1 t286 A20 hfz21_0 hfz21_1 hfz21_2 hfz21_3 ad282 A282_0 c282_0 HR0_0 hcz8_0 hcz8_1 hcz8_2 hcz8_3 q6_ hcz21_0 hcz21_1 hcz21_2 hcz21_3 hx282_0 HR282_0 HC282_0 p282 q282 q10_ q11_ A285_0 c285_0 hw285_0 HR285_0 HC285_0 p285 q285 w23 hx285_0 w24 e285 u19 u20 u21 u22 u23 u24 u25 u26 u27 u60 u61 u259 u260 u261 u262 u263 u264 u265 u266 u267 u268 u269 u270 u271 u272 u273 u274 u275 u276 u277 u278 u279 u280 u281 u282 u283 u284 u285 u286 u287 u288 u289 u290 u291 u292 u293 u294 u295 u296 u297 u298 u299 u300 u301 u302 u303 u304 u305 u306 u307 u308 u309 u310 u311 u312 u313 u314 u315 u316 u317 u318 u319 u320 u321 u322 u323 u324 u325 u326 u327 u328 u329 u330 u331 u332 u333 q13_ q14_ x5_3 k3 q16_ HK3 c25b0 co26 q12_ q17_ gb289 w27 GW289 GE289 NB279_289 NB289_279 hnb28 hnc28 hcz29_0 hcz29_1 hfz29_0 hfz29_1 q18_ q19_ q20_ q21_ x7_4 k4 q23_ HK4 c30b0 q27_ q28_ gb290 w32 GW290 GE290 NB279_290 NB290_279 NB289_290 NB290_289 hnb33 hnc33 hnb34 hnc34 hcz35_0 hcz35_1 hcz35_2 hcz35_3 hfz35_0 hfz35_1 hfz35_2 hfz35_3 x291000_30 x291001_30 x291002_30 x291003_30 kj30 HJ30 c40b0 c41b0 c42b0 c43b0 t293 t296 t297 A44 A291_0 c291_0 hw291_0 HR291_0 HC291_0 p291 q291 ad292 HO288 q15_ q22_ p292 q292 w46 hx291_0 hx292_0 hx292_1 hx292_2 hx292_3 w47 HS11_ HS12_ HS13_ HS14_ kj44 HJ44 c67b0 c68b0 t303 t304 t305 t306 t307 t308 A69 Ao71 co71 HO295 e291 p302 q302 HT_ HW_ w72 hx302_0 hx302_1 hx302_2 hx302_3 gb309 w75 hS_ GW309 GE309 NB279_309 NB309_279 NB289_309 NB309_289 NB290_309 NB309_290 hs76 hfs76 hns76_0 hns76_1 hns76_2 hms76_0 hms76_1 hms76_2 hs77 hfs77 hns77_0 hns77_1 hns77_2 hms77_0 hms77_1 hms77_2 hs78 hfs78 hns78_0 hns78_1 hns78_2 hms78_0 hms78_1 hms78_2 hs79 hfs79 hns79_0 hns79_1 hns79_2 hms79_0 hms79_1 hms79_2 hHeld q9_ u70 u71 u72 u73 u74 u75 u76 u77 u78 u79 u80 u81 u82 u83 u84 u85 u86 u87 u88 u89 u90 u91 u92 u93 u94 u95 u96 u97 u98 u99 u100 u101 u102 u103 u104 u105 u106 u107 u108 u109 u110 u111 u112 u113 u114 u115 u116 u117 u118 u119 u120 u121 u122 u123 u124 u125 u126 u127 u128 u129 u130 u131 u132 u133 u134 u135 u136 u137 u138 u139 u140 u141 u142 u143 u144 u145 u146 u147 u148 u149 u150 u151 u152 kj69 HJ69 t312 A103 hnb104 hnc104 hnb105 hnc105 hnb106 hnc106 hcz107_0 hcz107_1 hfz107_0 hfz107_1 e302 q32_ q33_ q34_ x16_8 k8 q35_ HK8 c109b0 q37_ q38_ wc u157 u158 u159 u160 u161 u162 u163 u164 u165 u166 u167 u168 u169 u170 u171 u172 u173 u174 u175 u176 u177 u178 u179 u180 u181 u182 u183 u184 u185 u186 u187 u188 u189 u190 u191 u192 u193 u194 u195 HO_4 HO_9 BK279 BK289 BK290 BK309 HB kj109 HJ109 H' gk wr u2 u17 u18 u197 u198 u199 u200 u201 u202 u203 u204 u205 u206 u207 u208 u209 u210 u211 u212 u213 u214 u215 u216 u217 u218 u219 u220 u221 u222 u223 u224 u225 u226 u227 u228 u229 u230 u231 u232 u233 u234 u235 u236 u237 u238 u239 u240 u241 u242 u243 u244 u245 u246 u247 u248 u249 u250 u251 u252 u253 u254 u255 u256 u257 u258 hrel q39_ q40_ q41_ q42_
 exact cutP1.out
end Go.Proofs.Ytjoplkillkhiaaa.Q2
-- Written by this session's own edition of the print.
namespace Go.Proofs.Ytjoplkillkhiaaa.Q2
open Go.Proofs.Ytjoplkillkhiaaa.Cuts Go.RowKit Go.Proofs.Ytjoplkillkhiaaa.Fn Go.Proofs.YtjoplkillkhiaaaW.PrintWords Go.Proofs.YtjoplkillkhiaaaW.PrintLast Go.Proofs.YtjoplkillkhiaaaW.PrintMore
set_option linter.unusedVariables false
set_option linter.unusedSimpArgs false
set_option maxHeartbeats 60000000 in
set_option maxRecDepth 100000 in
noncomputable def cellarlaw9_MemBack.cut_aaaabaaaba : Cut1 (cellarlaw9_MemBack.cut_aaaabaaab.P1) := by
 apply Cut1.mk
 case h =>
 intro cutP1
 intro k c0_0 l0_0 A0_1 c0_1 l0_1 A0_2 c0_2 l0_2 A0_3 c0_3 l0_3 r w hu54 hu29 hu62 hu74 HC0_0 HR0_1 HC0_1 HR0_2 HC0_2 HR0_3 HC0_3 A2 q1_ gb279 w7 GW279 GE279 hfz8_0 hfz8_1 hfz8_2 hfz8_3 q2_ q3_ q4_ q5_ x3_1 k1 q7_ HK1 q8_ u30 u31 u32 u33 u34 u35 u36 u37 u39 u40 kj9 HJ9 c15b0 c16b0 t283 A17 t284 A18 c19b0 c19b1 t286 A20 hfz21_0 hfz21_1 hfz21_2 hfz21_3 ad282 A282_0 c282_0 HR0_0 hcz8_0 hcz8_1 hcz8_2 hcz8_3 q6_ hcz21_0 hcz21_1 hcz21_2 hcz21_3 hx282_0 HR282_0 HC282_0 p282 q282 q10_ q11_ A285_0 c285_0 hw285_0 HR285_0 HC285_0 p285 q285 w23 hx285_0 w24 e285 u19 u20 u21 u22 u23 u24 u25 u26 u27 u60 u61 u259 u260 u261 u262 u263 u264 u265 u266 u267 u268 u269 u270 u271 u272 u273 u274 u275 u276 u277 u278 u279 u280 u281 u282 u283 u284 u285 u286 u287 u288 u289 u290 u291 u292 u293 u294 u295 u296 u297 u298 u299 u300 u301 u302 u303 u304 u305 u306 u307 u308 u309 u310 u311 u312 u313 u314 u315 u316 u317 u318 u319 u320 u321 u322 u323 u324 u325 u326 u327 u328 u329 u330 u331 u332 u333 q13_ q14_ x5_3 k3 q16_ HK3 c25b0 co26 q12_ q17_ gb289 w27 GW289 GE289 NB279_289 NB289_279 hnb28 hnc28 hcz29_0 hcz29_1 hfz29_0 hfz29_1 q18_ q19_ q20_ q21_ x7_4 k4 q23_ HK4 c30b0 q27_ q28_ gb290 w32 GW290 GE290 NB279_290 NB290_279 NB289_290 NB290_289 hnb33 hnc33 hnb34 hnc34 hcz35_0 hcz35_1 hcz35_2 hcz35_3 hfz35_0 hfz35_1 hfz35_2 hfz35_3 x291000_30 x291001_30 x291002_30 x291003_30 kj30 HJ30 c40b0 c41b0 c42b0 c43b0 t293 t296 t297 A44 A291_0 c291_0 hw291_0 HR291_0 HC291_0 p291 q291 ad292 HO288 q15_ q22_ p292 q292 w46 hx291_0 hx292_0 hx292_1 hx292_2 hx292_3 w47 HS11_ HS12_ HS13_ HS14_ kj44 HJ44 c67b0 c68b0 t303 t304 t305 t306 t307 t308 A69 Ao71 co71 HO295 e291 p302 q302 HT_ HW_ w72 hx302_0 hx302_1 hx302_2 hx302_3 gb309 w75 hS_ GW309 GE309 NB279_309 NB309_279 NB289_309 NB309_289 NB290_309 NB309_290 hs76 hfs76 hns76_0 hns76_1 hns76_2 hms76_0 hms76_1 hms76_2 hs77 hfs77 hns77_0 hns77_1 hns77_2 hms77_0 hms77_1 hms77_2 hs78 hfs78 hns78_0 hns78_1 hns78_2 hms78_0 hms78_1 hms78_2 hs79 hfs79 hns79_0 hns79_1 hns79_2 hms79_0 hms79_1 hms79_2 hHeld q9_ u70 u71 u72 u73 u74 u75 u76 u77 u78 u79 u80 u81 u82 u83 u84 u85 u86 u87 u88 u89 u90 u91 u92 u93 u94 u95 u96 u97 u98 u99 u100 u101 u102 u103 u104 u105 u106 u107 u108 u109 u110 u111 u112 u113 u114 u115 u116 u117 u118 u119 u120 u121 u122 u123 u124 u125 u126 u127 u128 u129 u130 u131 u132 u133 u134 u135 u136 u137 u138 u139 u140 u141 u142 u143 u144 u145 u146 u147 u148 u149 u150 u151 u152 kj69 HJ69 t312 A103 hnb104 hnc104 hnb105 hnc105 hnb106 hnc106 hcz107_0 hcz107_1 hfz107_0 hfz107_1 e302 q32_ q33_ q34_ x16_8 k8 q35_ HK8 c109b0 q37_ q38_ wc u157 u158 u159 u160 u161 u162 u163 u164 u165 u166 u167 u168 u169 u170 u171 u172 u173 u174 u175 u176 u177 u178 u179 u180 u181 u182 u183 u184 u185 u186 u187 u188 u189 u190 u191 u192 u193 u194 u195 HO_4 HO_9 BK279 BK289 BK290 BK309 HB kj109 HJ109 H' gk wr u2 u17 u18 u197 u198 u199 u200 u201 u202 u203 u204 u205 u206 u207 u208 u209 u210 u211 u212 u213 u214 u215 u216 u217 u218 u219 u220 u221 u222 u223 u224 u225 u226 u227 u228 u229 u230 u231 u232 u233 u234 u235 u236 u237 u238 u239 u240 u241 u242 u243 u244 u245 u246 u247 u248 u249 u250 u251 u252 u253 u254 u255 u256 u257 u258 hrel q39_ q40_ q41_ q42_
 clear H'
 try clear c1; try clear p2; try clear c3; try clear p3; try clear q3; try clear p6; try clear c11; try clear c31; try clear p31; try clear q31; try clear p64; try clear c111; try clear c112; try clear c113; try clear c114; try clear c115; try clear c115b0; try clear c115b1; try clear c115b2; try clear c118; try clear p2; try clear p3; try clear p31; try clear p313; try clear p314; try clear p315; try clear p317; try clear p318; try clear q3; try clear q31; try clear q313; try clear q314; try clear q315; try clear q317; try clear q318
 obtain ⟨x17_10, rfl, HA, HK10, HO_4, HO_9, BK279, BK289, BK290, BK309, HB⟩ := hrel
 cases gk with
 | zero => exact absurd HA.out (by simp [cellarlaw9_MemBack.l4])
 | succ k10 =>
 have H := HA.out
 clear HA
 simp only [cellarlaw9_MemBack.l4] at H
 by_cases c119 : 0 ≤ x16_8
 rotate_left
 ·rw [if_neg c119] at H
  exact absurd H (by simp)
 rw [if_pos c119] at H
 have c119b0 : decide (0 ≤ x16_8) = true := decide_eq_true c119
 clear c119
 by_cases c120 : x16_8 < (t293.length : Int)
 rotate_left
 ·rw [if_neg c120] at H
  exact absurd H (by simp)
 rw [if_pos c120] at H
 have c120b0 : decide (x16_8 < (t293.length : Int)) = true := decide_eq_true c120
 clear c120
 by_cases c121 : x17_10 < (((rd_T76 t293 x16_8).f1).length : Int)
 rotate_left
 ·rw [if_neg c121] at H
  have c121b0 : decide (x17_10 < (((rd_T76 t293 x16_8).f1).length : Int)) = false := decide_eq_false c121
  clear c121
  have H' := Aside0.mk H
  clear H
  have p319 : 0 ≤ (x16_8 : Int) := zdec
  have q319 : x16_8 < (t293.length : Int) := zdec
  obtain ⟨ad319, A319_1, c319_1, e319, hx319_0, hx319_1, hl319_1, hi319_1⟩ := at_T76 (Kd.S_reads' HO_9.out).2.2 x16_8 p319 q319
  cases e319
  obtain ⟨ce319, hce319, hMe319, hcc319⟩ := Kd.S_get HO_9.out z76 x16_8 p319 (by first | exact q319 | exact zdec | (have e_ := (Kd.S_reads' HO_9.out).1; omega))
  obtain ⟨ve319_1, rfl, ge319_1⟩ := k76_openM hMe319
  have hv319_1 := hcc319 1 _ rfl
  rw [add_field _ _ 1 (by omega)] at hv319_1
  replace hv319_1 := Option.some.inj (hv319_1.symm.trans hx319_1)
  rw [hv319_1] at ge319_1
  have HL319_1 := Aside0.mk (show Kd.R k74 74 _ _ _ _ ((rd_T76 t293 x16_8).f1) from ge319_1)
  clear hv319_1 ge319_1
  clear hcc319 hce319
  have HR319_1 := Aside0.mk hi319_1
  have HC319_1 := Aside0.mk hl319_1
  clear hi319_1 hl319_1
  replace p319 := eq_true p319
  replace q319 := eq_true q319
  go_wp2
  go_roundg k10
  case measure => have := HK1.out; have := HJ9.out; have := HK3.out; have := HK4.out; have := HJ30.out; have := HJ44.out; have := HJ69.out; have := HK8.out; have := HJ109.out; have := HK10.out; omega
  case rel => exact ⟨(wrap64 (x16_8 + 1)), (zr), H', ⟨by have := HK1.out; have := HJ9.out; have := HK3.out; have := HK4.out; have := HJ30.out; have := HJ44.out; have := HJ69.out; have := HK8.out; have := HJ109.out; have := HK10.out; omega⟩, ⟨by (with_reducible repeat (first | apply Kd.R_alloc | apply Kd.R_drewN | apply Kd.R_drew)); exact HO_4.out⟩, ⟨by (with_reducible repeat (first | apply Kd.S_alloc | apply Kd.S_drewN | apply Kd.S_drew)); exact HO_9.out⟩, ⟨zb BK279.out⟩, ⟨zb BK289.out⟩, ⟨zb BK290.out⟩, ⟨zb BK309.out⟩, ⟨zw4 HB.out GE279.out GE289.out GE290.out GE309.out⟩⟩
 rw [if_pos c121] at H
 have c121b0 : decide (x17_10 < (((rd_T76 t293 x16_8).f1).length : Int)) = true := decide_eq_true c121
 clear c121
 have HC122 := Aside0.mk H
 clear H
 have p319 : 0 ≤ (x16_8 : Int) := zdec
 have q319 : x16_8 < (t293.length : Int) := zdec
 obtain ⟨ad319, A319_1, c319_1, e319, hx319_0, hx319_1, hl319_1, hi319_1⟩ := at_T76 (Kd.S_reads' HO_9.out).2.2 x16_8 p319 q319
 cases e319
 obtain ⟨ce319, hce319, hMe319, hcc319⟩ := Kd.S_get HO_9.out z76 x16_8 p319 (by first | exact q319 | exact zdec | (have e_ := (Kd.S_reads' HO_9.out).1; omega))
 obtain ⟨ve319_1, rfl, ge319_1⟩ := k76_openM hMe319
 have hv319_1 := hcc319 1 _ rfl
 rw [add_field _ _ 1 (by omega)] at hv319_1
 replace hv319_1 := Option.some.inj (hv319_1.symm.trans hx319_1)
 rw [hv319_1] at ge319_1
 have HL319_1 := Aside0.mk (show Kd.R k74 74 _ _ _ _ ((rd_T76 t293 x16_8).f1) from ge319_1)
 clear hv319_1 ge319_1
 clear hcc319 hce319
 have HR319_1 := Aside0.mk hi319_1
 have HC319_1 := Aside0.mk hl319_1
 clear hi319_1 hl319_1
 replace p319 := eq_true p319
 replace q319 := eq_true q319
 go_upto_region 34 with (fail)
 go_cut [18] (fun v18 wc => ∃ (kq : Nat) (x18_121 : Bool), v18 = .bool x18_121 ∧ Aside0 (cellarlaw9_MemBack.j10 kq x3_1 t286 x5_3 x7_4 t293 t312 x16_8 x17_10 x18_121 l0_0 l0_1 l0_2 l0_3 ((Int.tmod x5_3 2) == 0) (wrap64 (2 + (wrap64 (2 * (Int.tmod x3_1 2))))) = some r) ∧ Aside0 (kq ≤ k10) ∧ Aside0 (Kd.R k62 62 wc w.heap.size (fun k_ => k_ ≠ gb290 ∧ k_ ≠ gb309) (.slice (some ad292) t286.length co26) t286) ∧ Aside0 (Kd.S k76 76 wc w.heap.size (fun _ => True) (.slice (some ad319) t293.length co71) t293) ∧ Aside0 (wc.heap[gb279]? = some (.cells #[(.slice (some ad282) l0_0.length c0_0), (.slice A0_1 l0_1.length c0_1), (.slice A0_2 l0_2.length c0_2), (.slice A0_3 l0_3.length c0_3)] 54 (0, 0))) ∧ Aside0 (wc.heap[gb289]? = some (.cells #[.bool ((Int.tmod x5_3 2) == 0), .int .i64 (wrap64 (2 + (wrap64 (2 * (Int.tmod x3_1 2)))))] 29 (0, 0))) ∧ Aside0 (wc.heap[gb290]? = some (.cells #[.bool x291000_30, .int .i64 x291001_30, .int .i64 x291002_30, .int .i64 x291003_30] 62 (0, 0))) ∧ Aside0 (wc.heap[gb309]? = some (.cells #[.bool t303, .int .i64 t304, .int .i64 t305, .int .i64 t306] 62 (0, 0))) ∧ Aside0 (Kd.C k74 wc A319_1 ((rd_T76 t293 x16_8).f1).length ((rd_T76 t293 x16_8).f1)) ∧ Aside0 (Below w.heap.size w wc))
 case first =>
  have H := HC122.out
  clear HC122
  by_cases c123 : 0 ≤ x5_3
  rotate_left
  ·rw [if_neg c123] at H
   exact absurd H (by simp)
  rw [if_pos c123] at H
  have c123b0 : decide (0 ≤ x5_3) = true := decide_eq_true c123
  clear c123
  (first | rw [c123b0] | (simp only [i64_w, i32_w]; rw [c123b0]) | skip)
  by_cases c124 : x5_3 < (t286.length : Int)
  rotate_left
  ·rw [if_neg c124] at H
   exact absurd H (by simp)
  rw [if_pos c124] at H
  have c124b0 : decide (x5_3 < (t286.length : Int)) = true := decide_eq_true c124
  clear c124
  by_cases c125 : x16_8 = ((rd_T62 t286 x5_3).f2)
  rotate_left
  ·rw [if_neg c125] at H
   have c125b0 : (x16_8 == ((rd_T62 t286 x5_3).f2)) = false := beq_eq_false_iff_ne.mpr c125
   have c125b1 : (x16_8 != ((rd_T62 t286 x5_3).f2)) = true := bne_iff_ne.mpr c125
   have H' := Aside0.mk H
   clear H
   have p320 : 0 ≤ (x5_3 : Int) := zdec
   have q320 : x5_3 < (t286.length : Int) := zdec
   obtain ⟨ad320, e320, hx320_0, hx320_1, hx320_2, hx320_3⟩ := at_T62 (Kd.R_reads' HO_4.out).2.2 x5_3 p320 q320
   obtain rfl : ad292 = ad320 := (by injection e320)
   replace p320 := eq_true p320
   replace q320 := eq_true q320
   go_wp2
   go_meet
   case rel => exact ⟨_, (false), (zr), H', ⟨by have := HK1.out; have := HJ9.out; have := HK3.out; have := HK4.out; have := HJ30.out; have := HJ44.out; have := HJ69.out; have := HK8.out; have := HJ109.out; have := HK10.out; first | omega | exact Nat.le_refl _⟩, ⟨by (with_reducible repeat (first | apply Kd.R_alloc | apply Kd.R_drewN | apply Kd.R_drew)); exact HO_4.out⟩, ⟨by (with_reducible repeat (first | apply Kd.S_alloc | apply Kd.S_drewN | apply Kd.S_drew)); exact HO_9.out⟩, ⟨zb BK279.out⟩, ⟨zb BK289.out⟩, ⟨zb BK290.out⟩, ⟨zb BK309.out⟩, ⟨by repeat (first | (with_reducible exact HR319_1.out) | (with_reducible refine Kd.C_alloc ?_ _) | (with_reducible refine Kd.C_drewN ?_ _) | (with_reducible refine Kd.C_drew ?_) | exact HR319_1.out)⟩, ⟨zw4 HB.out GE279.out GE289.out GE290.out GE309.out⟩⟩
  rw [if_pos c125] at H
  have c125b0 : (x16_8 == ((rd_T62 t286 x5_3).f2)) = true := beq_iff_eq.mpr c125
  have c125b1 : (x16_8 != ((rd_T62 t286 x5_3).f2)) = false := bne_eq_false_iff_eq.mpr c125
  clear c125
  by_cases c126 : x17_10 ≥ ((rd_T62 t286 x5_3).f3)
  rotate_left
  ·rw [if_neg c126] at H
   have c126b0 : decide (((rd_T62 t286 x5_3).f3) ≤ x17_10) = false := decide_eq_false c126
   clear c126
   have H' := Aside0.mk H
   clear H
   have p320 : 0 ≤ (x5_3 : Int) := zdec
   have q320 : x5_3 < (t286.length : Int) := zdec
   obtain ⟨ad320, e320, hx320_0, hx320_1, hx320_2, hx320_3⟩ := at_T62 (Kd.R_reads' HO_4.out).2.2 x5_3 p320 q320
   obtain rfl : ad292 = ad320 := (by injection e320)
   replace p320 := eq_true p320
   replace q320 := eq_true q320
   have p321 : 0 ≤ (x5_3 : Int) := zdec
   have q321 : x5_3 < (t286.length : Int) := zdec
   obtain ⟨ad321, e321, hx321_0, hx321_1, hx321_2, hx321_3⟩ := at_T62 (Kd.R_reads' HO_4.out).2.2 x5_3 p321 q321
   obtain rfl : ad292 = ad321 := (by injection e321)
   replace p321 := eq_true p321
   replace q321 := eq_true q321
   go_wp2
   go_meet
   case rel => exact ⟨_, (false), (zr), H', ⟨by have := HK1.out; have := HJ9.out; have := HK3.out; have := HK4.out; have := HJ30.out; have := HJ44.out; have := HJ69.out; have := HK8.out; have := HJ109.out; have := HK10.out; first | omega | exact Nat.le_refl _⟩, ⟨by (with_reducible repeat (first | apply Kd.R_alloc | apply Kd.R_drewN | apply Kd.R_drew)); exact HO_4.out⟩, ⟨by (with_reducible repeat (first | apply Kd.S_alloc | apply Kd.S_drewN | apply Kd.S_drew)); exact HO_9.out⟩, ⟨zb BK279.out⟩, ⟨zb BK289.out⟩, ⟨zb BK290.out⟩, ⟨zb BK309.out⟩, ⟨by repeat (first | (with_reducible exact HR319_1.out) | (with_reducible refine Kd.C_alloc ?_ _) | (with_reducible refine Kd.C_drewN ?_ _) | (with_reducible refine Kd.C_drew ?_) | exact HR319_1.out)⟩, ⟨zw4 HB.out GE279.out GE289.out GE290.out GE309.out⟩⟩
  rw [if_pos c126] at H
  have c126b0 : decide (((rd_T62 t286 x5_3).f3) ≤ x17_10) = true := decide_eq_true c126
  clear c126
  have H' := Aside0.mk H
  clear H
  have p320 : 0 ≤ (x5_3 : Int) := zdec
  have q320 : x5_3 < (t286.length : Int) := zdec
  obtain ⟨ad320, e320, hx320_0, hx320_1, hx320_2, hx320_3⟩ := at_T62 (Kd.R_reads' HO_4.out).2.2 x5_3 p320 q320
  obtain rfl : ad292 = ad320 := (by injection e320)
  replace p320 := eq_true p320
  replace q320 := eq_true q320
  have p321 : 0 ≤ (x5_3 : Int) := zdec
  have q321 : x5_3 < (t286.length : Int) := zdec
  obtain ⟨ad321, e321, hx321_0, hx321_1, hx321_2, hx321_3⟩ := at_T62 (Kd.R_reads' HO_4.out).2.2 x5_3 p321 q321
  obtain rfl : ad292 = ad321 := (by injection e321)
  replace p321 := eq_true p321
  replace q321 := eq_true q321
  have p322 : 0 ≤ (x5_3 : Int) := zdec
  have q322 : x5_3 < (t286.length : Int) := zdec
  obtain ⟨ad322, e322, hx322_0, hx322_1, hx322_2, hx322_3⟩ := at_T62 (Kd.R_reads' HO_4.out).2.2 x5_3 p322 q322
  obtain rfl : ad292 = ad322 := (by injection e322)
  replace p322 := eq_true p322
  replace q322 := eq_true q322
  go_wp2
  go_meet
  case rel => exact ⟨_, (decide (x17_10 < (wrap64 (((rd_T62 t286 x5_3).f3) + t312)))), (zr), H', ⟨by have := HK1.out; have := HJ9.out; have := HK3.out; have := HK4.out; have := HJ30.out; have := HJ44.out; have := HJ69.out; have := HK8.out; have := HJ109.out; have := HK10.out; first | omega | exact Nat.le_refl _⟩, ⟨by (with_reducible repeat (first | apply Kd.R_alloc | apply Kd.R_drewN | apply Kd.R_drew)); exact HO_4.out⟩, ⟨by (with_reducible repeat (first | apply Kd.S_alloc | apply Kd.S_drewN | apply Kd.S_drew)); exact HO_9.out⟩, ⟨zb BK279.out⟩, ⟨zb BK289.out⟩, ⟨zb BK290.out⟩, ⟨zb BK309.out⟩, ⟨by repeat (first | (with_reducible exact HR319_1.out) | (with_reducible refine Kd.C_alloc ?_ _) | (with_reducible refine Kd.C_drewN ?_ _) | (with_reducible refine Kd.C_drew ?_) | exact HR319_1.out)⟩, ⟨zw4 HB.out GE279.out GE289.out GE290.out GE309.out⟩⟩
 case rest =>
 rename_i q24_ q25_ q26_ q29_ q30_ q31_ _ _ _ _ _ _ _ _ _ _ _ _ _ _ _ _ _ _ _ _ _ _ _ _ _ _ _ _ _ _ _ _ _ _ _ _ _ _ _ _ _ _ _ _ _ _ _ _ _ _ _ _ _ _ _ _ _ _ _ _ _ _ _ q36_ q43_ q44_ q45_ q46_
 clear q24_ q25_ q26_ q29_ q30_ q31_ q36_
 revert k c0_0 l0_0 A0_1 c0_1 l0_1 A0_2 c0_2 l0_2 A0_3 c0_3 l0_3 r w hu54 hu29 hu62 hu74 HC0_0 HR0_1 HC0_1 HR0_2 HC0_2 HR0_3 HC0_3 A2 q1_ gb279 w7 GW279 GE279 hfz8_0 hfz8_1 hfz8_2 hfz8_3 q2_ q3_ q4_ q5_ x3_1 k1 q7_ HK1 q8_ u30 u31 u32 u33 u34 u35 u36 u37 u39 u40 kj9 HJ9 c15b0 c16b0 t283 A17 t284 A18 c19b0 c19b1 t286 A20 hfz21_0 hfz21_1 hfz21_2 hfz21_3 ad282 A282_0 c282_0 HR0_0 hcz8_0 hcz8_1 hcz8_2 hcz8_3 q6_ hcz21_0 hcz21_1 hcz21_2 hcz21_3 hx282_0 HR282_0 HC282_0 p282 q282 q10_ q11_ A285_0 c285_0 hw285_0 HR285_0 HC285_0 p285 q285 w23 hx285_0 w24 e285 u19 u20 u21 u22 u23 u24 u25 u26 u27 u60 u61 u259 u260 u261 u262 u263 u264 u265 u266 u267 u268 u269 u270 u271 u272 u273 u274 u275 u276 u277 u278 u279 u280 u281 u282 u283 u284 u285 u286 u287 u288 u289 u290 u291 u292 u293 u294 u295 u296 u297 u298 u299 u300 u301 u302 u303 u304 u305 u306 u307 u308 u309 u310 u311 u312 u313 u314 u315 u316 u317 u318 u319 u320 u321 u322 u323 u324 u325 u326 u327 u328 u329 u330 u331 u332 u333 q13_ q14_ x5_3 k3 q16_ HK3 c25b0 co26 q12_ q17_ gb289 w27 GW289 GE289 NB279_289 NB289_279 hnb28 hnc28 hcz29_0 hcz29_1 hfz29_0 hfz29_1 q18_ q19_ q20_ q21_ x7_4 k4 q23_ HK4 c30b0 q27_ q28_ gb290 w32 GW290 GE290 NB279_290 NB290_279 NB289_290 NB290_289 hnb33 hnc33 hnb34 hnc34 hcz35_0 hcz35_1 hcz35_2 hcz35_3 hfz35_0 hfz35_1 hfz35_2 hfz35_3 x291000_30 x291001_30 x291002_30 x291003_30 kj30 HJ30 c40b0 c41b0 c42b0 c43b0 t293 t296 t297 A44 A291_0 c291_0 hw291_0 HR291_0 HC291_0 p291 q291 ad292 HO288 q15_ q22_ p292 q292 w46 hx291_0 hx292_0 hx292_1 hx292_2 hx292_3 w47 HS11_ HS12_ HS13_ HS14_ kj44 HJ44 c67b0 c68b0 t303 t304 t305 t306 t307 t308 A69 co71 e291 p302 q302 HT_ HW_ w72 hx302_0 hx302_1 hx302_2 hx302_3 gb309 w75 hS_ GW309 GE309 NB279_309 NB309_279 NB289_309 NB309_289 NB290_309 NB309_290 hs76 hfs76 hns76_0 hns76_1 hns76_2 hms76_0 hms76_1 hms76_2 hs77 hfs77 hns77_0 hns77_1 hns77_2 hms77_0 hms77_1 hms77_2 hs78 hfs78 hns78_0 hns78_1 hns78_2 hms78_0 hms78_1 hms78_2 hs79 hfs79 hns79_0 hns79_1 hns79_2 hms79_0 hms79_1 hms79_2 hHeld q9_ u70 u71 u72 u73 u74 u75 u76 u77 u78 u79 u80 u81 u82 u83 u84 u85 u86 u87 u88 u89 u90 u91 u92 u93 u94 u95 u96 u97 u98 u99 u100 u101 u102 u103 u104 u105 u106 u107 u108 u109 u110 u111 u112 u113 u114 u115 u116 u117 u118 u119 u120 u121 u122 u123 u124 u125 u126 u127 u128 u129 u130 u131 u132 u133 u134 u135 u136 u137 u138 u139 u140 u141 u142 u143 u144 u145 u146 u147 u148 u149 u150 u151 u152 kj69 HJ69 t312 A103 hnb104 hnc104 hnb105 hnc105 hnb106 hnc106 hcz107_0 hcz107_1 hfz107_0 hfz107_1 e302 q32_ q33_ x16_8 k8 q35_ HK8 c109b0 q37_ q38_ u157 u158 u159 u160 u161 u162 u163 u164 u165 u166 u167 u168 u169 u170 u171 u172 u173 u174 u175 u176 u177 u178 u179 u180 u181 u182 u183 u184 u185 u186 u187 u188 u189 u190 u191 u192 u193 u194 u195 kj109 HJ109 wr u2 q39_ q40_ x17_10 HO_4 BK279 BK289 BK290 BK309 HB k10 q42_ HK10 c119b0 c120b0 c121b0 HC122 ad319 A319_1 c319_1 hx319_0 hx319_1 HO295 q34_ q41_ HO_9 ve319_1 hMe319 HL319_1 HR319_1 HC319_1 p319 q319 q43_ q44_ q45_ q46_ wc u18 u197 u198 u199 u200 u201 u202 u203 u204 u205 u206 u207 u208 u209 u210 u211 u212 u213 u214 u215 u216 u217 u218 u219 u220 u221 u222 u223 u224 u225 u226 u227 u228 u229 u230 u231 u232 u233 u234 u235 u236 u237 u238 u239 u240 u241 u242 u243 u244 u245 u246 u247 u248 u249 u250 u251 u252 u253 u254 u255 u256 u257 u258 hcut
 exact cutP1.out
end Go.Proofs.Ytjoplkillkhiaaa.Q2
-- Written by this session's own edition of the print.
namespace Go.Proofs.Ytjoplkillkhiaaa.Q2
open Go.Proofs.Ytjoplkillkhiaaa.Cuts Go.RowKit Go.Proofs.Ytjoplkillkhiaaa.Fn Go.Proofs.YtjoplkillkhiaaaW.PrintWords Go.Proofs.YtjoplkillkhiaaaW.PrintLast Go.Proofs.YtjoplkillkhiaaaW.PrintMore
set_option linter.unusedVariables false
set_option linter.unusedSimpArgs false
set_option maxHeartbeats 60000000 in
set_option maxRecDepth 100000 in
theorem cellarlaw9_MemBack.part_aaaabaaabaa : cellarlaw9_MemBack.cut_aaaabaaaba.P1 := by
 intro k c0_0 l0_0 A0_1 c0_1 l0_1 A0_2 c0_2 l0_2 A0_3 c0_3 l0_3 r w hu54 hu29 hu62 hu74 HC0_0 HR0_1 HC0_1 HR0_2 HC0_2 HR0_3 HC0_3 A2 q1_ gb279 w7 GW279 GE279 hfz8_0 hfz8_1 hfz8_2 hfz8_3 q2_ q3_ q4_ q5_ x3_1 k1 q7_ HK1 q8_ u30 u31 u32 u33 u34 u35 u36 u37 u39 u40 kj9 HJ9 c15b0 c16b0 t283 A17 t284 A18 c19b0 c19b1 t286 A20 hfz21_0 hfz21_1 hfz21_2 hfz21_3 ad282 A282_0 c282_0 HR0_0 hcz8_0 hcz8_1 hcz8_2 hcz8_3 q6_ hcz21_0 hcz21_1 hcz21_2 hcz21_3 hx282_0 HR282_0 HC282_0 p282 q282 q10_ q11_ A285_0 c285_0 hw285_0 HR285_0 HC285_0 p285 q285 w23 hx285_0 w24 e285 u19 u20 u21 u22 u23 u24 u25 u26 u27 u60 u61 u259 u260 u261 u262 u263 u264 u265 u266 u267 u268 u269 u270 u271 u272 u273 u274 u275 u276 u277 u278 u279 u280 u281 u282 u283 u284 u285 u286 u287 u288 u289 u290 u291 u292 u293 u294 u295 u296 u297 u298 u299 u300 u301 u302 u303 u304 u305 u306 u307 u308 u309 u310 u311 u312 u313 u314 u315 u316 u317 u318 u319 u320 u321 u322 u323 u324 u325 u326 u327 u328 u329 u330 u331 u332 u333 q13_ q14_ x5_3 k3 q16_ HK3 c25b0 co26 q12_ q17_ gb289 w27 GW289 GE289 NB279_289 NB289_279 hnb28 hnc28 hcz29_0 hcz29_1 hfz29_0 hfz29_1 q18_ q19_ q20_ q21_ x7_4 k4 q23_ HK4 c30b0 q27_ q28_ gb290 w32 GW290 GE290 NB279_290 NB290_279 NB289_290 NB290_289 hnb33 hnc33 hnb34 hnc34 hcz35_0 hcz35_1 hcz35_2 hcz35_3 hfz35_0 hfz35_1 hfz35_2 hfz35_3 x291000_30 x291001_30 x291002_30 x291003_30 kj30 HJ30 c40b0 c41b0 c42b0 c43b0 t293 t296 t297 A44 A291_0 c291_0 hw291_0 HR291_0 HC291_0 p291 q291 ad292 HO288 q15_ q22_ p292 q292 w46 hx291_0 hx292_0 hx292_1 hx292_2 hx292_3 w47 HS11_ HS12_ HS13_ HS14_ kj44 HJ44 c67b0 c68b0 t303 t304 t305 t306 t307 t308 A69 co71 e291 p302 q302 HT_ HW_ w72 hx302_0 hx302_1 hx302_2 hx302_3 gb309 w75 hS_ GW309 GE309 NB279_309 NB309_279 NB289_309 NB309_289 NB290_309 NB309_290 hs76 hfs76 hns76_0 hns76_1 hns76_2 hms76_0 hms76_1 hms76_2 hs77 hfs77 hns77_0 hns77_1 hns77_2 hms77_0 hms77_1 hms77_2 hs78 hfs78 hns78_0 hns78_1 hns78_2 hms78_0 hms78_1 hms78_2 hs79 hfs79 hns79_0 hns79_1 hns79_2 hms79_0 hms79_1 hms79_2 hHeld q9_ u70 u71 u72 u73 u74 u75 u76 u77 u78 u79 u80 u81 u82 u83 u84 u85 u86 u87 u88 u89 u90 u91 u92 u93 u94 u95 u96 u97 u98 u99 u100 u101 u102 u103 u104 u105 u106 u107 u108 u109 u110 u111 u112 u113 u114 u115 u116 u117 u118 u119 u120 u121 u122 u123 u124 u125 u126 u127 u128 u129 u130 u131 u132 u133 u134 u135 u136 u137 u138 u139 u140 u141 u142 u143 u144 u145 u146 u147 u148 u149 u150 u151 u152 kj69 HJ69 t312 A103 hnb104 hnc104 hnb105 hnc105 hnb106 hnc106 hcz107_0 hcz107_1 hfz107_0 hfz107_1 e302 q32_ q33_ x16_8 k8 q35_ HK8 c109b0 q37_ q38_ u157 u158 u159 u160 u161 u162 u163 u164 u165 u166 u167 u168 u169 u170 u171 u172 u173 u174 u175 u176 u177 u178 u179 u180 u181 u182 u183 u184 u185 u186 u187 u188 u189 u190 u191 u192 u193 u194 u195 kj109 HJ109 wr u2 q39_ q40_ x17_10 HO_4 BK279 BK289 BK290 BK309 HB k10 q42_ HK10 c119b0 c120b0 c121b0 HC122 ad319 A319_1 c319_1 hx319_0 hx319_1 HO295 q34_ q41_ HO_9 ve319_1 hMe319 HL319_1 HR319_1 HC319_1 p319 q319 q43_ q44_ q45_ q46_ wc u18 u197 u198 u199 u200 u201 u202 u203 u204 u205 u206 u207 u208 u209 u210 u211 u212 u213 u214 u215 u216 u217 u218 u219 u220 u221 u222 u223 u224 u225 u226 u227 u228 u229 u230 u231 u232 u233 u234 u235 u236 u237 u238 u239 u240 u241 u242 u243 u244 u245 u246 u247 u248 u249 u250 u251 u252 u253 u254 u255 u256 u257 u258 hcut
 clear HC122
 try clear c1; try clear p2; try clear c3; try clear p3; try clear q3; try clear p6; try clear c11; try clear c12; try clear c31; try clear p31; try clear q31; try clear p32; try clear q32; try clear p64; try clear c111; try clear c112; try clear c113; try clear c114; try clear c115; try clear c115b0; try clear c115b1; try clear c115b2; try clear c118; try clear c119; try clear c119b0; try clear c120; try clear c120b0; try clear c121; try clear c121b0; try clear c123; try clear c123b0; try clear c124; try clear c124b0; try clear c125; try clear c125b0; try clear c125b1; try clear c126; try clear c126b0; try clear p2; try clear p3; try clear p31; try clear p313; try clear p314; try clear p315; try clear p317; try clear p318; try clear p319; try clear p320; try clear p321; try clear p322; try clear p6; try clear p64; try clear q3; try clear q31; try clear q313; try clear q314; try clear q315; try clear q317; try clear q318; try clear q319; try clear q320; try clear q321; try clear q322
 obtain ⟨kq, x18_121, rfl, HA, HJ121, HO_4, HO_9, BK279, BK289, BK290, BK309, HR319_1, HB⟩ := hcut
 cases kq with
 | zero => exact absurd HA.out (by simp [cellarlaw9_MemBack.j10])
 | succ kj121 =>
 have H := HA.out
 clear HA
 simp only [cellarlaw9_MemBack.j10] at H
 by_cases c127 : x18_121 = true
 ·subst c127
  have H1 : (cellarlaw9_MemBack.l4 kj121 x3_1 t286 x5_3 x7_4 t293 t312 x16_8 (wrap64 (x17_10 + 1)) l0_0 l0_1 l0_2 l0_3 ((Int.tmod x5_3 2) == 0) (wrap64 (2 + (wrap64 (2 * (Int.tmod x3_1 2)))))) = some r := by rw [if_pos rfl] at H; exact H
  clear H
  have H := H1
  clear H1
  have H' := Aside0.mk H
  clear H
  try go_wp2
  have n0_ := Aside0.mk (Kd.R_drew HO_4.out)
  have n1_ := Aside0.mk (Kd.S_drew HO_9.out)
  have n2_ := Aside0.mk (blk_drew BK279.out)
  have n3_ := Aside0.mk (blk_drew BK289.out)
  have n4_ := Aside0.mk (blk_drew BK290.out)
  have n5_ := Aside0.mk (blk_drew BK309.out)
  have n6_ := Aside0.mk (Kd.C_drew HR319_1.out)
  have n7_ := Aside0.mk (below_drew1 HB.out)
  clear HO_4
  clear HO_9
  clear BK279
  clear BK289
  clear BK290
  clear BK309
  clear HR319_1
  clear HB
  have HO_4 := n0_
  have HO_9 := n1_
  have BK279 := n2_
  have BK289 := n3_
  have BK290 := n4_
  have BK309 := n5_
  have HR319_1 := n6_
  have HB := n7_
  clear n0_ n1_ n2_ n3_ n4_ n5_ n6_ n7_
  refine start_ (n := 25) (S := fun w' => True) (ds := []) cellarlaw9_MemBack.b84 (by kernel_rfl) rfl rfl trivial (fun hHeld => ?_); refine with_tabW cellarlaw9_MemBack.tab35 cellarlaw9_MemBack.bits35 (fun HT_ HW_ => ?_)
  generalize wc.drew = w128 at HO_4 HO_9 BK279 BK289 BK290 BK309 HR319_1 HB hHeld ⊢
  refine zq 0 (some 234) HT_ ?_; refine zq 1 (some 235) HT_ ?_; refine zq 2 (some 236) HT_ ?_; refine zu 3 (some 237) HT_ ?_; refine zu 4 (some 238) HT_ ?_; refine zu 5 (some 239) HT_ ?_; refine zu 6 (some 240) HT_ ?_; refine zu 7 (some 241) HT_ ?_; refine zu 8 (some 242) HT_ ?_; refine zu 9 (some 243) HT_ ?_; refine zu 10 (some 244) HT_ ?_; refine zu 11 (some 245) HT_ ?_; refine zu 12 (some 246) HT_ ?_; refine zu 13 (some 247) HT_ ?_; refine zu 14 (some 248) HT_ ?_; refine zu 15 (some 249) HT_ ?_; refine zu 16 (some 250) HT_ ?_; refine zu 17 (some 251) HT_ ?_; refine zu 18 (some 252) HT_ ?_; refine zu 19 (some 253) HT_ ?_; refine zu 20 (some 254) HT_ ?_; refine zu 21 (some 255) HT_ ?_; refine zu 22 (some 256) HT_ ?_; refine zu 23 (some 257) HT_ ?_; refine zq 24 (some 258) HT_ ?_
  refine done_ (done_of HT_.out (by kernel_rfl)) ?_
  try go_wp2
  go_roundg kj121
  case measure => have := HK1.out; have := HJ9.out; have := HK3.out; have := HK4.out; have := HJ30.out; have := HJ44.out; have := HJ69.out; have := HK8.out; have := HJ109.out; have := HK10.out; have := HJ121.out; omega
  case rel => exact ⟨(wrap64 (x17_10 + 1)), (zr), H', ⟨by have := HK1.out; have := HJ9.out; have := HK3.out; have := HK4.out; have := HJ30.out; have := HJ44.out; have := HJ69.out; have := HK8.out; have := HJ109.out; have := HK10.out; have := HJ121.out; omega⟩, ⟨by (with_reducible repeat (first | apply Kd.R_alloc | apply Kd.R_drewN | apply Kd.R_drew)); exact HO_4.out⟩, ⟨by (with_reducible repeat (first | apply Kd.S_alloc | apply Kd.S_drewN | apply Kd.S_drew)); exact HO_9.out⟩, ⟨zb BK279.out⟩, ⟨zb BK289.out⟩, ⟨zb BK290.out⟩, ⟨zb BK309.out⟩, ⟨zw4 HB.out GE279.out GE289.out GE290.out GE309.out⟩⟩
 replace c127 := Bool.eq_false_iff.mpr c127
 subst c127
 have H1 : (if 0 ≤ x16_8 then (if x16_8 < (t293.length : Int) then (if 0 ≤ x17_10 then (if x17_10 < (((rd_T76 t293 x16_8).f1).length : Int) then (if 0 ≤ x3_1 then (if x3_1 < (l0_0.length : Int) then (if x16_8 < ((rd_L4 l0_0 x3_1).length : Int) then (if x17_10 < (((rd_T76 (rd_L4 l0_0 x3_1) x16_8).f1).length : Int) then (if (!(((rd_T74 ((rd_T76 t293 x16_8).f1) x17_10).f0) == ((rd_T74 ((rd_T76 (rd_L4 l0_0 x3_1) x16_8).f1) x17_10).f0)) || (!(((rd_T74 ((rd_T76 t293 x16_8).f1) x17_10).f1) == ((rd_T74 ((rd_T76 (rd_L4 l0_0 x3_1) x16_8).f1) x17_10).f1)) || (!(((rd_T74 ((rd_T76 t293 x16_8).f1) x17_10).f2) == ((rd_T74 ((rd_T76 (rd_L4 l0_0 x3_1) x16_8).f1) x17_10).f2)) || (!(((rd_T74 ((rd_T76 t293 x16_8).f1) x17_10).f3) == ((rd_T74 ((rd_T76 (rd_L4 l0_0 x3_1) x16_8).f1) x17_10).f3)) || (!(((rd_T74 ((rd_T76 t293 x16_8).f1) x17_10).f4) == ((rd_T74 ((rd_T76 (rd_L4 l0_0 x3_1) x16_8).f1) x17_10).f4))))))) = true then (some false) else (cellarlaw9_MemBack.l4 kj121 x3_1 t286 x5_3 x7_4 t293 t312 x16_8 (wrap64 (x17_10 + 1)) l0_0 l0_1 l0_2 l0_3 ((Int.tmod x5_3 2) == 0) (wrap64 (2 + (wrap64 (2 * (Int.tmod x3_1 2))))))) else (none)) else (none)) else (none)) else (none)) else (none)) else (none)) else (none)) else (none)) = some r := by rw [if_neg (show ¬ (false = true) by decide)] at H; exact H
 clear H
 have H := H1
 clear H1
 by_cases c129 : 0 ≤ x16_8
 rotate_left
 ·rw [if_neg c129] at H
  exact absurd H (by simp)
 rw [if_pos c129] at H
 have c129b0 : decide (0 ≤ x16_8) = true := decide_eq_true c129
 clear c129
 by_cases c130 : x16_8 < (t293.length : Int)
 rotate_left
 ·rw [if_neg c130] at H
  exact absurd H (by simp)
 rw [if_pos c130] at H
 have c130b0 : decide (x16_8 < (t293.length : Int)) = true := decide_eq_true c130
 clear c130
 by_cases c131 : 0 ≤ x17_10
 rotate_left
 ·rw [if_neg c131] at H
  exact absurd H (by simp)
 rw [if_pos c131] at H
 have c131b0 : decide (0 ≤ x17_10) = true := decide_eq_true c131
 clear c131
 by_cases c132 : x17_10 < (((rd_T76 t293 x16_8).f1).length : Int)
 rotate_left
 ·rw [if_neg c132] at H
  exact absurd H (by simp)
 rw [if_pos c132] at H
 have c132b0 : decide (x17_10 < (((rd_T76 t293 x16_8).f1).length : Int)) = true := decide_eq_true c132
 clear c132
 by_cases c133 : 0 ≤ x3_1
 rotate_left
 ·rw [if_neg c133] at H
  exact absurd H (by simp)
 rw [if_pos c133] at H
 have c133b0 : decide (0 ≤ x3_1) = true := decide_eq_true c133
 clear c133
 by_cases c134 : x3_1 < (l0_0.length : Int)
 rotate_left
 ·rw [if_neg c134] at H
  exact absurd H (by simp)
 rw [if_pos c134] at H
 have c134b0 : decide (x3_1 < (l0_0.length : Int)) = true := decide_eq_true c134
 clear c134
 by_cases c135 : x16_8 < ((rd_L4 l0_0 x3_1).length : Int)
 rotate_left
 ·rw [if_neg c135] at H
  exact absurd H (by simp)
 rw [if_pos c135] at H
 have c135b0 : decide (x16_8 < ((rd_L4 l0_0 x3_1).length : Int)) = true := decide_eq_true c135
 clear c135
 by_cases c136 : x17_10 < (((rd_T76 (rd_L4 l0_0 x3_1) x16_8).f1).length : Int)
 rotate_left
 ·rw [if_neg c136] at H
  exact absurd H (by simp)
 rw [if_pos c136] at H
 have c136b0 : decide (x17_10 < (((rd_T76 (rd_L4 l0_0 x3_1) x16_8).f1).length : Int)) = true := decide_eq_true c136
 clear c136
 by_cases c137 : (!(((rd_T74 ((rd_T76 t293 x16_8).f1) x17_10).f0) == ((rd_T74 ((rd_T76 (rd_L4 l0_0 x3_1) x16_8).f1) x17_10).f0)) || (!(((rd_T74 ((rd_T76 t293 x16_8).f1) x17_10).f1) == ((rd_T74 ((rd_T76 (rd_L4 l0_0 x3_1) x16_8).f1) x17_10).f1)) || (!(((rd_T74 ((rd_T76 t293 x16_8).f1) x17_10).f2) == ((rd_T74 ((rd_T76 (rd_L4 l0_0 x3_1) x16_8).f1) x17_10).f2)) || (!(((rd_T74 ((rd_T76 t293 x16_8).f1) x17_10).f3) == ((rd_T74 ((rd_T76 (rd_L4 l0_0 x3_1) x16_8).f1) x17_10).f3)) || (!(((rd_T74 ((rd_T76 t293 x16_8).f1) x17_10).f4) == ((rd_T74 ((rd_T76 (rd_L4 l0_0 x3_1) x16_8).f1) x17_10).f4))))))) = true
 ·rw [if_pos c137] at H
  have c137b0 : (!(((rd_T74 ((rd_T76 t293 x16_8).f1) x17_10).f0) == ((rd_T74 ((rd_T76 (rd_L4 l0_0 x3_1) x16_8).f1) x17_10).f0)) || (!(((rd_T74 ((rd_T76 t293 x16_8).f1) x17_10).f1) == ((rd_T74 ((rd_T76 (rd_L4 l0_0 x3_1) x16_8).f1) x17_10).f1)) || (!(((rd_T74 ((rd_T76 t293 x16_8).f1) x17_10).f2) == ((rd_T74 ((rd_T76 (rd_L4 l0_0 x3_1) x16_8).f1) x17_10).f2)) || (!(((rd_T74 ((rd_T76 t293 x16_8).f1) x17_10).f3) == ((rd_T74 ((rd_T76 (rd_L4 l0_0 x3_1) x16_8).f1) x17_10).f3)) || (!(((rd_T74 ((rd_T76 t293 x16_8).f1) x17_10).f4) == ((rd_T74 ((rd_T76 (rd_L4 l0_0 x3_1) x16_8).f1) x17_10).f4))))))) = true := c137
  clear c137
  obtain rfl := Option.some.inj H
  try go_wp2
  have n0_ := Aside0.mk (Kd.R_drew HO_4.out)
  have n1_ := Aside0.mk (Kd.S_drew HO_9.out)
  have n2_ := Aside0.mk (blk_drew BK279.out)
  have n3_ := Aside0.mk (blk_drew BK289.out)
  have n4_ := Aside0.mk (blk_drew BK290.out)
  have n5_ := Aside0.mk (blk_drew BK309.out)
  have n6_ := Aside0.mk (Kd.C_drew HR319_1.out)
  have n7_ := Aside0.mk (below_drew1 HB.out)
  clear HO_4
  clear HO_9
  clear BK279
  clear BK289
  clear BK290
  clear BK309
  clear HR319_1
  clear HB
  have HO_4 := n0_
  have HO_9 := n1_
  have BK279 := n2_
  have BK289 := n3_
  have BK290 := n4_
  have BK309 := n5_
  have HR319_1 := n6_
  have HB := n7_
  clear n0_ n1_ n2_ n3_ n4_ n5_ n6_ n7_
  have p323 : 0 ≤ (x16_8 : Int) := zdec
  have q323 : x16_8 < (t293.length : Int) := zdec
  obtain ⟨ad323, A323_1, c323_1, e323, hx323_0, hx323_1, hl323_1, hi323_1⟩ := at_T76 (Kd.S_reads' HO_9.out).2.2 x16_8 p323 q323
  obtain rfl : ad319 = ad323 := (by injection e323)
  obtain ⟨ce323, hce323, hMe323, hcc323⟩ := Kd.S_get HO_9.out z76 x16_8 p323 (by first | exact q323 | exact zdec | (have e_ := (Kd.S_reads' HO_9.out).1; omega))
  obtain ⟨ve323_1, rfl, ge323_1⟩ := k76_openM hMe323
  have hv323_1 := hcc323 1 _ rfl
  rw [add_field _ _ 1 (by omega)] at hv323_1
  replace hv323_1 := Option.some.inj (hv323_1.symm.trans hx323_1)
  rw [hv323_1] at ge323_1
  have HL323_1 := Aside0.mk (show Kd.R k74 74 _ _ _ _ ((rd_T76 t293 x16_8).f1) from ge323_1)
  clear hv323_1 ge323_1
  clear hcc323 hce323
  have HR323_1 := Aside0.mk hi323_1
  have HC323_1 := Aside0.mk hl323_1
  clear hi323_1 hl323_1
  replace p323 := eq_true p323
  replace q323 := eq_true q323
  have p324 : 0 ≤ (x17_10 : Int) := zdec
  have q324 : x17_10 < (((rd_T76 t293 x16_8).f1).length : Int) := zdec
  obtain ⟨ad324, e324, hx324_0, hx324_1, hx324_2, hx324_3, hx324_4⟩ := at_T74 (by repeat (first | (with_reducible exact HR323_1.out) | (with_reducible refine Kd.C_alloc ?_ _) | (with_reducible refine Kd.C_drewN ?_ _) | (with_reducible refine Kd.C_drew ?_) | exact HR323_1.out)) x17_10 p324 q324
  cases e324
  replace p324 := eq_true p324
  replace q324 := eq_true q324
  have p325 : 0 ≤ (x3_1 : Int) := zdec
  have q325 : x3_1 < (l0_0.length : Int) := zdec
  obtain ⟨ad325, A325_0, c325_0, e325, hx325_0, hl325_0, hi325_0⟩ := at_L4 HR0_0.out x3_1 p325 q325
  have hw325_0 := hx325_0
  obtain rfl : ad282 = ad325 := (by injection e325)
  replace hx325_0 := zh HB.out hx325_0
  have HR325_0 := Aside0.mk hi325_0
  have HC325_0 := Aside0.mk hl325_0
  clear hi325_0 hl325_0
  replace p325 := eq_true p325
  replace q325 := eq_true q325
  have p326 : 0 ≤ (x16_8 : Int) := zdec
  have q326 : x16_8 < ((rd_L4 l0_0 x3_1).length : Int) := zdec
  obtain ⟨ad326, A326_1, c326_1, e326, hx326_0, hx326_1, hl326_1, hi326_1⟩ := at_T76 HR325_0.out x16_8 p326 q326
  have hw326_1 := hx326_1
  have hw326_0 := hx326_0
  cases e326
  replace hx326_0 := zh HB.out hx326_0
  replace hx326_1 := zh HB.out hx326_1
  have HR326_1 := Aside0.mk hi326_1
  have HC326_1 := Aside0.mk hl326_1
  clear hi326_1 hl326_1
  replace p326 := eq_true p326
  replace q326 := eq_true q326
  have p327 : 0 ≤ (x17_10 : Int) := zdec
  have q327 : x17_10 < (((rd_T76 (rd_L4 l0_0 x3_1) x16_8).f1).length : Int) := zdec
  obtain ⟨ad327, e327, hx327_0, hx327_1, hx327_2, hx327_3, hx327_4⟩ := at_T74 HR326_1.out x17_10 p327 q327
  have hw327_4 := hx327_4
  have hw327_3 := hx327_3
  have hw327_2 := hx327_2
  have hw327_1 := hx327_1
  have hw327_0 := hx327_0
  cases e327
  replace hx327_0 := zh HB.out hx327_0
  replace hx327_1 := zh HB.out hx327_1
  replace hx327_2 := zh HB.out hx327_2
  replace hx327_3 := zh HB.out hx327_3
  replace hx327_4 := zh HB.out hx327_4
  replace p327 := eq_true p327
  replace q327 := eq_true q327
  refine start_ (n := 25) (S := fun w' => w'.cell? ⟨gb279, 0, none⟩ = some (.slice (some ad282) l0_0.length c0_0) ∧ w'.cell? ⟨gb279, 1, none⟩ = some (.slice A0_1 l0_1.length c0_1) ∧ w'.cell? ⟨gb279, 2, none⟩ = some (.slice A0_2 l0_2.length c0_2) ∧ w'.cell? ⟨gb279, 3, none⟩ = some (.slice A0_3 l0_3.length c0_3) ∧ w'.cell? (ad319.add ((x16_8).toNat * 2)) = some (.int .i64 ((rd_T76 t293 x16_8).f0)) ∧ w'.cell? ⟨(ad319.add ((x16_8).toNat * 2)).block, (ad319.add ((x16_8).toNat * 2)).off + 1, none⟩ = some (.slice (some ad324) ((rd_T76 t293 x16_8).f1).length c323_1) ∧ w'.cell? (ad324.add ((x17_10).toNat * 5)) = some (.int .i64 ((rd_T74 ((rd_T76 t293 x16_8).f1) x17_10).f0)) ∧ w'.cell? ⟨(ad324.add ((x17_10).toNat * 5)).block, (ad324.add ((x17_10).toNat * 5)).off + 1, none⟩ = some (.int .i64 ((rd_T74 ((rd_T76 t293 x16_8).f1) x17_10).f1)) ∧ w'.cell? ⟨(ad324.add ((x17_10).toNat * 5)).block, (ad324.add ((x17_10).toNat * 5)).off + 2, none⟩ = some (.int .i64 ((rd_T74 ((rd_T76 t293 x16_8).f1) x17_10).f2)) ∧ w'.cell? ⟨(ad324.add ((x17_10).toNat * 5)).block, (ad324.add ((x17_10).toNat * 5)).off + 3, none⟩ = some (.int .i64 ((rd_T74 ((rd_T76 t293 x16_8).f1) x17_10).f3)) ∧ w'.cell? ⟨(ad324.add ((x17_10).toNat * 5)).block, (ad324.add ((x17_10).toNat * 5)).off + 4, none⟩ = some (.int .i64 ((rd_T74 ((rd_T76 t293 x16_8).f1) x17_10).f4)) ∧ w'.cell? (ad282.add (x3_1).toNat) = some (.slice (some ad326) (rd_L4 l0_0 x3_1).length c325_0) ∧ w'.cell? (ad326.add ((x16_8).toNat * 2)) = some (.int .i64 ((rd_T76 (rd_L4 l0_0 x3_1) x16_8).f0)) ∧ w'.cell? ⟨(ad326.add ((x16_8).toNat * 2)).block, (ad326.add ((x16_8).toNat * 2)).off + 1, none⟩ = some (.slice (some ad327) ((rd_T76 (rd_L4 l0_0 x3_1) x16_8).f1).length c326_1) ∧ w'.cell? (ad327.add ((x17_10).toNat * 5)) = some (.int .i64 ((rd_T74 ((rd_T76 (rd_L4 l0_0 x3_1) x16_8).f1) x17_10).f0)) ∧ w'.cell? ⟨(ad327.add ((x17_10).toNat * 5)).block, (ad327.add ((x17_10).toNat * 5)).off + 1, none⟩ = some (.int .i64 ((rd_T74 ((rd_T76 (rd_L4 l0_0 x3_1) x16_8).f1) x17_10).f1)) ∧ w'.cell? ⟨(ad327.add ((x17_10).toNat * 5)).block, (ad327.add ((x17_10).toNat * 5)).off + 2, none⟩ = some (.int .i64 ((rd_T74 ((rd_T76 (rd_L4 l0_0 x3_1) x16_8).f1) x17_10).f2)) ∧ w'.cell? ⟨(ad327.add ((x17_10).toNat * 5)).block, (ad327.add ((x17_10).toNat * 5)).off + 3, none⟩ = some (.int .i64 ((rd_T74 ((rd_T76 (rd_L4 l0_0 x3_1) x16_8).f1) x17_10).f3)) ∧ w'.cell? ⟨(ad327.add ((x17_10).toNat * 5)).block, (ad327.add ((x17_10).toNat * 5)).off + 4, none⟩ = some (.int .i64 ((rd_T74 ((rd_T76 (rd_L4 l0_0 x3_1) x16_8).f1) x17_10).f4))) (ds := []) cellarlaw9_MemBack.b84 (by kernel_rfl) rfl rfl ⟨(blk_cell BK279.out 0).trans rfl, (blk_cell BK279.out 1).trans rfl, (blk_cell BK279.out 2).trans rfl, (blk_cell BK279.out 3).trans rfl, hx323_0, hx323_1, hx324_0, hx324_1, hx324_2, hx324_3, hx324_4, ((HB.out.cell (World.block_lt_of_cell? w _ hw325_0)).trans hw325_0), ((HB.out.cell (World.block_lt_of_cell? w _ hw326_0)).trans hw326_0), ((HB.out.cell (World.block_lt_of_cell? w _ hw326_1)).trans hw326_1), ((HB.out.cell (World.block_lt_of_cell? w _ hw327_0)).trans hw327_0), ((HB.out.cell (World.block_lt_of_cell? w _ hw327_1)).trans hw327_1), ((HB.out.cell (World.block_lt_of_cell? w _ hw327_2)).trans hw327_2), ((HB.out.cell (World.block_lt_of_cell? w _ hw327_3)).trans hw327_3), ((HB.out.cell (World.block_lt_of_cell? w _ hw327_4)).trans hw327_4)⟩ (fun hHeld => ?_); refine with_tabW cellarlaw9_MemBack.tab35 cellarlaw9_MemBack.bits35 (fun HT_ HW_ => ?_)
  generalize wc.drew = w138 at HO_4 HO_9 BK279 BK289 BK290 BK309 HR319_1 HB HL323_1 HR323_1 HR325_0 HR326_1 hx323_0 hx323_1 hx324_0 hx324_1 hx324_2 hx324_3 hx324_4 hx325_0 hx326_0 hx326_1 hx327_0 hx327_1 hx327_2 hx327_3 hx327_4 hHeld ⊢
  refine zq 0 (some 234) HT_ ?_; refine zq 1 (some 235) HT_ ?_; refine zq 2 (some 236) HT_ ?_; refine zq 3 (some 237) HT_ ?_; refine zq 4 (some 238) HT_ ?_; refine zq 5 (some 239) HT_ ?_; refine zq 6 (some 240) HT_ ?_; refine zq 8 (some 242) HT_ ?_; refine zq 11 (some 245) HT_ ?_; refine zq 13 (some 247) HT_ ?_; refine zq 16 (some 250) HT_ ?_; refine zq 20 (some 254) HT_ ?_; refine zt 7 (some 241) HT_ HW_ hHeld ?_; refine zq 9 (some 243) HT_ ?_; refine zt 10 (some 244) HT_ HW_ hHeld ?_; refine zt 12 (some 246) HT_ HW_ hHeld ?_; refine zq 14 (some 248) HT_ ?_; refine zt 15 (some 249) HT_ HW_ hHeld ?_; refine zq 17 (some 251) HT_ ?_; refine zq 18 (some 252) HT_ ?_; refine zt 19 (some 253) HT_ HW_ hHeld ?_; refine zq 21 (some 255) HT_ ?_; refine zt 22 (some 256) HT_ HW_ hHeld ?_; refine zq 23 (some 257) (v := .bool true) HT_ ?_ (hy := by (refine Or.inl ⟨by rfl, ?_⟩; intro w'; go_simp; first | exact imp5 c137b0 | exact itb5 c137b0)); refine zq 24 (some 258) HT_ ?_
  refine done_ (done_of HT_.out (by kernel_rfl)) ?_
  try go_wp2
  go_ret
  exact ⟨ze, zw4 HB.out GE279.out GE289.out GE290.out GE309.out⟩
 rw [if_neg c137] at H
 have c137b0 : (!(((rd_T74 ((rd_T76 t293 x16_8).f1) x17_10).f0) == ((rd_T74 ((rd_T76 (rd_L4 l0_0 x3_1) x16_8).f1) x17_10).f0)) || (!(((rd_T74 ((rd_T76 t293 x16_8).f1) x17_10).f1) == ((rd_T74 ((rd_T76 (rd_L4 l0_0 x3_1) x16_8).f1) x17_10).f1)) || (!(((rd_T74 ((rd_T76 t293 x16_8).f1) x17_10).f2) == ((rd_T74 ((rd_T76 (rd_L4 l0_0 x3_1) x16_8).f1) x17_10).f2)) || (!(((rd_T74 ((rd_T76 t293 x16_8).f1) x17_10).f3) == ((rd_T74 ((rd_T76 (rd_L4 l0_0 x3_1) x16_8).f1) x17_10).f3)) || (!(((rd_T74 ((rd_T76 t293 x16_8).f1) x17_10).f4) == ((rd_T74 ((rd_T76 (rd_L4 l0_0 x3_1) x16_8).f1) x17_10).f4))))))) = false := by simpa using c137
 have c137e_ : ((rd_T74 ((rd_T76 t293 x16_8).f1) x17_10).f0) = ((rd_T74 ((rd_T76 (rd_L4 l0_0 x3_1) x16_8).f1) x17_10).f0) ∧ ((rd_T74 ((rd_T76 t293 x16_8).f1) x17_10).f1) = ((rd_T74 ((rd_T76 (rd_L4 l0_0 x3_1) x16_8).f1) x17_10).f1) ∧ ((rd_T74 ((rd_T76 t293 x16_8).f1) x17_10).f2) = ((rd_T74 ((rd_T76 (rd_L4 l0_0 x3_1) x16_8).f1) x17_10).f2) ∧ ((rd_T74 ((rd_T76 t293 x16_8).f1) x17_10).f3) = ((rd_T74 ((rd_T76 (rd_L4 l0_0 x3_1) x16_8).f1) x17_10).f3) ∧ ((rd_T74 ((rd_T76 t293 x16_8).f1) x17_10).f4) = ((rd_T74 ((rd_T76 (rd_L4 l0_0 x3_1) x16_8).f1) x17_10).f4) := by simpa using c137b0
 obtain ⟨c137e0, c137e1, c137e2, c137e3, c137e4⟩ := c137e_
 replace c137e0 := eq_true c137e0
 replace c137e1 := eq_true c137e1
 replace c137e2 := eq_true c137e2
 replace c137e3 := eq_true c137e3
 replace c137e4 := eq_true c137e4
 clear c137
 have H' := Aside0.mk H
 clear H
 try go_wp2
 have n0_ := Aside0.mk (Kd.R_drew HO_4.out)
 have n1_ := Aside0.mk (Kd.S_drew HO_9.out)
 have n2_ := Aside0.mk (blk_drew BK279.out)
 have n3_ := Aside0.mk (blk_drew BK289.out)
 have n4_ := Aside0.mk (blk_drew BK290.out)
 have n5_ := Aside0.mk (blk_drew BK309.out)
 have n6_ := Aside0.mk (Kd.C_drew HR319_1.out)
 have n7_ := Aside0.mk (below_drew1 HB.out)
 clear HO_4
 clear HO_9
 clear BK279
 clear BK289
 clear BK290
 clear BK309
 clear HR319_1
 clear HB
 have HO_4 := n0_
 have HO_9 := n1_
 have BK279 := n2_
 have BK289 := n3_
 have BK290 := n4_
 have BK309 := n5_
 have HR319_1 := n6_
 have HB := n7_
 clear n0_ n1_ n2_ n3_ n4_ n5_ n6_ n7_
 have p323 : 0 ≤ (x16_8 : Int) := zdec
 have q323 : x16_8 < (t293.length : Int) := zdec
 obtain ⟨ad323, A323_1, c323_1, e323, hx323_0, hx323_1, hl323_1, hi323_1⟩ := at_T76 (Kd.S_reads' HO_9.out).2.2 x16_8 p323 q323
 obtain rfl : ad319 = ad323 := (by injection e323)
 obtain ⟨ce323, hce323, hMe323, hcc323⟩ := Kd.S_get HO_9.out z76 x16_8 p323 (by first | exact q323 | exact zdec | (have e_ := (Kd.S_reads' HO_9.out).1; omega))
 obtain ⟨ve323_1, rfl, ge323_1⟩ := k76_openM hMe323
 have hv323_1 := hcc323 1 _ rfl
 rw [add_field _ _ 1 (by omega)] at hv323_1
 replace hv323_1 := Option.some.inj (hv323_1.symm.trans hx323_1)
 rw [hv323_1] at ge323_1
 have HL323_1 := Aside0.mk (show Kd.R k74 74 _ _ _ _ ((rd_T76 t293 x16_8).f1) from ge323_1)
 clear hv323_1 ge323_1
 clear hcc323 hce323
 have HR323_1 := Aside0.mk hi323_1
 have HC323_1 := Aside0.mk hl323_1
 clear hi323_1 hl323_1
 replace p323 := eq_true p323
 replace q323 := eq_true q323
 have p324 : 0 ≤ (x17_10 : Int) := zdec
 have q324 : x17_10 < (((rd_T76 t293 x16_8).f1).length : Int) := zdec
 obtain ⟨ad324, e324, hx324_0, hx324_1, hx324_2, hx324_3, hx324_4⟩ := at_T74 (by repeat (first | (with_reducible exact HR323_1.out) | (with_reducible refine Kd.C_alloc ?_ _) | (with_reducible refine Kd.C_drewN ?_ _) | (with_reducible refine Kd.C_drew ?_) | exact HR323_1.out)) x17_10 p324 q324
 cases e324
 replace p324 := eq_true p324
 replace q324 := eq_true q324
 have p325 : 0 ≤ (x3_1 : Int) := zdec
 have q325 : x3_1 < (l0_0.length : Int) := zdec
 obtain ⟨ad325, A325_0, c325_0, e325, hx325_0, hl325_0, hi325_0⟩ := at_L4 HR0_0.out x3_1 p325 q325
 have hw325_0 := hx325_0
 obtain rfl : ad282 = ad325 := (by injection e325)
 replace hx325_0 := zh HB.out hx325_0
 have HR325_0 := Aside0.mk hi325_0
 have HC325_0 := Aside0.mk hl325_0
 clear hi325_0 hl325_0
 replace p325 := eq_true p325
 replace q325 := eq_true q325
 have p326 : 0 ≤ (x16_8 : Int) := zdec
 have q326 : x16_8 < ((rd_L4 l0_0 x3_1).length : Int) := zdec
 obtain ⟨ad326, A326_1, c326_1, e326, hx326_0, hx326_1, hl326_1, hi326_1⟩ := at_T76 HR325_0.out x16_8 p326 q326
 have hw326_1 := hx326_1
 have hw326_0 := hx326_0
 cases e326
 replace hx326_0 := zh HB.out hx326_0
 replace hx326_1 := zh HB.out hx326_1
 have HR326_1 := Aside0.mk hi326_1
 have HC326_1 := Aside0.mk hl326_1
 clear hi326_1 hl326_1
 replace p326 := eq_true p326
 replace q326 := eq_true q326
 have p327 : 0 ≤ (x17_10 : Int) := zdec
 have q327 : x17_10 < (((rd_T76 (rd_L4 l0_0 x3_1) x16_8).f1).length : Int) := zdec
 obtain ⟨ad327, e327, hx327_0, hx327_1, hx327_2, hx327_3, hx327_4⟩ := at_T74 HR326_1.out x17_10 p327 q327
 have hw327_4 := hx327_4
 have hw327_3 := hx327_3
 have hw327_2 := hx327_2
 have hw327_1 := hx327_1
 have hw327_0 := hx327_0
 cases e327
 replace hx327_0 := zh HB.out hx327_0
 replace hx327_1 := zh HB.out hx327_1
 replace hx327_2 := zh HB.out hx327_2
 replace hx327_3 := zh HB.out hx327_3
 replace hx327_4 := zh HB.out hx327_4
 replace p327 := eq_true p327
 replace q327 := eq_true q327
 refine start_ (n := 25) (S := fun w' => w'.cell? ⟨gb279, 0, none⟩ = some (.slice (some ad282) l0_0.length c0_0) ∧ w'.cell? ⟨gb279, 1, none⟩ = some (.slice A0_1 l0_1.length c0_1) ∧ w'.cell? ⟨gb279, 2, none⟩ = some (.slice A0_2 l0_2.length c0_2) ∧ w'.cell? ⟨gb279, 3, none⟩ = some (.slice A0_3 l0_3.length c0_3) ∧ w'.cell? (ad319.add ((x16_8).toNat * 2)) = some (.int .i64 ((rd_T76 t293 x16_8).f0)) ∧ w'.cell? ⟨(ad319.add ((x16_8).toNat * 2)).block, (ad319.add ((x16_8).toNat * 2)).off + 1, none⟩ = some (.slice (some ad324) ((rd_T76 t293 x16_8).f1).length c323_1) ∧ w'.cell? (ad324.add ((x17_10).toNat * 5)) = some (.int .i64 ((rd_T74 ((rd_T76 t293 x16_8).f1) x17_10).f0)) ∧ w'.cell? ⟨(ad324.add ((x17_10).toNat * 5)).block, (ad324.add ((x17_10).toNat * 5)).off + 1, none⟩ = some (.int .i64 ((rd_T74 ((rd_T76 t293 x16_8).f1) x17_10).f1)) ∧ w'.cell? ⟨(ad324.add ((x17_10).toNat * 5)).block, (ad324.add ((x17_10).toNat * 5)).off + 2, none⟩ = some (.int .i64 ((rd_T74 ((rd_T76 t293 x16_8).f1) x17_10).f2)) ∧ w'.cell? ⟨(ad324.add ((x17_10).toNat * 5)).block, (ad324.add ((x17_10).toNat * 5)).off + 3, none⟩ = some (.int .i64 ((rd_T74 ((rd_T76 t293 x16_8).f1) x17_10).f3)) ∧ w'.cell? ⟨(ad324.add ((x17_10).toNat * 5)).block, (ad324.add ((x17_10).toNat * 5)).off + 4, none⟩ = some (.int .i64 ((rd_T74 ((rd_T76 t293 x16_8).f1) x17_10).f4)) ∧ w'.cell? (ad282.add (x3_1).toNat) = some (.slice (some ad326) (rd_L4 l0_0 x3_1).length c325_0) ∧ w'.cell? (ad326.add ((x16_8).toNat * 2)) = some (.int .i64 ((rd_T76 (rd_L4 l0_0 x3_1) x16_8).f0)) ∧ w'.cell? ⟨(ad326.add ((x16_8).toNat * 2)).block, (ad326.add ((x16_8).toNat * 2)).off + 1, none⟩ = some (.slice (some ad327) ((rd_T76 (rd_L4 l0_0 x3_1) x16_8).f1).length c326_1) ∧ w'.cell? (ad327.add ((x17_10).toNat * 5)) = some (.int .i64 ((rd_T74 ((rd_T76 (rd_L4 l0_0 x3_1) x16_8).f1) x17_10).f0)) ∧ w'.cell? ⟨(ad327.add ((x17_10).toNat * 5)).block, (ad327.add ((x17_10).toNat * 5)).off + 1, none⟩ = some (.int .i64 ((rd_T74 ((rd_T76 (rd_L4 l0_0 x3_1) x16_8).f1) x17_10).f1)) ∧ w'.cell? ⟨(ad327.add ((x17_10).toNat * 5)).block, (ad327.add ((x17_10).toNat * 5)).off + 2, none⟩ = some (.int .i64 ((rd_T74 ((rd_T76 (rd_L4 l0_0 x3_1) x16_8).f1) x17_10).f2)) ∧ w'.cell? ⟨(ad327.add ((x17_10).toNat * 5)).block, (ad327.add ((x17_10).toNat * 5)).off + 3, none⟩ = some (.int .i64 ((rd_T74 ((rd_T76 (rd_L4 l0_0 x3_1) x16_8).f1) x17_10).f3)) ∧ w'.cell? ⟨(ad327.add ((x17_10).toNat * 5)).block, (ad327.add ((x17_10).toNat * 5)).off + 4, none⟩ = some (.int .i64 ((rd_T74 ((rd_T76 (rd_L4 l0_0 x3_1) x16_8).f1) x17_10).f4))) (ds := []) cellarlaw9_MemBack.b84 (by kernel_rfl) rfl rfl ⟨(blk_cell BK279.out 0).trans rfl, (blk_cell BK279.out 1).trans rfl, (blk_cell BK279.out 2).trans rfl, (blk_cell BK279.out 3).trans rfl, hx323_0, hx323_1, hx324_0, hx324_1, hx324_2, hx324_3, hx324_4, ((HB.out.cell (World.block_lt_of_cell? w _ hw325_0)).trans hw325_0), ((HB.out.cell (World.block_lt_of_cell? w _ hw326_0)).trans hw326_0), ((HB.out.cell (World.block_lt_of_cell? w _ hw326_1)).trans hw326_1), ((HB.out.cell (World.block_lt_of_cell? w _ hw327_0)).trans hw327_0), ((HB.out.cell (World.block_lt_of_cell? w _ hw327_1)).trans hw327_1), ((HB.out.cell (World.block_lt_of_cell? w _ hw327_2)).trans hw327_2), ((HB.out.cell (World.block_lt_of_cell? w _ hw327_3)).trans hw327_3), ((HB.out.cell (World.block_lt_of_cell? w _ hw327_4)).trans hw327_4)⟩ (fun hHeld => ?_); refine with_tabW cellarlaw9_MemBack.tab35 cellarlaw9_MemBack.bits35 (fun HT_ HW_ => ?_)
 generalize wc.drew = w139 at HO_4 HO_9 BK279 BK289 BK290 BK309 HR319_1 HB HL323_1 HR323_1 HR325_0 HR326_1 hx323_0 hx323_1 hx324_0 hx324_1 hx324_2 hx324_3 hx324_4 hx325_0 hx326_0 hx326_1 hx327_0 hx327_1 hx327_2 hx327_3 hx327_4 hHeld ⊢
 refine zq 0 (some 234) HT_ ?_; refine zq 1 (some 235) HT_ ?_; refine zq 2 (some 236) HT_ ?_; refine zq 3 (some 237) HT_ ?_; refine zq 4 (some 238) HT_ ?_; refine zq 5 (some 239) HT_ ?_; refine zq 6 (some 240) HT_ ?_; refine zq 8 (some 242) HT_ ?_; refine zq 11 (some 245) HT_ ?_; refine zq 13 (some 247) HT_ ?_; refine zq 16 (some 250) HT_ ?_; refine zq 20 (some 254) HT_ ?_; refine zt 7 (some 241) HT_ HW_ hHeld ?_; refine zq 9 (some 243) HT_ ?_; refine zt 10 (some 244) HT_ HW_ hHeld ?_; refine zt 12 (some 246) HT_ HW_ hHeld ?_; refine zq 14 (some 248) HT_ ?_; refine zt 15 (some 249) HT_ HW_ hHeld ?_; refine zq 17 (some 251) HT_ ?_; refine zq 18 (some 252) HT_ ?_; refine zt 19 (some 253) HT_ HW_ hHeld ?_; refine zq 21 (some 255) HT_ ?_; refine zt 22 (some 256) HT_ HW_ hHeld ?_; refine zq 23 (some 257) HT_ ?_; refine zq 24 (some 258) HT_ ?_
 refine done_ (done_of HT_.out (by kernel_rfl)) ?_
 try go_wp2
 go_roundg kj121
 case measure => have := HK1.out; have := HJ9.out; have := HK3.out; have := HK4.out; have := HJ30.out; have := HJ44.out; have := HJ69.out; have := HK8.out; have := HJ109.out; have := HK10.out; have := HJ121.out; omega
 case rel => exact ⟨(wrap64 (x17_10 + 1)), (zr), H', ⟨by have := HK1.out; have := HJ9.out; have := HK3.out; have := HK4.out; have := HJ30.out; have := HJ44.out; have := HJ69.out; have := HK8.out; have := HJ109.out; have := HK10.out; have := HJ121.out; omega⟩, ⟨by (with_reducible repeat (first | apply Kd.R_alloc | apply Kd.R_drewN | apply Kd.R_drew)); exact HO_4.out⟩, ⟨by (with_reducible repeat (first | apply Kd.S_alloc | apply Kd.S_drewN | apply Kd.S_drew)); exact HO_9.out⟩, ⟨zb BK279.out⟩, ⟨zb BK289.out⟩, ⟨zb BK290.out⟩, ⟨zb BK309.out⟩, ⟨zw4 HB.out GE279.out GE289.out GE290.out GE309.out⟩⟩
end Go.Proofs.Ytjoplkillkhiaaa.Q2
-- Written by this session's own edition of the print.
namespace Go.Proofs.Ytjoplkillkhiaaa.Q2
open Go.Proofs.Ytjoplkillkhiaaa.Cuts Go.RowKit Go.Proofs.Ytjoplkillkhiaaa.Fn Go.Proofs.YtjoplkillkhiaaaW.PrintWords Go.Proofs.YtjoplkillkhiaaaW.PrintLast Go.Proofs.YtjoplkillkhiaaaW.PrintMore
theorem cellarlaw9_MemBack.calls (k : Nat) (A0_0 : Option Addr) (c0_0 : Nat) (l0_0 : List (List (S76))) (A0_1 : Option Addr) (c0_1 : Nat) (l0_1 : List (S62)) (A0_2 : Option Addr) (c0_2 : Nat) (l0_2 : List Int) (A0_3 : Option Addr) (c0_3 : Nat) (l0_3 : List (S29)) (r : Bool) (w : World) (hr0_0 : Kd.C (Kd.slice 76 k76) w A0_0 l0_0.length l0_0) (hc0_0 : l0_0.length ≤ c0_0) (hr0_1 : Kd.C k62 w A0_1 l0_1.length l0_1) (hc0_1 : l0_1.length ≤ c0_1) (hr0_2 : Kd.C (Kd.int .i64) w A0_2 l0_2.length l0_2) (hc0_2 : l0_2.length ≤ c0_2) (hr0_3 : Kd.C k29 w A0_3 l0_3.length l0_3) (hc0_3 : l0_3.length ≤ c0_3) (h : cellarlaw9_MemBack.f k l0_0 l0_1 l0_2 l0_3 = some r) :
  Calls Try.prog 9 #[.agg #[.slice A0_0 l0_0.length c0_0, .slice A0_1 l0_1.length c0_1, .slice A0_2 l0_2.length c0_2, .slice A0_3 l0_3.length c0_3]] w fun e w' => e = .returned (.bool r) ∧ Below w.heap.size w w' :=
  (cellarlaw9_MemBack.cut_.h ⟨(cellarlaw9_MemBack.cut_a.h ⟨(cellarlaw9_MemBack.cut_aa.h ⟨(cellarlaw9_MemBack.cut_aaa.h ⟨(cellarlaw9_MemBack.cut_aaaa.h ⟨(cellarlaw9_MemBack.cut_aaaaa.h ⟨cellarlaw9_MemBack.part_aaaaaa⟩ ⟨cellarlaw9_MemBack.part_aaaaab⟩)⟩ ⟨(cellarlaw9_MemBack.cut_aaaab.h ⟨(cellarlaw9_MemBack.cut_aaaaba.h ⟨(cellarlaw9_MemBack.cut_aaaabaa.h ⟨(cellarlaw9_MemBack.cut_aaaabaaa.h ⟨cellarlaw9_MemBack.part_aaaabaaaa⟩ ⟨(cellarlaw9_MemBack.cut_aaaabaaab.h ⟨(cellarlaw9_MemBack.cut_aaaabaaaba.h ⟨cellarlaw9_MemBack.part_aaaabaaabaa⟩)⟩)⟩)⟩)⟩)⟩)⟩)⟩)⟩)⟩)⟩) k A0_0 c0_0 l0_0 A0_1 c0_1 l0_1 A0_2 c0_2 l0_2 A0_3 c0_3 l0_3 r w hr0_0 hc0_0 hr0_1 hc0_1 hr0_2 hc0_2 hr0_3 hc0_3 h
end Go.Proofs.Ytjoplkillkhiaaa.Q2
