import Derived.Test.YtjoplkillkhiaaaItb
import Derived.Test.YtjoplkillkhiaaaQ2x0
import Derived.Test.YtjoplkillkhiaaaQ2x1
import Derived.Test.YtjoplkillkhiaaaQ2x2
import Derived.Test.YtjoplkillkhiaaaQ2x3
import Derived.Test.YtjoplkillkhiaaaQ2x6
import Derived.Test.YtjoplkillkhiaaaQ2x7
import Derived.Test.YtjoplkillkhiaaaQ2x10
import Derived.Test.YtjoplkillkhiaaaQ2x11
import Derived.Test.YtjoplkillkhiaaaYSq
import Derived.Test.YtjoplkillkhiaaaYSq2
import Derived.Test.YtjoplkillkhiaaaYSq3
import Derived.Test.YtjoplkillkhiaaaQ2x12
import Derived.Test.YtjoplkillkhiaaaCut
import Derived.Test.YtjoplkillkhiaaaQ2y
import Derived.Test.YtjoplkillkhiaaaQ2ya
import Derived.Test.YtjoplkillkhiaaaQ2yaa
import Derived.Test.YtjoplkillkhiaaaQ2yaaa
import Derived.Test.YtjoplkillkhiaaaQ2yaaaa
import Derived.Test.YtjoplkillkhiaaaQ2yaaaaa
-- Written by this session's own edition of the print.
namespace Go.Proofs.Ytjoplkillkhiaaa.Q2
open Go.Proofs.Ytjoplkillkhiaaa.Cuts Go.RowKit Go.Proofs.Ytjoplkillkhiaaa.Fn Go.Proofs.YtjoplkillkhiaaaW.PrintWords Go.Proofs.YtjoplkillkhiaaaW.PrintLast Go.Proofs.YtjoplkillkhiaaaW.PrintMore
set_option linter.unusedVariables false
set_option linter.unusedSimpArgs false
set_option maxHeartbeats 60000000 in
set_option maxRecDepth 100000 in
theorem cellarlaw9_MemBack.part_aaaaaa : cellarlaw9_MemBack.cut_aaaaa.P1 := by
 intro k c0_0 l0_0 A0_1 c0_1 l0_1 A0_2 c0_2 l0_2 A0_3 c0_3 l0_3 r w hu54 hu29 hu62 hu74 HC0_0 HR0_1 HC0_1 HR0_2 HC0_2 HR0_3 HC0_3 A2 q1_ gb279 w7 GW279 GE279 hfz8_0 hfz8_1 hfz8_2 hfz8_3 q2_ q3_ q4_ q5_ x3_1 k1 q7_ HK1 q8_ u30 u31 u32 u33 u34 u35 u36 u37 u39 u40 kj9 HJ9 c15b0 c16b0 t283 A17 t284 A18 c19b0 c19b1 t286 A20 hfz21_0 hfz21_1 hfz21_2 hfz21_3 ad282 A282_0 c282_0 HR0_0 hcz8_0 hcz8_1 hcz8_2 hcz8_3 q6_ hcz21_0 hcz21_1 hcz21_2 hcz21_3 hx282_0 HR282_0 HC282_0 p282 q282 q10_ q11_ nd A285_0 c285_0 hw285_0 HR285_0 HC285_0 p285 q285 w23 hx285_0 w24 e285 u19 u20 u21 u22 u23 u24 u25 u26 u27 q19_ q24_ q25_ q26_ q27_ q28_ q29_ q30_ q31_ q32_ q33_ q34_ q35_ q36_ q37_ q38_ q39_ q40_ q41_ q42_ q43_ q44_ q45_ q46_ q47_ q48_ q49_ q50_ q51_ q52_ q53_ q54_ q55_ q56_ q57_ q58_ q59_ q60_ q61_ q62_ q63_ q64_ q65_ q66_ q67_ q68_ q69_ q70_ q71_ q72_ q73_ q74_ q75_ q76_ q77_ q78_ q79_ q80_ q81_ q82_ q83_ q84_ q85_ q86_ q87_ q88_ q89_ q90_ q91_ q92_ q93_ q94_ q95_ q96_ q97_ q98_ q99_ q13_ q14_ x5_3 k3 q16_ HK3 c25b0 co26 q12_ q17_ gb289 w27 GW289 GE289 NB279_289 NB289_279 hnb28 hnc28 hcz29_0 hcz29_1 hfz29_0 hfz29_1 u2 u8 u9 u10 u11 u12 u13 u14 u15 u16 u17 u18 q20_ q21_ x7_4 k4 q23_ HK4 c30b0 c140b0 c141b0 c142b0 c143b0 t330 t331 t332 t333 t334 t335 A144 A328_0 c328_0 hw328_0 HR328_0 HC328_0 p328 q328 ad329 HO288 q15_ q22_ p329 q329 w146 hx328_0 hx329_0 hx329_1 hx329_2 hx329_3 gb336 w149 GW336 GE336 NB279_336 NB336_279 NB289_336 NB336_289 hs150 hfs150 hns150_0 hns150_1 hms150_0 hms150_1 hs151 hfs151 hns151_0 hns151_1 hms151_0 hms151_1 hs152 hfs152 hns152_0 hns152_1 hms152_0 hms152_1 hs153 hfs153 hns153_0 hns153_1 hms153_0 hms153_1 u56 u57 u58 u59 u60 u61 u62 u63 u64 u65 u66 u67 u68 u69 u70 u71 u72 u73 u74 u75 u76 u77 u78 u79 u80 u81 u82 u83 u84 u85 u86 u87 u88 u89 u90 u91 u92 u93 u94 u95 u96 u97 u98 u99 u100 u101 u102 u103 u104 u105 u106 u107 u108 u109 u110 u111 u112 u113 u114 u115 u116 u117 u118 u119 u120 u121 u122 u123 u124 u125 u126 u127 u128 u129 u130 u131 u132 u133 u134 u135 u136 u137 u138 u139 u140 u141 u142 u143 u144 u145 u146 u147 u148 u149 u150 u151 u152 u153 u154 u155 u156 u157 u158 u159 u160 u161 u162 u163 u164 u165 u166 u167 u168 u169 u170 u171 u172 u173 u174 u175 u176 u177 u178 u179 u180 u181 u182 u183 u184 u185 u186 u187 u188 u189 u190 u191 u192 u193 u194 u195 u196 u197 u198 u199 u200 u201 u202 u203 u204 u205 u206 u207 u208 u209 u210 u211 u212 u213 u214 u215 u216 u217 u218 u219 u220 u221 u222 u223 u224 u225 u226 u227 u228 u229 u230 u231 u232 u233 u234 u235 u236 u237 u238 u239 u240 u241 u242 u243 u244 u245 u246 u247 u248 u249 u250 u251 u252 u253 u254 u255 u256 u257 u258 u259 u260 u261 u262 u263 u264 u265 u266 u267 u268 u269 u270 u271 u272 u273 u274 u275 u276 u277 u278 u306 u307 u308 u309 u310 u311 u312 u313 u314 u315 u316 u317 u318 u319 u320 u321 u322 u323 u324 u325 u326 u327 u328 u329 u330 u331 u332 u333 kj144 HJ144 c157b0 c158b0 t339 t340 t341 t342 t343 t344 A159 c160b0 c161b0 t348 t349 t350 A162 HC163 e328 A338_0 c338_0 hw338_0 HR338_0 HC338_0 p338 q338 w164 hx338_0 gb345 w167 hS_ GW345 GE345 NB279_345 NB345_279 NB289_345 NB345_289 NB336_345 NB345_336 hs168 hfs168 hns168_0 hns168_1 hns168_2 hms168_0 hms168_1 hms168_2 hs169 hfs169 hns169_0 hns169_1 hns169_2 hms169_0 hms169_1 hms169_2 hs170 hfs170 hns170_0
 intro hns170_1 hns170_2 hms170_0 hms170_1 hms170_2 hs171 hfs171 hns171_0 hns171_1 hns171_2 hms171_0 hms171_1 hms171_2 e338 A346_0 c346_0 e346 hw346_0 HR346_0 HC346_0 p346 q346 e347 p347 q347 HT_ HW_ w173 hx346_0 hx347_0 hx347_1 hx347_2 hx347_3 w174 HS9_ HS10_ HS11_ HS12_ HO_4 BK279 BK289 BK336 BK345 HB hHeld q110_ q111_ q112_ q113_
 have H := HC163.out
 clear HC163
 replace H := Option.bind_eq_some_iff.mp H
 obtain ⟨t351, A1750, H⟩ := H
 replace H : (if t351 = 0 then ((cellarlaw9_num.f t350).bind fun t352 => (if t352 = 0 then (if t343 = 0 then (if t349 = 0 then (if (!(t339 == ((rd_T62 t286 x5_3).f0)) || (!(t340 == ((rd_T62 t286 x5_3).f1)) || (!(t341 == ((rd_T62 t286 x5_3).f2)) || (!(t342 == ((rd_T62 t286 x5_3).f3)))))) = true then (cellarlaw9_MemBack.j12 kj144 x3_1 t286 x5_3 true l0_0 l0_1 l0_2 l0_3) else (cellarlaw9_MemBack.j12 kj144 x3_1 t286 x5_3 (t348 != 1) l0_0 l0_1 l0_2 l0_3)) else (cellarlaw9_MemBack.j12 kj144 x3_1 t286 x5_3 true l0_0 l0_1 l0_2 l0_3)) else (cellarlaw9_MemBack.j12 kj144 x3_1 t286 x5_3 true l0_0 l0_1 l0_2 l0_3)) else (cellarlaw9_MemBack.j12 kj144 x3_1 t286 x5_3 true l0_0 l0_1 l0_2 l0_3))) else (cellarlaw9_MemBack.j12 kj144 x3_1 t286 x5_3 true l0_0 l0_1 l0_2 l0_3)) = some r := H
 have A175 := Aside0.mk A1750
 clear A1750
 by_cases c176 : t351 = 0
 rotate_left
 ·rw [if_neg c176] at H
  have c176b0 : (t351 == 0) = false := beq_eq_false_iff_ne.mpr c176
  have c176b1 : (t351 != 0) = true := bne_iff_ne.mpr c176
  (first | rw [c176b0] | rw [c176b1] | (simp only [i64_w, i32_w]; rw [c176b0]) | skip)
  have H' := Aside0.mk H
  clear H
  try go_wp2
  have n0_ := Aside0.mk (Kd.R_drew HO_4.out)
  have n1_ := Aside0.mk (blk_drew BK279.out)
  have n2_ := Aside0.mk (blk_drew BK289.out)
  have n3_ := Aside0.mk (blk_drew BK336.out)
  have n4_ := Aside0.mk (blk_drew BK345.out)
  have n5_ := Aside0.mk (below_drew1 HB.out)
  clear HO_4
  clear BK279
  clear BK289
  clear BK336
  clear BK345
  clear HB
  have HO_4 := n0_
  have BK279 := n1_
  have BK289 := n2_
  have BK336 := n3_
  have BK345 := n4_
  have HB := n5_
  clear n0_ n1_ n2_ n3_ n4_ n5_
  refine start_ (n := 28) (S := fun w' => True) (ds := []) cellarlaw9_MemBack.b174 (by kernel_rfl) rfl rfl trivial (fun hHeld => ?_); refine with_tabW cellarlaw9_MemBack.tab41 cellarlaw9_MemBack.bits41 (fun HT_ HW_ => ?_)
  generalize w174.drew = w187 at HO_4 BK279 BK289 BK336 BK345 HB hHeld ⊢
  refine zq 0 (some 306) HT_ ?_
  refine one_ (i := 1) (N := some 307) cellarlaw9_MemBack.b176 rfl rfl (one_of HT_.out (by kernel_rfl)) (by decide) (fun K hK => ?_)
  refine goes_ Try.func35 (by kernel_rfl) rfl #[.int .i64 t344] (by rfl) rfl rfl (by (try simp only [List.map_toArray, List.map_cons, List.map_nil]); first | done | rfl | (simp only [List.length_drop, List.length_take]; rfl)) ?_
  with_reducible refine (cellarlaw9_num.calls t344 t351 _ A175.out).mono ?_
  rintro e w' ⟨rfl, ⟨nd, rfl⟩⟩
  refine ⟨_, rfl, ?_⟩
  refine hK.out _ _ trivial (fun hHeld => ?_)
  clear hK K
  refine norm_ (a' := ?_) ?_ ?_
  rotate_left
  ·show Act.put _ (some 307) _ = _
   simp only [Act.put, List.setIfInBounds_toArray, List.set_cons_zero, List.set_cons_succ, i64_w, i32_w]
   rfl
  refine zq 2 (some 308) HT_ ?_; refine zq 3 (some 309) HT_ ?_; refine zu 4 (some 310) HT_ ?_; refine zu 5 (some 311) HT_ ?_; refine zu 6 (some 312) HT_ ?_; refine zq 7 (some 313) HT_ ?_; refine zq 8 (some 314) HT_ ?_; refine zu 9 (some 315) HT_ ?_; refine zu 10 (some 316) HT_ ?_; refine zq 11 (some 317) HT_ ?_; refine zq 12 (some 318) HT_ ?_; refine zu 13 (some 319) HT_ ?_; refine zu 14 (some 320) HT_ ?_; refine zq 15 (some 321) HT_ ?_; refine zq 16 (some 322) HT_ ?_; refine zu 17 (some 323) HT_ ?_; refine zu 18 (some 324) HT_ ?_; refine zu 19 (some 325) HT_ ?_; refine zu 20 (some 326) HT_ ?_; refine zu 21 (some 327) HT_ ?_; refine zu 22 (some 328) HT_ ?_; refine zq 23 (some 329) HT_ ?_; refine zq 24 (some 330) HT_ ?_; refine zu 25 (some 331) HT_ ?_; refine zu 26 (some 332) HT_ ?_; refine zq 27 (some 333) HT_ ?_
  refine done_ (done_of HT_.out (by kernel_rfl)) ?_
  try go_wp2
  go_meet
  case rel => exact ⟨_, (true), (zr), H', ⟨by have := HK1.out; have := HJ9.out; have := HK3.out; have := HK4.out; have := HJ144.out; first | omega | exact Nat.le_refl _⟩, ⟨by (with_reducible repeat (first | apply Kd.R_alloc | apply Kd.R_drewN | apply Kd.R_drew)); exact HO_4.out⟩, ⟨zb BK279.out⟩, ⟨zb BK289.out⟩, ⟨zb BK336.out⟩, ⟨zb BK345.out⟩, ⟨zw4 HB.out GE279.out GE289.out GE336.out GE345.out⟩⟩
 rw [if_pos c176] at H
 have c176b0 : (t351 == 0) = true := beq_iff_eq.mpr c176
 have c176b1 : (t351 != 0) = false := bne_eq_false_iff_eq.mpr c176
 clear c176
 (first | rw [c176b0] | rw [c176b1] | (simp only [i64_w, i32_w]; rw [c176b0]) | skip)
 replace H := Option.bind_eq_some_iff.mp H
 obtain ⟨t352, A1770, H⟩ := H
 replace H : (if t352 = 0 then (if t343 = 0 then (if t349 = 0 then (if (!(t339 == ((rd_T62 t286 x5_3).f0)) || (!(t340 == ((rd_T62 t286 x5_3).f1)) || (!(t341 == ((rd_T62 t286 x5_3).f2)) || (!(t342 == ((rd_T62 t286 x5_3).f3)))))) = true then (cellarlaw9_MemBack.j12 kj144 x3_1 t286 x5_3 true l0_0 l0_1 l0_2 l0_3) else (cellarlaw9_MemBack.j12 kj144 x3_1 t286 x5_3 (t348 != 1) l0_0 l0_1 l0_2 l0_3)) else (cellarlaw9_MemBack.j12 kj144 x3_1 t286 x5_3 true l0_0 l0_1 l0_2 l0_3)) else (cellarlaw9_MemBack.j12 kj144 x3_1 t286 x5_3 true l0_0 l0_1 l0_2 l0_3)) else (cellarlaw9_MemBack.j12 kj144 x3_1 t286 x5_3 true l0_0 l0_1 l0_2 l0_3)) = some r := H
 have A177 := Aside0.mk A1770
 clear A1770
 by_cases c178 : t352 = 0
 rotate_left
 ·rw [if_neg c178] at H
  have c178b0 : (t352 == 0) = false := beq_eq_false_iff_ne.mpr c178
  have c178b1 : (t352 != 0) = true := bne_iff_ne.mpr c178
  have H' := Aside0.mk H
  clear H
  try go_wp2
  have n0_ := Aside0.mk (Kd.R_drew HO_4.out)
  have n1_ := Aside0.mk (blk_drew BK279.out)
  have n2_ := Aside0.mk (blk_drew BK289.out)
  have n3_ := Aside0.mk (blk_drew BK336.out)
  have n4_ := Aside0.mk (blk_drew BK345.out)
  have n5_ := Aside0.mk (below_drew1 HB.out)
  clear HO_4
  clear BK279
  clear BK289
  clear BK336
  clear BK345
  clear HB
  have HO_4 := n0_
  have BK279 := n1_
  have BK289 := n2_
  have BK336 := n3_
  have BK345 := n4_
  have HB := n5_
  clear n0_ n1_ n2_ n3_ n4_ n5_
  refine start_ (n := 28) (S := fun w' => True) (ds := []) cellarlaw9_MemBack.b174 (by kernel_rfl) rfl rfl trivial (fun hHeld => ?_); refine with_tabW cellarlaw9_MemBack.tab41 cellarlaw9_MemBack.bits41 (fun HT_ HW_ => ?_)
  generalize w174.drew = w186 at HO_4 BK279 BK289 BK336 BK345 HB hHeld ⊢
  refine zq 0 (some 306) HT_ ?_
  refine one_ (i := 1) (N := some 307) cellarlaw9_MemBack.b176 rfl rfl (one_of HT_.out (by kernel_rfl)) (by decide) (fun K hK => ?_)
  refine goes_ Try.func35 (by kernel_rfl) rfl #[.int .i64 t344] (by rfl) rfl rfl (by (try simp only [List.map_toArray, List.map_cons, List.map_nil]); first | done | rfl | (simp only [List.length_drop, List.length_take]; rfl)) ?_
  with_reducible refine (cellarlaw9_num.calls t344 t351 _ A175.out).mono ?_
  rintro e w' ⟨rfl, ⟨nd, rfl⟩⟩
  refine ⟨_, rfl, ?_⟩
  refine hK.out _ _ trivial (fun hHeld => ?_)
  clear hK K
  refine norm_ (a' := ?_) ?_ ?_
  rotate_left
  ·show Act.put _ (some 307) _ = _
   simp only [Act.put, List.setIfInBounds_toArray, List.set_cons_zero, List.set_cons_succ, i64_w, i32_w]
   rfl
  refine zq 2 (some 308) HT_ ?_; refine zq 3 (some 309) HT_ ?_; refine zq 4 (some 310) HT_ ?_
  refine one_ (i := 5) (N := some 311) cellarlaw9_MemBack.b180 rfl rfl (one_of HT_.out (by kernel_rfl)) (by decide) (fun K hK => ?_)
  refine goes_ Try.func35 (by kernel_rfl) rfl #[.int .i64 t350] (by rfl) rfl rfl (by (try simp only [List.map_toArray, List.map_cons, List.map_nil]); first | done | rfl | (simp only [List.length_drop, List.length_take]; rfl)) ?_
  with_reducible refine (cellarlaw9_num.calls t350 t352 _ A177.out).mono ?_
  rintro e w' ⟨rfl, ⟨nd, rfl⟩⟩
  refine ⟨_, rfl, ?_⟩
  refine hK.out _ _ trivial (fun hHeld => ?_)
  clear hK K
  refine norm_ (a' := ?_) ?_ ?_
  rotate_left
  ·show Act.put _ (some 311) _ = _
   simp only [Act.put, List.setIfInBounds_toArray, List.set_cons_zero, List.set_cons_succ, i64_w, i32_w]
   rfl
  refine zq 6 (some 312) HT_ ?_; refine zq 7 (some 313) HT_ ?_; refine zq 8 (some 314) HT_ ?_; refine zu 9 (some 315) HT_ ?_; refine zu 10 (some 316) HT_ ?_; refine zq 11 (some 317) HT_ ?_; refine zq 12 (some 318) HT_ ?_; refine zu 13 (some 319) HT_ ?_; refine zu 14 (some 320) HT_ ?_; refine zq 15 (some 321) HT_ ?_; refine zq 16 (some 322) HT_ ?_; refine zu 17 (some 323) HT_ ?_; refine zu 18 (some 324) HT_ ?_; refine zu 19 (some 325) HT_ ?_; refine zu 20 (some 326) HT_ ?_; refine zu 21 (some 327) HT_ ?_; refine zu 22 (some 328) HT_ ?_; refine zq 23 (some 329) HT_ ?_; refine zq 24 (some 330) HT_ ?_; refine zu 25 (some 331) HT_ ?_; refine zu 26 (some 332) HT_ ?_; refine zq 27 (some 333) HT_ ?_
  refine done_ (done_of HT_.out (by kernel_rfl)) ?_
  try go_wp2
  go_meet
  case rel => exact ⟨_, (true), (zr), H', ⟨by have := HK1.out; have := HJ9.out; have := HK3.out; have := HK4.out; have := HJ144.out; first | omega | exact Nat.le_refl _⟩, ⟨by (with_reducible repeat (first | apply Kd.R_alloc | apply Kd.R_drewN | apply Kd.R_drew)); exact HO_4.out⟩, ⟨zb BK279.out⟩, ⟨zb BK289.out⟩, ⟨zb BK336.out⟩, ⟨zb BK345.out⟩, ⟨zw4 HB.out GE279.out GE289.out GE336.out GE345.out⟩⟩
 rw [if_pos c178] at H
 have c178b0 : (t352 == 0) = true := beq_iff_eq.mpr c178
 have c178b1 : (t352 != 0) = false := bne_eq_false_iff_eq.mpr c178
 clear c178
 by_cases c179 : t343 = 0
 rotate_left
 ·rw [if_neg c179] at H
  have c179b0 : (t343 == 0) = false := beq_eq_false_iff_ne.mpr c179
  have c179b1 : (t343 != 0) = true := bne_iff_ne.mpr c179
  have H' := Aside0.mk H
  clear H
  try go_wp2
  have n0_ := Aside0.mk (Kd.R_drew HO_4.out)
  have n1_ := Aside0.mk (blk_drew BK279.out)
  have n2_ := Aside0.mk (blk_drew BK289.out)
  have n3_ := Aside0.mk (blk_drew BK336.out)
  have n4_ := Aside0.mk (blk_drew BK345.out)
  have n5_ := Aside0.mk (below_drew1 HB.out)
  clear HO_4
  clear BK279
  clear BK289
  clear BK336
  clear BK345
  clear HB
  have HO_4 := n0_
  have BK279 := n1_
  have BK289 := n2_
  have BK336 := n3_
  have BK345 := n4_
  have HB := n5_
  clear n0_ n1_ n2_ n3_ n4_ n5_
  refine start_ (n := 28) (S := fun w' => True) (ds := []) cellarlaw9_MemBack.b174 (by kernel_rfl) rfl rfl trivial (fun hHeld => ?_); refine with_tabW cellarlaw9_MemBack.tab41 cellarlaw9_MemBack.bits41 (fun HT_ HW_ => ?_)
  generalize w174.drew = w185 at HO_4 BK279 BK289 BK336 BK345 HB hHeld ⊢
  refine zq 0 (some 306) HT_ ?_
  refine one_ (i := 1) (N := some 307) cellarlaw9_MemBack.b176 rfl rfl (one_of HT_.out (by kernel_rfl)) (by decide) (fun K hK => ?_)
  refine goes_ Try.func35 (by kernel_rfl) rfl #[.int .i64 t344] (by rfl) rfl rfl (by (try simp only [List.map_toArray, List.map_cons, List.map_nil]); first | done | rfl | (simp only [List.length_drop, List.length_take]; rfl)) ?_
  with_reducible refine (cellarlaw9_num.calls t344 t351 _ A175.out).mono ?_
  rintro e w' ⟨rfl, ⟨nd, rfl⟩⟩
  refine ⟨_, rfl, ?_⟩
  refine hK.out _ _ trivial (fun hHeld => ?_)
  clear hK K
  refine norm_ (a' := ?_) ?_ ?_
  rotate_left
  ·show Act.put _ (some 307) _ = _
   simp only [Act.put, List.setIfInBounds_toArray, List.set_cons_zero, List.set_cons_succ, i64_w, i32_w]
   rfl
  refine zq 2 (some 308) HT_ ?_; refine zq 3 (some 309) HT_ ?_; refine zq 4 (some 310) HT_ ?_
  refine one_ (i := 5) (N := some 311) cellarlaw9_MemBack.b180 rfl rfl (one_of HT_.out (by kernel_rfl)) (by decide) (fun K hK => ?_)
  refine goes_ Try.func35 (by kernel_rfl) rfl #[.int .i64 t350] (by rfl) rfl rfl (by (try simp only [List.map_toArray, List.map_cons, List.map_nil]); first | done | rfl | (simp only [List.length_drop, List.length_take]; rfl)) ?_
  with_reducible refine (cellarlaw9_num.calls t350 t352 _ A177.out).mono ?_
  rintro e w' ⟨rfl, ⟨nd, rfl⟩⟩
  refine ⟨_, rfl, ?_⟩
  refine hK.out _ _ trivial (fun hHeld => ?_)
  clear hK K
  refine norm_ (a' := ?_) ?_ ?_
  rotate_left
  ·show Act.put _ (some 311) _ = _
   simp only [Act.put, List.setIfInBounds_toArray, List.set_cons_zero, List.set_cons_succ, i64_w, i32_w]
   rfl
  refine zq 6 (some 312) HT_ ?_; refine zq 7 (some 313) HT_ ?_; refine zq 8 (some 314) HT_ ?_; refine zq 9 (some 315) HT_ ?_; refine zq 10 (some 316) HT_ ?_; refine zq 11 (some 317) HT_ ?_; refine zq 12 (some 318) HT_ ?_; refine zu 13 (some 319) HT_ ?_; refine zu 14 (some 320) HT_ ?_; refine zq 15 (some 321) HT_ ?_; refine zq 16 (some 322) HT_ ?_; refine zu 17 (some 323) HT_ ?_; refine zu 18 (some 324) HT_ ?_; refine zu 19 (some 325) HT_ ?_; refine zu 20 (some 326) HT_ ?_; refine zu 21 (some 327) HT_ ?_; refine zu 22 (some 328) HT_ ?_; refine zq 23 (some 329) HT_ ?_; refine zq 24 (some 330) HT_ ?_; refine zu 25 (some 331) HT_ ?_; refine zu 26 (some 332) HT_ ?_; refine zq 27 (some 333) HT_ ?_
  refine done_ (done_of HT_.out (by kernel_rfl)) ?_
  try go_wp2
  go_meet
  case rel => exact ⟨_, (true), (zr), H', ⟨by have := HK1.out; have := HJ9.out; have := HK3.out; have := HK4.out; have := HJ144.out; first | omega | exact Nat.le_refl _⟩, ⟨by (with_reducible repeat (first | apply Kd.R_alloc | apply Kd.R_drewN | apply Kd.R_drew)); exact HO_4.out⟩, ⟨zb BK279.out⟩, ⟨zb BK289.out⟩, ⟨zb BK336.out⟩, ⟨zb BK345.out⟩, ⟨zw4 HB.out GE279.out GE289.out GE336.out GE345.out⟩⟩
 rw [if_pos c179] at H
 have c179b0 : (t343 == 0) = true := beq_iff_eq.mpr c179
 have c179b1 : (t343 != 0) = false := bne_eq_false_iff_eq.mpr c179
 clear c179
 by_cases c180 : t349 = 0
 rotate_left
 ·rw [if_neg c180] at H
  have c180b0 : (t349 == 0) = false := beq_eq_false_iff_ne.mpr c180
  have c180b1 : (t349 != 0) = true := bne_iff_ne.mpr c180
  have H' := Aside0.mk H
  clear H
  try go_wp2
  have n0_ := Aside0.mk (Kd.R_drew HO_4.out)
  have n1_ := Aside0.mk (blk_drew BK279.out)
  have n2_ := Aside0.mk (blk_drew BK289.out)
  have n3_ := Aside0.mk (blk_drew BK336.out)
  have n4_ := Aside0.mk (blk_drew BK345.out)
  have n5_ := Aside0.mk (below_drew1 HB.out)
  clear HO_4
  clear BK279
  clear BK289
  clear BK336
  clear BK345
  clear HB
  have HO_4 := n0_
  have BK279 := n1_
  have BK289 := n2_
  have BK336 := n3_
  have BK345 := n4_
  have HB := n5_
  clear n0_ n1_ n2_ n3_ n4_ n5_
  refine start_ (n := 28) (S := fun w' => True) (ds := []) cellarlaw9_MemBack.b174 (by kernel_rfl) rfl rfl trivial (fun hHeld => ?_); refine with_tabW cellarlaw9_MemBack.tab41 cellarlaw9_MemBack.bits41 (fun HT_ HW_ => ?_)
  generalize w174.drew = w184 at HO_4 BK279 BK289 BK336 BK345 HB hHeld ⊢
  refine zq 0 (some 306) HT_ ?_
  refine one_ (i := 1) (N := some 307) cellarlaw9_MemBack.b176 rfl rfl (one_of HT_.out (by kernel_rfl)) (by decide) (fun K hK => ?_)
  refine goes_ Try.func35 (by kernel_rfl) rfl #[.int .i64 t344] (by rfl) rfl rfl (by (try simp only [List.map_toArray, List.map_cons, List.map_nil]); first | done | rfl | (simp only [List.length_drop, List.length_take]; rfl)) ?_
  with_reducible refine (cellarlaw9_num.calls t344 t351 _ A175.out).mono ?_
  rintro e w' ⟨rfl, ⟨nd, rfl⟩⟩
  refine ⟨_, rfl, ?_⟩
  refine hK.out _ _ trivial (fun hHeld => ?_)
  clear hK K
  refine norm_ (a' := ?_) ?_ ?_
  rotate_left
  ·show Act.put _ (some 307) _ = _
   simp only [Act.put, List.setIfInBounds_toArray, List.set_cons_zero, List.set_cons_succ, i64_w, i32_w]
   rfl
  refine zq 2 (some 308) HT_ ?_; refine zq 3 (some 309) HT_ ?_; refine zq 4 (some 310) HT_ ?_
  refine one_ (i := 5) (N := some 311) cellarlaw9_MemBack.b180 rfl rfl (one_of HT_.out (by kernel_rfl)) (by decide) (fun K hK => ?_)
  refine goes_ Try.func35 (by kernel_rfl) rfl #[.int .i64 t350] (by rfl) rfl rfl (by (try simp only [List.map_toArray, List.map_cons, List.map_nil]); first | done | rfl | (simp only [List.length_drop, List.length_take]; rfl)) ?_
  with_reducible refine (cellarlaw9_num.calls t350 t352 _ A177.out).mono ?_
  rintro e w' ⟨rfl, ⟨nd, rfl⟩⟩
  refine ⟨_, rfl, ?_⟩
  refine hK.out _ _ trivial (fun hHeld => ?_)
  clear hK K
  refine norm_ (a' := ?_) ?_ ?_
  rotate_left
  ·show Act.put _ (some 311) _ = _
   simp only [Act.put, List.setIfInBounds_toArray, List.set_cons_zero, List.set_cons_succ, i64_w, i32_w]
   rfl
  refine zq 6 (some 312) HT_ ?_; refine zq 7 (some 313) HT_ ?_; refine zq 8 (some 314) HT_ ?_; refine zq 9 (some 315) HT_ ?_; refine zq 10 (some 316) HT_ ?_; refine zq 11 (some 317) HT_ ?_; refine zq 12 (some 318) HT_ ?_; refine zq 13 (some 319) HT_ ?_; refine zq 14 (some 320) HT_ ?_; refine zq 15 (some 321) HT_ ?_; refine zq 16 (some 322) HT_ ?_; refine zu 17 (some 323) HT_ ?_; refine zu 18 (some 324) HT_ ?_; refine zu 19 (some 325) HT_ ?_; refine zu 20 (some 326) HT_ ?_; refine zu 21 (some 327) HT_ ?_; refine zu 22 (some 328) HT_ ?_; refine zq 23 (some 329) HT_ ?_; refine zq 24 (some 330) HT_ ?_; refine zu 25 (some 331) HT_ ?_; refine zu 26 (some 332) HT_ ?_; refine zq 27 (some 333) HT_ ?_
  refine done_ (done_of HT_.out (by kernel_rfl)) ?_
  try go_wp2
  go_meet
  case rel => exact ⟨_, (true), (zr), H', ⟨by have := HK1.out; have := HJ9.out; have := HK3.out; have := HK4.out; have := HJ144.out; first | omega | exact Nat.le_refl _⟩, ⟨by (with_reducible repeat (first | apply Kd.R_alloc | apply Kd.R_drewN | apply Kd.R_drew)); exact HO_4.out⟩, ⟨zb BK279.out⟩, ⟨zb BK289.out⟩, ⟨zb BK336.out⟩, ⟨zb BK345.out⟩, ⟨zw4 HB.out GE279.out GE289.out GE336.out GE345.out⟩⟩
 rw [if_pos c180] at H
 have c180b0 : (t349 == 0) = true := beq_iff_eq.mpr c180
 have c180b1 : (t349 != 0) = false := bne_eq_false_iff_eq.mpr c180
 clear c180
 by_cases c181 : (!(t339 == ((rd_T62 t286 x5_3).f0)) || (!(t340 == ((rd_T62 t286 x5_3).f1)) || (!(t341 == ((rd_T62 t286 x5_3).f2)) || (!(t342 == ((rd_T62 t286 x5_3).f3)))))) = true
 rotate_left
 ·rw [if_neg c181] at H
  have c181b0 : (!(t339 == ((rd_T62 t286 x5_3).f0)) || (!(t340 == ((rd_T62 t286 x5_3).f1)) || (!(t341 == ((rd_T62 t286 x5_3).f2)) || (!(t342 == ((rd_T62 t286 x5_3).f3)))))) = false := by simpa using c181
  have c181e_ : t339 = ((rd_T62 t286 x5_3).f0) ∧ t340 = ((rd_T62 t286 x5_3).f1) ∧ t341 = ((rd_T62 t286 x5_3).f2) ∧ t342 = ((rd_T62 t286 x5_3).f3) := by simpa using c181b0
  obtain ⟨c181e0, c181e1, c181e2, c181e3⟩ := c181e_
  replace c181e0 := eq_true c181e0
  replace c181e1 := eq_true c181e1
  replace c181e2 := eq_true c181e2
  replace c181e3 := eq_true c181e3
  clear c181
  have H' := Aside0.mk H
  clear H
  try go_wp2
  have n0_ := Aside0.mk (Kd.R_drew HO_4.out)
  have n1_ := Aside0.mk (blk_drew BK279.out)
  have n2_ := Aside0.mk (blk_drew BK289.out)
  have n3_ := Aside0.mk (blk_drew BK336.out)
  have n4_ := Aside0.mk (blk_drew BK345.out)
  have n5_ := Aside0.mk (below_drew1 HB.out)
  clear HO_4
  clear BK279
  clear BK289
  clear BK336
  clear BK345
  clear HB
  have HO_4 := n0_
  have BK279 := n1_
  have BK289 := n2_
  have BK336 := n3_
  have BK345 := n4_
  have HB := n5_
  clear n0_ n1_ n2_ n3_ n4_ n5_
  have p353 : 0 ≤ (x5_3 : Int) := zdec
  have q353 : x5_3 < (t286.length : Int) := zdec
  obtain ⟨ad353, e353, hx353_0, hx353_1, hx353_2, hx353_3⟩ := at_T62 (Kd.R_reads' HO_4.out).2.2 x5_3 p353 q353
  obtain rfl : ad329 = ad353 := (by injection e353)
  replace p353 := eq_true p353
  replace q353 := eq_true q353
  refine start_ (n := 28) (S := fun w' => w'.cell? ⟨gb345, 0, none⟩ = some (.bool t339) ∧ w'.cell? ⟨gb345, 1, none⟩ = some (.int .i64 t340) ∧ w'.cell? ⟨gb345, 2, none⟩ = some (.int .i64 t341) ∧ w'.cell? ⟨gb345, 3, none⟩ = some (.int .i64 t342) ∧ w'.cell? (ad329.add ((x5_3).toNat * 4)) = some (.bool ((rd_T62 t286 x5_3).f0)) ∧ w'.cell? ⟨(ad329.add ((x5_3).toNat * 4)).block, (ad329.add ((x5_3).toNat * 4)).off + 1, none⟩ = some (.int .i64 ((rd_T62 t286 x5_3).f1)) ∧ w'.cell? ⟨(ad329.add ((x5_3).toNat * 4)).block, (ad329.add ((x5_3).toNat * 4)).off + 2, none⟩ = some (.int .i64 ((rd_T62 t286 x5_3).f2)) ∧ w'.cell? ⟨(ad329.add ((x5_3).toNat * 4)).block, (ad329.add ((x5_3).toNat * 4)).off + 3, none⟩ = some (.int .i64 ((rd_T62 t286 x5_3).f3))) (ds := []) cellarlaw9_MemBack.b174 (by kernel_rfl) rfl rfl ⟨(blk_cell BK345.out 0).trans rfl, (blk_cell BK345.out 1).trans rfl, (blk_cell BK345.out 2).trans rfl, (blk_cell BK345.out 3).trans rfl, hx353_0, hx353_1, hx353_2, hx353_3⟩ (fun hHeld => ?_); refine with_tabW cellarlaw9_MemBack.tab41 cellarlaw9_MemBack.bits41 (fun HT_ HW_ => ?_)
  generalize w174.drew = w183 at HO_4 BK279 BK289 BK336 BK345 HB hx353_0 hx353_1 hx353_2 hx353_3 hHeld ⊢
  refine zq 0 (some 306) HT_ ?_
  refine one_ (i := 1) (N := some 307) cellarlaw9_MemBack.b176 rfl rfl (one_of HT_.out (by kernel_rfl)) (by decide) (fun K hK => ?_)
  refine goes_ Try.func35 (by kernel_rfl) rfl #[.int .i64 t344] (by rfl) rfl rfl (by (try simp only [List.map_toArray, List.map_cons, List.map_nil]); first | done | rfl | (simp only [List.length_drop, List.length_take]; rfl)) ?_
  with_reducible refine (cellarlaw9_num.calls t344 t351 _ A175.out).mono ?_
  rintro e w' ⟨rfl, ⟨nd, rfl⟩⟩
  refine ⟨_, rfl, ?_⟩
  refine hK.out _ _ ⟨(blk_cell BK345.out 0).trans rfl, (blk_cell BK345.out 1).trans rfl, (blk_cell BK345.out 2).trans rfl, (blk_cell BK345.out 3).trans rfl, hHeld.2.2.2.2.1, hHeld.2.2.2.2.2.1, hHeld.2.2.2.2.2.2.1, hHeld.2.2.2.2.2.2.2⟩ (fun hHeld => ?_)
  clear hK K
  refine norm_ (a' := ?_) ?_ ?_
  rotate_left
  ·show Act.put _ (some 307) _ = _
   simp only [Act.put, List.setIfInBounds_toArray, List.set_cons_zero, List.set_cons_succ, i64_w, i32_w]
   rfl
  refine zq 2 (some 308) HT_ ?_; refine zq 3 (some 309) HT_ ?_; refine zq 4 (some 310) HT_ ?_
  refine one_ (i := 5) (N := some 311) cellarlaw9_MemBack.b180 rfl rfl (one_of HT_.out (by kernel_rfl)) (by decide) (fun K hK => ?_)
  refine goes_ Try.func35 (by kernel_rfl) rfl #[.int .i64 t350] (by rfl) rfl rfl (by (try simp only [List.map_toArray, List.map_cons, List.map_nil]); first | done | rfl | (simp only [List.length_drop, List.length_take]; rfl)) ?_
  with_reducible refine (cellarlaw9_num.calls t350 t352 _ A177.out).mono ?_
  rintro e w' ⟨rfl, ⟨nd, rfl⟩⟩
  refine ⟨_, rfl, ?_⟩
  refine hK.out _ _ ⟨(blk_cell BK345.out 0).trans rfl, (blk_cell BK345.out 1).trans rfl, (blk_cell BK345.out 2).trans rfl, (blk_cell BK345.out 3).trans rfl, hHeld.2.2.2.2.1, hHeld.2.2.2.2.2.1, hHeld.2.2.2.2.2.2.1, hHeld.2.2.2.2.2.2.2⟩ (fun hHeld => ?_)
  clear hK K
  refine norm_ (a' := ?_) ?_ ?_
  rotate_left
  ·show Act.put _ (some 311) _ = _
   simp only [Act.put, List.setIfInBounds_toArray, List.set_cons_zero, List.set_cons_succ, i64_w, i32_w]
   rfl
  refine zq 6 (some 312) HT_ ?_; refine zq 7 (some 313) HT_ ?_; refine zq 8 (some 314) HT_ ?_; refine zq 9 (some 315) HT_ ?_; refine zq 10 (some 316) HT_ ?_; refine zq 11 (some 317) HT_ ?_; refine zq 12 (some 318) HT_ ?_; refine zq 13 (some 319) HT_ ?_; refine zq 14 (some 320) HT_ ?_; refine zq 15 (some 321) HT_ ?_; refine zq 16 (some 322) HT_ ?_; refine zq 18 (some 324) HT_ ?_; refine zq 19 (some 325) HT_ ?_; refine zq 20 (some 326) HT_ ?_; refine zt 17 (some 323) HT_ HW_ hHeld ?_; refine zt 21 (some 327) HT_ HW_ hHeld ?_; refine zq 22 (some 328) HT_ ?_; refine zq 23 (some 329) HT_ ?_; refine zq 24 (some 330) HT_ ?_; refine zq 25 (some 331) HT_ ?_; refine zq 26 (some 332) HT_ ?_; refine zq 27 (some 333) HT_ ?_
  refine done_ (done_of HT_.out (by kernel_rfl)) ?_
  try go_wp2
  go_meet
  case rel => exact ⟨_, ((t348 != 1)), (zr), H', ⟨by have := HK1.out; have := HJ9.out; have := HK3.out; have := HK4.out; have := HJ144.out; first | omega | exact Nat.le_refl _⟩, ⟨by (with_reducible repeat (first | apply Kd.R_alloc | apply Kd.R_drewN | apply Kd.R_drew)); exact HO_4.out⟩, ⟨zb BK279.out⟩, ⟨zb BK289.out⟩, ⟨zb BK336.out⟩, ⟨zb BK345.out⟩, ⟨zw4 HB.out GE279.out GE289.out GE336.out GE345.out⟩⟩
 rw [if_pos c181] at H
 have c181b0 : (!(t339 == ((rd_T62 t286 x5_3).f0)) || (!(t340 == ((rd_T62 t286 x5_3).f1)) || (!(t341 == ((rd_T62 t286 x5_3).f2)) || (!(t342 == ((rd_T62 t286 x5_3).f3)))))) = true := c181
 clear c181
 have H' := Aside0.mk H
 clear H
 try go_wp2
 have n0_ := Aside0.mk (Kd.R_drew HO_4.out)
 have n1_ := Aside0.mk (blk_drew BK279.out)
 have n2_ := Aside0.mk (blk_drew BK289.out)
 have n3_ := Aside0.mk (blk_drew BK336.out)
 have n4_ := Aside0.mk (blk_drew BK345.out)
 have n5_ := Aside0.mk (below_drew1 HB.out)
 clear HO_4
 clear BK279
 clear BK289
 clear BK336
 clear BK345
 clear HB
 have HO_4 := n0_
 have BK279 := n1_
 have BK289 := n2_
 have BK336 := n3_
 have BK345 := n4_
 have HB := n5_
 clear n0_ n1_ n2_ n3_ n4_ n5_
 have p353 : 0 ≤ (x5_3 : Int) := zdec
 have q353 : x5_3 < (t286.length : Int) := zdec
 obtain ⟨ad353, e353, hx353_0, hx353_1, hx353_2, hx353_3⟩ := at_T62 (Kd.R_reads' HO_4.out).2.2 x5_3 p353 q353
 obtain rfl : ad329 = ad353 := (by injection e353)
 replace p353 := eq_true p353
 replace q353 := eq_true q353
 refine start_ (n := 28) (S := fun w' => w'.cell? ⟨gb345, 0, none⟩ = some (.bool t339) ∧ w'.cell? ⟨gb345, 1, none⟩ = some (.int .i64 t340) ∧ w'.cell? ⟨gb345, 2, none⟩ = some (.int .i64 t341) ∧ w'.cell? ⟨gb345, 3, none⟩ = some (.int .i64 t342) ∧ w'.cell? (ad329.add ((x5_3).toNat * 4)) = some (.bool ((rd_T62 t286 x5_3).f0)) ∧ w'.cell? ⟨(ad329.add ((x5_3).toNat * 4)).block, (ad329.add ((x5_3).toNat * 4)).off + 1, none⟩ = some (.int .i64 ((rd_T62 t286 x5_3).f1)) ∧ w'.cell? ⟨(ad329.add ((x5_3).toNat * 4)).block, (ad329.add ((x5_3).toNat * 4)).off + 2, none⟩ = some (.int .i64 ((rd_T62 t286 x5_3).f2)) ∧ w'.cell? ⟨(ad329.add ((x5_3).toNat * 4)).block, (ad329.add ((x5_3).toNat * 4)).off + 3, none⟩ = some (.int .i64 ((rd_T62 t286 x5_3).f3))) (ds := []) cellarlaw9_MemBack.b174 (by kernel_rfl) rfl rfl ⟨(blk_cell BK345.out 0).trans rfl, (blk_cell BK345.out 1).trans rfl, (blk_cell BK345.out 2).trans rfl, (blk_cell BK345.out 3).trans rfl, hx353_0, hx353_1, hx353_2, hx353_3⟩ (fun hHeld => ?_); refine with_tabW cellarlaw9_MemBack.tab41 cellarlaw9_MemBack.bits41 (fun HT_ HW_ => ?_)
 generalize w174.drew = w182 at HO_4 BK279 BK289 BK336 BK345 HB hx353_0 hx353_1 hx353_2 hx353_3 hHeld ⊢
 refine zq 0 (some 306) HT_ ?_
 refine one_ (i := 1) (N := some 307) cellarlaw9_MemBack.b176 rfl rfl (one_of HT_.out (by kernel_rfl)) (by decide) (fun K hK => ?_)
 refine goes_ Try.func35 (by kernel_rfl) rfl #[.int .i64 t344] (by rfl) rfl rfl (by (try simp only [List.map_toArray, List.map_cons, List.map_nil]); first | done | rfl | (simp only [List.length_drop, List.length_take]; rfl)) ?_
 with_reducible refine (cellarlaw9_num.calls t344 t351 _ A175.out).mono ?_
 rintro e w' ⟨rfl, ⟨nd, rfl⟩⟩
 refine ⟨_, rfl, ?_⟩
 refine hK.out _ _ ⟨(blk_cell BK345.out 0).trans rfl, (blk_cell BK345.out 1).trans rfl, (blk_cell BK345.out 2).trans rfl, (blk_cell BK345.out 3).trans rfl, hHeld.2.2.2.2.1, hHeld.2.2.2.2.2.1, hHeld.2.2.2.2.2.2.1, hHeld.2.2.2.2.2.2.2⟩ (fun hHeld => ?_)
 clear hK K
 refine norm_ (a' := ?_) ?_ ?_
 rotate_left
 ·show Act.put _ (some 307) _ = _
  simp only [Act.put, List.setIfInBounds_toArray, List.set_cons_zero, List.set_cons_succ, i64_w, i32_w]
  rfl
 refine zq 2 (some 308) HT_ ?_; refine zq 3 (some 309) HT_ ?_; refine zq 4 (some 310) HT_ ?_
 refine one_ (i := 5) (N := some 311) cellarlaw9_MemBack.b180 rfl rfl (one_of HT_.out (by kernel_rfl)) (by decide) (fun K hK => ?_)
 refine goes_ Try.func35 (by kernel_rfl) rfl #[.int .i64 t350] (by rfl) rfl rfl (by (try simp only [List.map_toArray, List.map_cons, List.map_nil]); first | done | rfl | (simp only [List.length_drop, List.length_take]; rfl)) ?_
 with_reducible refine (cellarlaw9_num.calls t350 t352 _ A177.out).mono ?_
 rintro e w' ⟨rfl, ⟨nd, rfl⟩⟩
 refine ⟨_, rfl, ?_⟩
 refine hK.out _ _ ⟨(blk_cell BK345.out 0).trans rfl, (blk_cell BK345.out 1).trans rfl, (blk_cell BK345.out 2).trans rfl, (blk_cell BK345.out 3).trans rfl, hHeld.2.2.2.2.1, hHeld.2.2.2.2.2.1, hHeld.2.2.2.2.2.2.1, hHeld.2.2.2.2.2.2.2⟩ (fun hHeld => ?_)
 clear hK K
 refine norm_ (a' := ?_) ?_ ?_
 rotate_left
 ·show Act.put _ (some 311) _ = _
  simp only [Act.put, List.setIfInBounds_toArray, List.set_cons_zero, List.set_cons_succ, i64_w, i32_w]
  rfl
 refine zq 6 (some 312) HT_ ?_; refine zq 7 (some 313) HT_ ?_; refine zq 8 (some 314) HT_ ?_; refine zq 9 (some 315) HT_ ?_; refine zq 10 (some 316) HT_ ?_; refine zq 11 (some 317) HT_ ?_; refine zq 12 (some 318) HT_ ?_; refine zq 13 (some 319) HT_ ?_; refine zq 14 (some 320) HT_ ?_; refine zq 15 (some 321) HT_ ?_; refine zq 16 (some 322) HT_ ?_; refine zq 18 (some 324) HT_ ?_; refine zq 19 (some 325) HT_ ?_; refine zq 20 (some 326) HT_ ?_; refine zt 17 (some 323) HT_ HW_ hHeld ?_; refine zt 21 (some 327) HT_ HW_ hHeld ?_; refine zq 22 (some 328) (v := .bool true) HT_ ?_ (hy := by (refine Or.inl ⟨by rfl, ?_⟩; intro w'; go_simp; first | exact imp4 c181b0 | exact itb4 c181b0)); refine zq 23 (some 329) HT_ ?_; refine zq 24 (some 330) HT_ ?_; refine zu 25 (some 331) HT_ ?_; refine zu 26 (some 332) HT_ ?_; refine zq 27 (some 333) HT_ ?_
 refine done_ (done_of HT_.out (by kernel_rfl)) ?_
 try go_wp2
 go_meet
 case rel => exact ⟨_, (true), (zr), H', ⟨by have := HK1.out; have := HJ9.out; have := HK3.out; have := HK4.out; have := HJ144.out; first | omega | exact Nat.le_refl _⟩, ⟨by (with_reducible repeat (first | apply Kd.R_alloc | apply Kd.R_drewN | apply Kd.R_drew)); exact HO_4.out⟩, ⟨zb BK279.out⟩, ⟨zb BK289.out⟩, ⟨zb BK336.out⟩, ⟨zb BK345.out⟩, ⟨zw4 HB.out GE279.out GE289.out GE336.out GE345.out⟩⟩
end Go.Proofs.Ytjoplkillkhiaaa.Q2
-- Written by this session's own edition of the print.
namespace Go.Proofs.Ytjoplkillkhiaaa.Q2
open Go.Proofs.Ytjoplkillkhiaaa.Cuts Go.RowKit Go.Proofs.Ytjoplkillkhiaaa.Fn Go.Proofs.YtjoplkillkhiaaaW.PrintWords Go.Proofs.YtjoplkillkhiaaaW.PrintLast Go.Proofs.YtjoplkillkhiaaaW.PrintMore
set_option linter.unusedVariables false
set_option linter.unusedSimpArgs false
set_option maxHeartbeats 60000000 in
set_option maxRecDepth 100000 in
theorem cellarlaw9_MemBack.part_aaaaab : cellarlaw9_MemBack.cut_aaaaa.P2 := by
 intro k c0_0 l0_0 A0_1 c0_1 l0_1 A0_2 c0_2 l0_2 A0_3 c0_3 l0_3 r w hu54 hu29 hu62 hu74 HC0_0 HR0_1 HC0_1 HR0_2 HC0_2 HR0_3 HC0_3 A2 q1_ gb279 w7 GW279 GE279 hfz8_0 hfz8_1 hfz8_2 hfz8_3 q2_ q3_ q4_ q5_ x3_1 k1 q7_ HK1 q8_ u30 u31 u32 u33 u34 u35 u36 u37 u39 u40 kj9 HJ9 c15b0 c16b0 t283 A17 t284 A18 c19b0 c19b1 t286 A20 hfz21_0 hfz21_1 hfz21_2 hfz21_3 ad282 A282_0 c282_0 HR0_0 hcz8_0 hcz8_1 hcz8_2 hcz8_3 q6_ hcz21_0 hcz21_1 hcz21_2 hcz21_3 hx282_0 HR282_0 HC282_0 p282 q282 q10_ q11_ A285_0 c285_0 hw285_0 HR285_0 HC285_0 p285 q285 w23 hx285_0 w24 e285 u19 u20 u21 u22 u23 u24 u25 u26 u27 q19_ q24_ q25_ q26_ q27_ q28_ q29_ q30_ q31_ q32_ q33_ q34_ q35_ q36_ q37_ q38_ q39_ q40_ q41_ q42_ q43_ q44_ q45_ q46_ q47_ q48_ q49_ q50_ q51_ q52_ q53_ q54_ q55_ q56_ q57_ q58_ q59_ q60_ q61_ q62_ q63_ q64_ q65_ q66_ q67_ q68_ q69_ q70_ q71_ q72_ q73_ q74_ q75_ q76_ q77_ q78_ q79_ q80_ q81_ q82_ q83_ q84_ q85_ q86_ q87_ q88_ q89_ q90_ q91_ q92_ q93_ q94_ q95_ q96_ q97_ q98_ q99_ q13_ q14_ x5_3 k3 q16_ HK3 c25b0 co26 q12_ q17_ gb289 w27 GW289 GE289 NB279_289 NB289_279 hnb28 hnc28 hcz29_0 hcz29_1 hfz29_0 hfz29_1 u2 u8 u9 u10 u11 u12 u13 u14 u15 u16 u17 u18 q20_ q21_ x7_4 k4 q23_ HK4 c30b0 c140b0 c141b0 c142b0 c143b0 t330 t331 t332 t333 t334 t335 A144 A328_0 c328_0 hw328_0 HR328_0 HC328_0 p328 q328 ad329 HO288 q15_ q22_ p329 q329 w146 hx328_0 hx329_0 hx329_1 hx329_2 hx329_3 gb336 w149 GW336 GE336 NB279_336 NB336_279 NB289_336 NB336_289 hs150 hfs150 hns150_0 hns150_1 hms150_0 hms150_1 hs151 hfs151 hns151_0 hns151_1 hms151_0 hms151_1 hs152 hfs152 hns152_0 hns152_1 hms152_0 hms152_1 hs153 hfs153 hns153_0 hns153_1 hms153_0 hms153_1 kj144 HJ144 c157b0 c158b0 t339 t340 t341 t342 t343 t344 A159 c160b0 c161b0 t348 t349 t350 A162 HC163 e328 A338_0 c338_0 hw338_0 HR338_0 HC338_0 p338 q338 w164 hx338_0 gb345 w167 hS_ GW345 GE345 NB279_345 NB345_279 NB289_345 NB345_289 NB336_345 NB345_336 hs168 hfs168 hns168_0 hns168_1 hns168_2 hms168_0 hms168_1 hms168_2 hs169 hfs169 hns169_0 hns169_1 hns169_2 hms169_0 hms169_1 hms169_2 hs170 hfs170 hns170_0 hns170_1 hns170_2 hms170_0 hms170_1 hms170_2 hs171 hfs171 hns171_0 hns171_1 hns171_2 hms171_0 hms171_1 hms171_2 e338 A346_0 c346_0 e346 hw346_0 HR346_0 HC346_0 p346 q346 e347 p347 q347 HT_ HW_ w173 hx346_0 hx347_0 hx347_1 hx347_2 hx347_3 w174 HS9_ HS10_ HS11_ HS12_ HO_4 BK279 BK289 BK336 BK345 HB hHeld q109_ q110_ wc u56 u57 u58 u59 u60 u61 u62 u63 u64 u65 u66 u67 u68 u69 u70 u71 u72 u73 u74 u75 u76 u77 u78 u79 u80 u81 u82 u83 u84 u85 u86 u87 u88 u89 u90 u91 u92 u93 u94 u95 u96 u97 u98 u99 u100 u101 u102 u103 u104 u105 u106 u107 u108 u109 u110 u111 u112 u113 u114 u115 u116 u117 u118 u119 u120 u121 u122 u123 u124 u125 u126 u127 u128 u129 u130 u131 u132 u133 u134 u135 u136 u137 u138 u139 u140 u141 u142 u143 u144 u145 u146 u147 u148 u149 u150 u151 u152 u153 u154 u155 u156 u157 u158 u159 u160 u161 u162 u163 u164 u165 u166 u167 u168 u169 u170 u171 u172 u173 u174 u175 u176 u177 u178 u179 u180 u181 u182 u183 u184 u185 u186 u187 u188 u189 u190 u191 u192 u193 u194 u195 u196 u197 u198 u199 u200 u201 u202 u203 u204 u205 u206 u207 u208 u209 u210 u211 u212 u213 u214 u215 u216 u217 u218 u219 u220 u221 u222 u223 u224 u225 u226 u227 u228 u229 u230 u231 u232 u233 u234 u235 u236 u237 u238 u239 u240 u241 u242 u243 u244 u245 u246 u247 u248 u249 u250 u251 u252 u253 u254 u255 u256 u257 u258 u259
 intro u260 u261 u262 u263 u264 u265 u266 u267 u268 u269 u270 u271 u272 u273 u274 u275 u276 u277 u278 u279 u280 u281 u282 u283 u284 u285 u286 u287 u288 u289 u290 u291 u292 u293 u294 u295 u296 u297 u298 u299 u300 u301 u302 u303 u304 u305 u306 u307 u308 u309 u310 u311 u312 u313 u314 u315 u316 u317 u318 u319 u320 u321 u322 u323 u324 u325 u326 u327 u328 u329 u330 u331 u332 u333 hcut
 clear HC163
 try clear c1; try clear p2; try clear c3; try clear c17; try clear c35; try clear c176; try clear c176b0; try clear c176b1; try clear c178; try clear c178b0; try clear c178b1
 obtain ⟨kq, x333_162, rfl, HA, HJ162, HO_4, BK279, BK289, BK336, BK345, HB⟩ := hcut
 cases kq with
 | zero => exact absurd HA.out (by simp [cellarlaw9_MemBack.j12])
 | succ kj162 =>
 have H := HA.out
 clear HA
 simp only [cellarlaw9_MemBack.j12] at H
 by_cases c188 : x333_162 = true
 ·subst c188
  have H1 : (some false) = some r := by rw [if_pos rfl] at H; exact H
  clear H
  have H := H1
  clear H1
  obtain rfl := Option.some.inj H
  go_wp2
  go_ret
  exact ⟨ze, zw4 HB.out GE279.out GE289.out GE336.out GE345.out⟩
 replace c188 := Bool.eq_false_iff.mpr c188
 subst c188
 have H1 : (cellarlaw9_MemBack.l1 kj162 x3_1 t286 (wrap64 (x5_3 + 1)) l0_0 l0_1 l0_2 l0_3) = some r := by rw [if_neg (show ¬ (false = true) by decide)] at H; exact H
 clear H
 have H := H1
 clear H1
 have H' := Aside0.mk H
 clear H
 go_wp2
 go_roundg kj162
 case measure => have := HK1.out; have := HJ9.out; have := HK3.out; have := HK4.out; have := HJ144.out; have := HJ162.out; omega
 case rel => exact ⟨(wrap64 (x5_3 + 1)), (zr), H', ⟨by have := HK1.out; have := HJ9.out; have := HK3.out; have := HK4.out; have := HJ144.out; have := HJ162.out; omega⟩, ⟨by (with_reducible repeat (first | apply Kd.R_alloc | apply Kd.R_drewN | apply Kd.R_drew)); exact Kd.R_mono HO_4.out (fun _ hk => trivial)⟩, ⟨zb BK279.out⟩, ⟨zw4 HB.out GE279.out GE289.out GE336.out GE345.out⟩⟩
end Go.Proofs.Ytjoplkillkhiaaa.Q2
