-- Written by this session's own edition of the print.
import Derived.Test.YtjoplkillkhiaaaQ2x0
import Derived.Test.YtjoplkillkhiaaaQ2x1
import Derived.Test.YtjoplkillkhiaaaQ2x2
import Derived.Test.YtjoplkillkhiaaaQ2x3
import Derived.Test.YtjoplkillkhiaaaQ2x6
import Derived.Test.YtjoplkillkhiaaaQ2x7
import Derived.Test.YtjoplkillkhiaaaQ2x10
import Derived.Test.YtjoplkillkhiaaaQ2x11
import Derived.Test.YtjoplkillkhiaaaYSq
import Derived.Test.YtjoplkillkhiaaaYSq2
import Derived.Test.YtjoplkillkhiaaaYSq3
import Derived.Test.YtjoplkillkhiaaaQ2x12
import Derived.Test.YtjoplkillkhiaaaCut
import Derived.Test.YtjoplkillkhiaaaQ2y
import Derived.Test.YtjoplkillkhiaaaQ2ya
import Derived.Test.YtjoplkillkhiaaaQ2yaa
import Derived.Test.YtjoplkillkhiaaaQ2yaaa
import Derived.Test.YtjoplkillkhiaaaQ2yaaaa
namespace Go.Proofs.Ytjoplkillkhiaaa.Q2
open Go.Proofs.Ytjoplkillkhiaaa.Cuts Go.RowKit Go.Proofs.Ytjoplkillkhiaaa.Fn Go.Proofs.YtjoplkillkhiaaaW.PrintWords Go.Proofs.YtjoplkillkhiaaaW.PrintLast Go.Proofs.YtjoplkillkhiaaaW.PrintMore
set_option linter.unusedVariables false
set_option linter.unusedSimpArgs false
set_option maxHeartbeats 60000000 in
set_option maxRecDepth 100000 in
noncomputable def cellarlaw9_MemBack.cut_aaaaa : Cut2 (cellarlaw9_MemBack.cut_aaaa.P1) := by
 apply Cut2.mk
 case h =>
 intro cutP1 cutP2
 intro k c0_0 l0_0 A0_1 c0_1 l0_1 A0_2 c0_2 l0_2 A0_3 c0_3 l0_3 r w hu54 hu29 hu62 hu74 HC0_0 HR0_1 HC0_1 HR0_2 HC0_2 HR0_3 HC0_3 A2 q1_ gb279 w7 GW279 GE279 hfz8_0 hfz8_1 hfz8_2 hfz8_3 q2_ q3_ q4_ q5_ x3_1 k1 q7_ HK1 q8_ u30 u31 u32 u33 u34 u35 u36 u37 u39 u40 kj9 HJ9 c15b0 c16b0 t283 A17 t284 A18 c19b0 c19b1 t286 A20 hfz21_0 hfz21_1 hfz21_2 hfz21_3 ad282 A282_0 c282_0 HR0_0 hcz8_0 hcz8_1 hcz8_2 hcz8_3 q6_ hcz21_0 hcz21_1 hcz21_2 hcz21_3 hx282_0 HR282_0 HC282_0 p282 q282 q10_ q11_ nd A285_0 c285_0 hw285_0 HR285_0 HC285_0 p285 q285 w23 hx285_0 w24 e285 u19 u20 u21 u22 u23 u24 u25 u26 u27 q19_ q24_ q25_ q26_ q27_ q28_ q29_ q30_ q31_ q32_ q33_ q34_ q35_ q36_ q37_ q38_ q39_ q40_ q41_ q42_ q43_ q44_ q45_ q46_ q47_ q48_ q49_ q50_ q51_ q52_ q53_ q54_ q55_ q56_ q57_ q58_ q59_ q60_ q61_ q62_ q63_ q64_ q65_ q66_ q67_ q68_ q69_ q70_ q71_ q72_ q73_ q74_ q75_ q76_ q77_ q78_ q79_ q80_ q81_ q82_ q83_ q84_ q85_ q86_ q87_ q88_ q89_ q90_ q91_ q92_ q93_ q94_ q95_ q96_ q97_ q98_ q99_ q13_ q14_ x5_3 k3 q16_ HK3 c25b0 co26 q12_ q17_ gb289 w27 GW289 GE289 NB279_289 NB289_279 hnb28 hnc28 hcz29_0 hcz29_1 hfz29_0 hfz29_1 u2 u8 u9 u10 u11 u12 u13 u14 u15 u16 u17 u18 q20_ q21_ x7_4 k4 q23_ HK4 c30b0 c140b0 c141b0 c142b0 c143b0 t330 t331 t332 t333 t334 t335 A144 HC145 A328_0 c328_0 e328 hw328_0 HR328_0 HC328_0 p328 q328 ad329 HO288 q15_ q22_ p329 q329 HT_ HW_ w146 hx328_0 hx329_0 hx329_1 hx329_2 hx329_3 gb336 w149 hS_ HO_4 BK279 BK289 BK336 GW336 GE336 NB279_336 NB336_279 NB289_336 NB336_289 HB hs150 hfs150 hns150_0 hns150_1 hms150_0 hms150_1 hs151 hfs151 hns151_0 hns151_1 hms151_0 hms151_1 hs152 hfs152 hns152_0 hns152_1 hms152_0 hms152_1 hs153 hfs153 hns153_0 hns153_1 hms153_0 hms153_1 hHeld q107_ q108_ wc u56 u57 u58 u59 u60 u61 u62 u63 u64 u65 u66 u67 u68 u69 u70 u71 u72 u73 u74 u75 u76 u77 u78 u79 u80 u81 u82 u83 u84 u85 u86 u87 u88 u89 u90 u91 u92 u93 u94 u95 u96 u97 u98 u99 u100 u101 u102 u103 u104 u105 u106 u107 u108 u109 u110 u111 u112 u113 u114 u115 u116 u117 u118 u119 u120 u121 u122 u123 u124 u125 u126 u127 u128 u129 u130 u131 u132 u133 u134 u135 u136 u137 u138 u139 u140 u141 u142 u143 u144 u145 u146 u147 u148 u149 u150 u151 u152 u153 u154 u155 u156 u157 u158 u159 u160 u161 u162 u163 u164 u165 u166 u167 u168 u169 u170 u171 u172 u173 u174 u175 u176 u177 u178 u179 u180 u181 u182 u183 u184 u185 u186 u187 u188 u189 u190 u191 u192 u193 u194 u195 u196 u197 u198 u199 u200 u201 u202 u203 u204 u205 u206 u207 u208 u209 u210 u211 u212 u213 u214 u215 u216 u217 u218 u219 u220 u221 u222 u223 u224 u225 u226 u227 u228 u229 u230 u231 u232 u233 u234 u235 u236 u237 u238 u239 u240 u241 u242 u243 u244 u245 u246 u247 u248 u249 u250 u251 u252 u253 u254 u255 u256 u257 u258 u259 u260 u261 u262 u263 u264 u265 u266 u267 u268 u269 u270 u271 u272 u273 u274 u275 u276 u277 u278 u279 u280 u281 u282 u283 u284 u285 u286 u287 u288 u289 u290 u291 u292 u293 u294 u295 u296 u297 u298 u299 u300 u301 u302 u303 u304 u305 u306 u307 u308 u309 u310 u311 u312 u313 u314 u315 u316 u317 u318 u319 u320 u321 u322 u323 u324 u325 u326 u327 u328 u329 u330 u331 u332 u333 hcut
 clear HC145
 try clear c1; try clear p2; try clear c3; try clear p3; try clear q3; try clear c4; try clear c6; try clear p6; try clear c10; try clear c11; try clear c12; try clear c13; try clear c14; try clear c15; try clear c30; try clear c30b0; try clear c31; try clear p31; try clear q31; try clear c32; try clear p32; try clear q32; try clear c35; try clear c40; try clear c41; try clear c42; try clear c43; try clear c44; try clear p64; try clear c67; try clear c68; try clear c109; try clear c109b0; try clear c119; try clear c120; try clear c121; try clear c121b0; try clear c129; try clear c130; try clear c131; try clear c132; try clear c133; try clear c134; try clear c135; try clear c136; try clear c140; try clear c140b0; try clear c141; try clear c141b0; try clear c142; try clear c142b0; try clear c143; try clear c143b0; try clear c155; try clear c155b0; try clear c155b1; try clear p319; try clear p328; try clear p329; try clear q319; try clear q328; try clear q329
 obtain ⟨kq, x279_144, rfl, HA, HJ144, HO_4, BK279, BK289, BK336, HB⟩ := hcut
 cases kq with
 | zero => exact absurd HA.out (by simp [cellarlaw9_MemBack.j11])
 | succ kj144 =>
 have H := HA.out
 clear HA
 simp only [cellarlaw9_MemBack.j11] at H
 by_cases c156 : x279_144 = true
 rotate_left
 ·replace c156 := Bool.eq_false_iff.mpr c156
  subst c156
  have H1 : (cellarlaw9_MemBack.l1 kj144 x3_1 t286 (wrap64 (x5_3 + 1)) l0_0 l0_1 l0_2 l0_3) = some r := by rw [if_neg (show ¬ (false = true) by decide)] at H; exact H
  clear H
  have H := H1
  clear H1
  have H' := Aside0.mk H
  clear H
  go_wp2
  go_roundg kj144
  case measure => have := HK1.out; have := HJ9.out; have := HK3.out; have := HK4.out; have := HJ144.out; omega
  case rel => exact ⟨(wrap64 (x5_3 + 1)), (zr), H', ⟨by have := HK1.out; have := HJ9.out; have := HK3.out; have := HK4.out; have := HJ144.out; omega⟩, ⟨by (with_reducible repeat (first | apply Kd.R_alloc | apply Kd.R_drewN | apply Kd.R_drew)); exact Kd.R_mono HO_4.out (fun _ hk => trivial)⟩, ⟨zb BK279.out⟩, ⟨zw3 HB.out GE279.out GE289.out GE336.out⟩⟩
 subst c156
 have H1 : (if 0 ≤ x3_1 then (if x3_1 < (l0_0.length : Int) then ((mem_Move.f kj144 (rd_L4 l0_0 x3_1) t330 t331 t332 t333 4294967295).bind fun bt339 => (if 0 ≤ x5_3 then (if x5_3 < (t286.length : Int) then ((mem_Apart.f (rd_L4 l0_0 x3_1) t330 t331 t332 t333 ((rd_T62 t286 x5_3).f0) ((rd_T62 t286 x5_3).f1) ((rd_T62 t286 x5_3).f2) ((rd_T62 t286 x5_3).f3)).bind fun bt348 => ((cellarlaw9_num.f bt339.2.2.2.2.2).bind fun t351 => (if t351 = 0 then ((cellarlaw9_num.f bt348.2.2).bind fun t352 => (if t352 = 0 then (if bt339.2.2.2.2.1 = 0 then (if bt348.2.1 = 0 then (if (!(bt339.1 == ((rd_T62 t286 x5_3).f0)) || (!(bt339.2.1 == ((rd_T62 t286 x5_3).f1)) || (!(bt339.2.2.1 == ((rd_T62 t286 x5_3).f2)) || (!(bt339.2.2.2.1 == ((rd_T62 t286 x5_3).f3)))))) = true then (cellarlaw9_MemBack.j12 kj144 x3_1 t286 x5_3 true l0_0 l0_1 l0_2 l0_3) else (cellarlaw9_MemBack.j12 kj144 x3_1 t286 x5_3 (bt348.1 != 1) l0_0 l0_1 l0_2 l0_3)) else (cellarlaw9_MemBack.j12 kj144 x3_1 t286 x5_3 true l0_0 l0_1 l0_2 l0_3)) else (cellarlaw9_MemBack.j12 kj144 x3_1 t286 x5_3 true l0_0 l0_1 l0_2 l0_3)) else (cellarlaw9_MemBack.j12 kj144 x3_1 t286 x5_3 true l0_0 l0_1 l0_2 l0_3))) else (cellarlaw9_MemBack.j12 kj144 x3_1 t286 x5_3 true l0_0 l0_1 l0_2 l0_3)))) else (none)) else (none))) else (none)) else (none)) = some r := by rw [if_pos rfl] at H; exact H
 clear H
 have H := H1
 clear H1
 by_cases c157 : 0 ≤ x3_1
 rotate_left
 ·rw [if_neg c157] at H
  exact absurd H (by simp)
 rw [if_pos c157] at H
 have c157b0 : decide (0 ≤ x3_1) = true := decide_eq_true c157
 clear c157
 by_cases c158 : x3_1 < (l0_0.length : Int)
 rotate_left
 ·rw [if_neg c158] at H
  exact absurd H (by simp)
 rw [if_pos c158] at H
 have c158b0 : decide (x3_1 < (l0_0.length : Int)) = true := decide_eq_true c158
 clear c158
 replace H := Option.bind_eq_some_iff.mp H
 obtain ⟨⟨t339, t340, t341, t342, t343, t344⟩, A1590, H⟩ := H
 replace H : (if 0 ≤ x5_3 then (if x5_3 < (t286.length : Int) then ((mem_Apart.f (rd_L4 l0_0 x3_1) t330 t331 t332 t333 ((rd_T62 t286 x5_3).f0) ((rd_T62 t286 x5_3).f1) ((rd_T62 t286 x5_3).f2) ((rd_T62 t286 x5_3).f3)).bind fun bt348 => ((cellarlaw9_num.f t344).bind fun t351 => (if t351 = 0 then ((cellarlaw9_num.f bt348.2.2).bind fun t352 => (if t352 = 0 then (if t343 = 0 then (if bt348.2.1 = 0 then (if (!(t339 == ((rd_T62 t286 x5_3).f0)) || (!(t340 == ((rd_T62 t286 x5_3).f1)) || (!(t341 == ((rd_T62 t286 x5_3).f2)) || (!(t342 == ((rd_T62 t286 x5_3).f3)))))) = true then (cellarlaw9_MemBack.j12 kj144 x3_1 t286 x5_3 true l0_0 l0_1 l0_2 l0_3) else (cellarlaw9_MemBack.j12 kj144 x3_1 t286 x5_3 (bt348.1 != 1) l0_0 l0_1 l0_2 l0_3)) else (cellarlaw9_MemBack.j12 kj144 x3_1 t286 x5_3 true l0_0 l0_1 l0_2 l0_3)) else (cellarlaw9_MemBack.j12 kj144 x3_1 t286 x5_3 true l0_0 l0_1 l0_2 l0_3)) else (cellarlaw9_MemBack.j12 kj144 x3_1 t286 x5_3 true l0_0 l0_1 l0_2 l0_3))) else (cellarlaw9_MemBack.j12 kj144 x3_1 t286 x5_3 true l0_0 l0_1 l0_2 l0_3)))) else (none)) else (none)) = some r := H
 have A159 := Aside0.mk A1590
 clear A1590
 by_cases c160 : 0 ≤ x5_3
 rotate_left
 ·rw [if_neg c160] at H
  exact absurd H (by simp)
 rw [if_pos c160] at H
 have c160b0 : decide (0 ≤ x5_3) = true := decide_eq_true c160
 clear c160
 by_cases c161 : x5_3 < (t286.length : Int)
 rotate_left
 ·rw [if_neg c161] at H
  exact absurd H (by simp)
 rw [if_pos c161] at H
 have c161b0 : decide (x5_3 < (t286.length : Int)) = true := decide_eq_true c161
 clear c161
 replace H := Option.bind_eq_some_iff.mp H
 obtain ⟨⟨t348, t349, t350⟩, A1620, H⟩ := H
 replace H : ((cellarlaw9_num.f t344).bind fun t351 => (if t351 = 0 then ((cellarlaw9_num.f t350).bind fun t352 => (if t352 = 0 then (if t343 = 0 then (if t349 = 0 then (if (!(t339 == ((rd_T62 t286 x5_3).f0)) || (!(t340 == ((rd_T62 t286 x5_3).f1)) || (!(t341 == ((rd_T62 t286 x5_3).f2)) || (!(t342 == ((rd_T62 t286 x5_3).f3)))))) = true then (cellarlaw9_MemBack.j12 kj144 x3_1 t286 x5_3 true l0_0 l0_1 l0_2 l0_3) else (cellarlaw9_MemBack.j12 kj144 x3_1 t286 x5_3 (t348 != 1) l0_0 l0_1 l0_2 l0_3)) else (cellarlaw9_MemBack.j12 kj144 x3_1 t286 x5_3 true l0_0 l0_1 l0_2 l0_3)) else (cellarlaw9_MemBack.j12 kj144 x3_1 t286 x5_3 true l0_0 l0_1 l0_2 l0_3)) else (cellarlaw9_MemBack.j12 kj144 x3_1 t286 x5_3 true l0_0 l0_1 l0_2 l0_3))) else (cellarlaw9_MemBack.j12 kj144 x3_1 t286 x5_3 true l0_0 l0_1 l0_2 l0_3))) = some r := H
 have A162 := Aside0.mk A1620
 clear A1620
 have HC163 := Aside0.mk H
 clear H
 try go_wp2
 have n0_ := Aside0.mk (Kd.R_drew HO_4.out)
 have n1_ := Aside0.mk (blk_drew BK279.out)
 have n2_ := Aside0.mk (blk_drew BK289.out)
 have n3_ := Aside0.mk (blk_drew BK336.out)
 have n4_ := Aside0.mk (below_drew1 HB.out)
 clear HO_4
 clear BK279
 clear BK289
 clear BK336
 clear HB
 have HO_4 := n0_
 have BK279 := n1_
 have BK289 := n2_
 have BK336 := n3_
 have HB := n4_
 clear n0_ n1_ n2_ n3_ n4_
 have p338 : 0 ≤ (x3_1 : Int) := zdec
 have q338 : x3_1 < (l0_0.length : Int) := zdec
 obtain ⟨ad338, A338_0, c338_0, e338, hx338_0, hl338_0, hi338_0⟩ := at_L4 HR0_0.out x3_1 p338 q338
 have hw338_0 := hx338_0
 obtain rfl : ad282 = ad338 := (by injection e338)
 replace hx338_0 := zh HB.out hx338_0
 have HR338_0 := Aside0.mk hi338_0
 have HC338_0 := Aside0.mk hl338_0
 clear hi338_0 hl338_0
 replace p338 := eq_true p338
 replace q338 := eq_true q338
 refine start_ (n := 15) (S := fun w' => w'.cell? ⟨gb279, 0, none⟩ = some (.slice (some ad282) l0_0.length c0_0) ∧ w'.cell? ⟨gb279, 1, none⟩ = some (.slice A0_1 l0_1.length c0_1) ∧ w'.cell? ⟨gb279, 2, none⟩ = some (.slice A0_2 l0_2.length c0_2) ∧ w'.cell? ⟨gb279, 3, none⟩ = some (.slice A0_3 l0_3.length c0_3) ∧ w'.cell? ⟨gb336, 0, none⟩ = some (.bool t330) ∧ w'.cell? ⟨gb336, 1, none⟩ = some (.int .i64 t331) ∧ w'.cell? ⟨gb336, 2, none⟩ = some (.int .i64 t332) ∧ w'.cell? ⟨gb336, 3, none⟩ = some (.int .i64 t333) ∧ w'.cell? (ad282.add (x3_1).toNat) = some (.slice A338_0 (rd_L4 l0_0 x3_1).length c338_0)) (ds := []) cellarlaw9_MemBack.b147 (by kernel_rfl) rfl rfl ⟨(blk_cell BK279.out 0).trans rfl, (blk_cell BK279.out 1).trans rfl, (blk_cell BK279.out 2).trans rfl, (blk_cell BK279.out 3).trans rfl, (blk_cell BK336.out 0).trans rfl, (blk_cell BK336.out 1).trans rfl, (blk_cell BK336.out 2).trans rfl, (blk_cell BK336.out 3).trans rfl, ((HB.out.cell (World.block_lt_of_cell? w _ hw338_0)).trans hw338_0)⟩ (fun hHeld => ?_); refine with_tabW cellarlaw9_MemBack.tab39 cellarlaw9_MemBack.bits39 (fun HT_ HW_ => ?_)
 generalize wc.drew = w164 at HO_4 BK279 BK289 BK336 HB HR338_0 hx338_0 hHeld ⊢
 refine zq 0 (some 281) HT_ ?_; refine zq 2 (some 283) HT_ ?_; refine zt 1 (some 282) HT_ HW_ hHeld ?_; refine zq 3 (some 284) HT_ ?_; refine zt 4 (some 285) HT_ HW_ hHeld ?_; refine zt 5 (some 286) HT_ HW_ hHeld ?_
 refine join_ (σ := Nat) 3 cellarlaw9_MemBack.b154 (fun s_ => [(287, .tuple #[.agg #[.bool t339, .int .i64 t340, .int .i64 t341, .int .i64 t342], .int .i64 t343, .int .i64 t344]), (22, .pointer (some ⟨s_, 0, none⟩)), (280, .tuple #[.agg #[.bool t339, .int .i64 t340, .int .i64 t341, .int .i64 t342], .int .i64 t343, .int .i64 t344]), (288, .agg #[.bool t339, .int .i64 t340, .int .i64 t341, .int .i64 t342]), (289, .int .i64 t343), (290, .int .i64 t344)]) (fun s_ w' => (w'.cell? ⟨gb279, 0, none⟩ = some (.slice (some ad282) l0_0.length c0_0) ∧ w'.cell? ⟨gb279, 1, none⟩ = some (.slice A0_1 l0_1.length c0_1) ∧ w'.cell? ⟨gb279, 2, none⟩ = some (.slice A0_2 l0_2.length c0_2) ∧ w'.cell? ⟨gb279, 3, none⟩ = some (.slice A0_3 l0_3.length c0_3) ∧ w'.cell? ⟨gb336, 0, none⟩ = some (.bool t330) ∧ w'.cell? ⟨gb336, 1, none⟩ = some (.int .i64 t331) ∧ w'.cell? ⟨gb336, 2, none⟩ = some (.int .i64 t332) ∧ w'.cell? ⟨gb336, 3, none⟩ = some (.int .i64 t333) ∧ w'.cell? (ad282.add (x3_1).toNat) = some (.slice A338_0 (rd_L4 l0_0 x3_1).length c338_0)) ∧ (Kd.R k62 62 w' w.heap.size (fun k_ => k_ ≠ gb336 ∧ k_ ≠ s_) (.slice (some ad329) t286.length co26) t286) ∧ (w'.heap[gb279]? = some (.cells #[.slice (some ad282) l0_0.length c0_0, .slice A0_1 l0_1.length c0_1, .slice A0_2 l0_2.length c0_2, .slice A0_3 l0_3.length c0_3] 54 (0, 0))) ∧ (w'.heap[gb289]? = some (.cells #[.bool ((Int.tmod x5_3 2) == 0), .int .i64 (wrap64 (2 + (wrap64 (2 * (Int.tmod x3_1 2)))))] 29 (0, 0))) ∧ (w'.heap[gb336]? = some (.cells #[.bool t330, .int .i64 t331, .int .i64 t332, .int .i64 t333] 62 (0, 0))) ∧ (w'.heap[s_]? = some (.cells #[.bool false, .int .i64 0, .int .i64 0, .int .i64 0] 62 (0, 0))) ∧ (w.heap.size ≤ s_) ∧ (w.heap.size ≤ s_) ∧ (gb279 ≠ s_) ∧ (s_ ≠ gb279) ∧ (gb289 ≠ s_) ∧ (s_ ≠ gb289) ∧ (gb336 ≠ s_) ∧ (s_ ≠ gb336) ∧ (Below w.heap.size w w')) ?_ ?_
 rotate_left
 ·intro hCont
  refine two_ (i := 6) (j := 11) (Ni := some 287) (Nj := some 22) cellarlaw9_MemBack.b155 cellarlaw9_MemBack.b156 rfl rfl rfl rfl (two_of HT_.out (by kernel_rfl)) (by decide) (by decide) (fun K hK => ?_) (fun K hK => ?_)
  ·skip
   refine goes_ Try.func44 (by kernel_rfl) rfl #[.slice A338_0 (rd_L4 l0_0 x3_1).length c338_0, .agg #[.bool t330, .int .i64 t331, .int .i64 t332, .int .i64 t333], .int .i64 4294967295] (by rfl) rfl rfl (by (try simp only [List.map_toArray, List.map_cons, List.map_nil]); first | done | rfl | (simp only [List.length_drop, List.length_take]; rfl)) ?_
   with_reducible refine (mem_Move.calls kj144 _ _ (rd_L4 l0_0 x3_1) t330 t331 t332 t333 4294967295 t339 t340 t341 t342 t343 t344 _ ?side1 ?side2 A159.out).mono ?_
   (case side1 => repeat (first | exact (Kd.C_below HR338_0.out HB.out) | (with_reducible refine Kd.C_alloc ?_ _) | (with_reducible refine Kd.C_drewN ?_ _) | (with_reducible refine Kd.C_drew ?_)))
   (case side2 => exact HC338_0.out)
   rintro e w165 ⟨rfl, hb⟩
   refine ⟨_, rfl, ?_⟩
   have n0_ := Aside0.mk (Kd.R_below (by (with_reducible repeat (first | apply Kd.R_alloc | apply Kd.R_drewN | apply Kd.R_drew)); exact HO_4.out) hb)
   have n1_ := Aside0.mk (zbb BK279.out hb)
   have n2_ := Aside0.mk (zbb BK289.out hb)
   have n3_ := Aside0.mk (zbb BK336.out hb)
   have n4_ := Aside0.mk (below_step (zw3 HB.out GE279.out GE289.out GE336.out) hb)
   clear HO_4
   clear BK279
   clear BK289
   clear BK336
   clear HB
   have HO_4 := n0_
   have BK279 := n1_
   have BK289 := n2_
   have BK336 := n3_
   have HB := n4_
   clear n0_ n1_ n2_ n3_ n4_
   (try clear hb)
   (try clear hb2)
   (try clear hk)
   (try clear hi)
   refine hK.out _ _ ⟨(blk_cell BK279.out 0).trans rfl, (blk_cell BK279.out 1).trans rfl, (blk_cell BK279.out 2).trans rfl, (blk_cell BK279.out 3).trans rfl, (blk_cell BK336.out 0).trans rfl, (blk_cell BK336.out 1).trans rfl, (blk_cell BK336.out 2).trans rfl, (blk_cell BK336.out 3).trans rfl, ((HB.out.cell (World.block_lt_of_cell? w _ hw338_0)).trans hw338_0)⟩ (fun hHeld => ?_)
   clear hK K
   refine norm_ (a' := ?_) ?_ ?_
   rotate_left
   ·show Act.put _ (some 287) _ = _
    simp only [Act.put, List.setIfInBounds_toArray, List.set_cons_zero, List.set_cons_succ, i64_w, i32_w]
    rfl
   refine zq 7 (some 280) HT_ ?_; refine zq 8 (some 288) HT_ ?_; refine zq 9 (some 289) HT_ ?_; refine zq 10 (some 290) HT_ ?_
   refine one_ (i := 11) (N := some 22) cellarlaw9_MemBack.b154 rfl rfl (one_of HT_.out (by kernel_rfl)) (by decide) (fun K hK => ?_)
   refine box_step ?hg (N := 22) ?hd (cs := #[.bool false, .int .i64 0, .int .i64 0, .int .i64 0]) (t := 62) ?hr ?_; (case hd => rfl); (case hg => rfl); (case hr => first | (go_simp; done) | (go_simp; rfl))
   intro gb345 hg w166 hbox hb
   have n0_ := Aside0.mk (Kd.R_below (Kd.R_elderB (by (with_reducible repeat (first | apply Kd.R_alloc | apply Kd.R_drewN | apply Kd.R_drew)); exact HO_4.out) gb345 (Nat.le_of_eq hg.symm)) hb)
   have n1_ := Aside0.mk (zbb BK279.out hb)
   have n2_ := Aside0.mk (zbb BK289.out hb)
   have n3_ := Aside0.mk (zbb BK336.out hb)
   have n4_ := Aside0.mk (below_step (zw3 HB.out GE279.out GE289.out GE336.out) hb)
   have n5_ := Aside0.mk (hbox)
   have n6_ := Aside0.mk (zg hg (below_size (zw3 HB.out GE279.out GE289.out GE336.out)))
   have n7_ := Aside0.mk (zg hg (below_size (zw3 HB.out GE279.out GE289.out GE336.out)))
   have n8_ := Aside0.mk (zlt hg BK279.out)
   have n9_ := Aside0.mk (zgt hg BK279.out)
   have n10_ := Aside0.mk (zlt hg BK289.out)
   have n11_ := Aside0.mk (zgt hg BK289.out)
   have n12_ := Aside0.mk (zlt hg BK336.out)
   have n13_ := Aside0.mk (zgt hg BK336.out)
   clear HO_4
   clear BK279
   clear BK289
   clear BK336
   clear HB
   have HO_4 := n0_
   have BK279 := n1_
   have BK289 := n2_
   have BK336 := n3_
   have HB := n4_
   have BK345 := n5_
   have GW345 := n6_
   have GE345 := n7_
   have NB279_345 := n8_
   have NB345_279 := n9_
   have NB289_345 := n10_
   have NB345_289 := n11_
   have NB336_345 := n12_
   have NB345_336 := n13_
   clear n0_ n1_ n2_ n3_ n4_ n5_ n6_ n7_ n8_ n9_ n10_ n11_ n12_ n13_
   clear hb hbox hg
   refine hK.out _ _ ⟨(blk_cell BK279.out 0).trans rfl, (blk_cell BK279.out 1).trans rfl, (blk_cell BK279.out 2).trans rfl, (blk_cell BK279.out 3).trans rfl, (blk_cell BK336.out 0).trans rfl, (blk_cell BK336.out 1).trans rfl, (blk_cell BK336.out 2).trans rfl, (blk_cell BK336.out 3).trans rfl, ((HB.out.cell (World.block_lt_of_cell? w _ hw338_0)).trans hw338_0)⟩ (fun hHeld => ?_)
   clear hK K
   refine norm_ (a' := ?_) ?_ ?_
   rotate_left
   ·show Act.put _ (some 22) _ = _
    simp only [Act.put, List.setIfInBounds_toArray, List.set_cons_zero, List.set_cons_succ, i64_w, i32_w]
    rfl
   exact norm_ (by simp only [putAll, Act.put, List.setIfInBounds_toArray, List.set_cons_zero, List.set_cons_succ]) (hCont (gb345) _ ⟨hHeld, (by (with_reducible repeat (first | apply Kd.R_alloc | apply Kd.R_drewN | apply Kd.R_drew)); exact HO_4.out), (zb BK279.out), (zb BK289.out), (zb BK336.out), (zb BK345.out), GW345.out, GE345.out, NB279_345.out, NB345_279.out, NB289_345.out, NB345_289.out, NB336_345.out, NB345_336.out, (zw4 HB.out GE279.out GE289.out GE336.out GE345.out)⟩)
  ·skip
   refine box_step ?hg (N := 22) ?hd (cs := #[.bool false, .int .i64 0, .int .i64 0, .int .i64 0]) (t := 62) ?hr ?_; (case hd => rfl); (case hg => rfl); (case hr => first | (go_simp; done) | (go_simp; rfl))
   intro gb345 hg w165 hbox hb
   have n0_ := Aside0.mk (Kd.R_below (Kd.R_elderB (by (with_reducible repeat (first | apply Kd.R_alloc | apply Kd.R_drewN | apply Kd.R_drew)); exact HO_4.out) gb345 (Nat.le_of_eq hg.symm)) hb)
   have n1_ := Aside0.mk (zbb BK279.out hb)
   have n2_ := Aside0.mk (zbb BK289.out hb)
   have n3_ := Aside0.mk (zbb BK336.out hb)
   have n4_ := Aside0.mk (below_step (zw3 HB.out GE279.out GE289.out GE336.out) hb)
   have n5_ := Aside0.mk (hbox)
   have n6_ := Aside0.mk (zg hg (below_size (zw3 HB.out GE279.out GE289.out GE336.out)))
   have n7_ := Aside0.mk (zg hg (below_size (zw3 HB.out GE279.out GE289.out GE336.out)))
   have n8_ := Aside0.mk (zlt hg BK279.out)
   have n9_ := Aside0.mk (zgt hg BK279.out)
   have n10_ := Aside0.mk (zlt hg BK289.out)
   have n11_ := Aside0.mk (zgt hg BK289.out)
   have n12_ := Aside0.mk (zlt hg BK336.out)
   have n13_ := Aside0.mk (zgt hg BK336.out)
   clear HO_4
   clear BK279
   clear BK289
   clear BK336
   clear HB
   have HO_4 := n0_
   have BK279 := n1_
   have BK289 := n2_
   have BK336 := n3_
   have HB := n4_
   have BK345 := n5_
   have GW345 := n6_
   have GE345 := n7_
   have NB279_345 := n8_
   have NB345_279 := n9_
   have NB289_345 := n10_
   have NB345_289 := n11_
   have NB336_345 := n12_
   have NB345_336 := n13_
   clear n0_ n1_ n2_ n3_ n4_ n5_ n6_ n7_ n8_ n9_ n10_ n11_ n12_ n13_
   clear hb hbox hg
   refine hK.out _ _ ⟨(blk_cell BK279.out 0).trans rfl, (blk_cell BK279.out 1).trans rfl, (blk_cell BK279.out 2).trans rfl, (blk_cell BK279.out 3).trans rfl, (blk_cell BK336.out 0).trans rfl, (blk_cell BK336.out 1).trans rfl, (blk_cell BK336.out 2).trans rfl, (blk_cell BK336.out 3).trans rfl, ((HB.out.cell (World.block_lt_of_cell? w _ hw338_0)).trans hw338_0)⟩ (fun hHeld => ?_)
   clear hK K
   refine norm_ (a' := ?_) ?_ ?_
   rotate_left
   ·show Act.put _ (some 22) _ = _
    simp only [Act.put, List.setIfInBounds_toArray, List.set_cons_zero, List.set_cons_succ, i64_w, i32_w]
    rfl
   refine one_ (i := 6) (N := some 287) cellarlaw9_MemBack.b161 rfl rfl (one_of HT_.out (by kernel_rfl)) (by decide) (fun K hK => ?_)
   refine goes_ Try.func44 (by kernel_rfl) rfl #[.slice A338_0 (rd_L4 l0_0 x3_1).length c338_0, .agg #[.bool t330, .int .i64 t331, .int .i64 t332, .int .i64 t333], .int .i64 4294967295] (by rfl) rfl rfl (by (try simp only [List.map_toArray, List.map_cons, List.map_nil]); first | done | rfl | (simp only [List.length_drop, List.length_take]; rfl)) ?_
   with_reducible refine (mem_Move.calls kj144 _ _ (rd_L4 l0_0 x3_1) t330 t331 t332 t333 4294967295 t339 t340 t341 t342 t343 t344 _ ?side1 ?side2 A159.out).mono ?_
   (case side1 => repeat (first | exact (Kd.C_below HR338_0.out HB.out) | (with_reducible refine Kd.C_alloc ?_ _) | (with_reducible refine Kd.C_drewN ?_ _) | (with_reducible refine Kd.C_drew ?_)))
   (case side2 => exact HC338_0.out)
   rintro e w166 ⟨rfl, hb⟩
   refine ⟨_, rfl, ?_⟩
   have n0_ := Aside0.mk (Kd.R_below (by (with_reducible repeat (first | apply Kd.R_alloc | apply Kd.R_drewN | apply Kd.R_drew)); exact HO_4.out) hb)
   have n1_ := Aside0.mk (zbb BK279.out hb)
   have n2_ := Aside0.mk (zbb BK289.out hb)
   have n3_ := Aside0.mk (zbb BK336.out hb)
   have n4_ := Aside0.mk (zbb BK345.out hb)
   have n5_ := Aside0.mk (below_step (zw4 HB.out GE279.out GE289.out GE336.out GE345.out) hb)
   clear HO_4
   clear BK279
   clear BK289
   clear BK336
   clear BK345
   clear HB
   have HO_4 := n0_
   have BK279 := n1_
   have BK289 := n2_
   have BK336 := n3_
   have BK345 := n4_
   have HB := n5_
   clear n0_ n1_ n2_ n3_ n4_ n5_
   (try clear hb)
   (try clear hb2)
   (try clear hk)
   (try clear hi)
   refine hK.out _ _ ⟨(blk_cell BK279.out 0).trans rfl, (blk_cell BK279.out 1).trans rfl, (blk_cell BK279.out 2).trans rfl, (blk_cell BK279.out 3).trans rfl, (blk_cell BK336.out 0).trans rfl, (blk_cell BK336.out 1).trans rfl, (blk_cell BK336.out 2).trans rfl, (blk_cell BK336.out 3).trans rfl, ((HB.out.cell (World.block_lt_of_cell? w _ hw338_0)).trans hw338_0)⟩ (fun hHeld => ?_)
   clear hK K
   refine norm_ (a' := ?_) ?_ ?_
   rotate_left
   ·show Act.put _ (some 287) _ = _
    simp only [Act.put, List.setIfInBounds_toArray, List.set_cons_zero, List.set_cons_succ, i64_w, i32_w]
    rfl
   refine zq 7 (some 280) HT_ ?_; refine zq 8 (some 288) HT_ ?_; refine zq 9 (some 289) HT_ ?_; refine zq 10 (some 290) HT_ ?_
   exact norm_ (by simp only [putAll, Act.put, List.setIfInBounds_toArray, List.set_cons_zero, List.set_cons_succ]) (hCont (gb345) _ ⟨hHeld, (by (with_reducible repeat (first | apply Kd.R_alloc | apply Kd.R_drewN | apply Kd.R_drew)); exact HO_4.out), (zb BK279.out), (zb BK289.out), (zb BK336.out), (zb BK345.out), GW345.out, GE345.out, NB279_345.out, NB345_279.out, NB289_345.out, NB345_289.out, NB336_345.out, NB345_336.out, (zw4 HB.out GE279.out GE289.out GE336.out GE345.out)⟩)
 rintro gb345 w167 ⟨hS_, h0_, h1_, h2_, h3_, h4_, h5_, h6_, h7_, h8_, h9_, h10_, h11_, h12_, h13_⟩
 have n0_ : Aside0 (Kd.R k62 62 w167 w.heap.size (fun k_ => k_ ≠ gb336 ∧ k_ ≠ gb345) (.slice (some ad329) t286.length co26) t286) := ⟨h0_⟩
 have n1_ : Aside0 (w167.heap[gb279]? = some (.cells #[.slice (some ad282) l0_0.length c0_0, .slice A0_1 l0_1.length c0_1, .slice A0_2 l0_2.length c0_2, .slice A0_3 l0_3.length c0_3] 54 (0, 0))) := ⟨h1_⟩
 have n2_ : Aside0 (w167.heap[gb289]? = some (.cells #[.bool ((Int.tmod x5_3 2) == 0), .int .i64 (wrap64 (2 + (wrap64 (2 * (Int.tmod x3_1 2)))))] 29 (0, 0))) := ⟨h2_⟩
 have n3_ : Aside0 (w167.heap[gb336]? = some (.cells #[.bool t330, .int .i64 t331, .int .i64 t332, .int .i64 t333] 62 (0, 0))) := ⟨h3_⟩
 have n4_ : Aside0 (w167.heap[gb345]? = some (.cells #[.bool false, .int .i64 0, .int .i64 0, .int .i64 0] 62 (0, 0))) := ⟨h4_⟩
 have n5_ : Aside0 (w.heap.size ≤ gb345) := ⟨h5_⟩
 have n6_ : Aside0 (w.heap.size ≤ gb345) := ⟨h6_⟩
 have n7_ : Aside0 (gb279 ≠ gb345) := ⟨h7_⟩
 have n8_ : Aside0 (gb345 ≠ gb279) := ⟨h8_⟩
 have n9_ : Aside0 (gb289 ≠ gb345) := ⟨h9_⟩
 have n10_ : Aside0 (gb345 ≠ gb289) := ⟨h10_⟩
 have n11_ : Aside0 (gb336 ≠ gb345) := ⟨h11_⟩
 have n12_ : Aside0 (gb345 ≠ gb336) := ⟨h12_⟩
 have n13_ : Aside0 (Below w.heap.size w w167) := ⟨h13_⟩
 clear HO_4
 clear BK279
 clear BK289
 clear BK336
 clear HB
 clear h0_ h1_ h2_ h3_ h4_ h5_ h6_ h7_ h8_ h9_ h10_ h11_ h12_ h13_
 have HO_4 := n0_
 have BK279 := n1_
 have BK289 := n2_
 have BK336 := n3_
 have BK345 := n4_
 have GW345 := n5_
 have GE345 := n6_
 have NB279_345 := n7_
 have NB345_279 := n8_
 have NB289_345 := n9_
 have NB345_289 := n10_
 have NB336_345 := n11_
 have NB345_336 := n12_
 have HB := n13_
 clear n0_ n1_ n2_ n3_ n4_ n5_ n6_ n7_ n8_ n9_ n10_ n11_ n12_ n13_
 have hHeld : w167.cell? ⟨gb279, 0, none⟩ = some (.slice (some ad282) l0_0.length c0_0) ∧ w167.cell? ⟨gb279, 1, none⟩ = some (.slice A0_1 l0_1.length c0_1) ∧ w167.cell? ⟨gb279, 2, none⟩ = some (.slice A0_2 l0_2.length c0_2) ∧ w167.cell? ⟨gb279, 3, none⟩ = some (.slice A0_3 l0_3.length c0_3) ∧ w167.cell? ⟨gb336, 0, none⟩ = some (.bool t330) ∧ w167.cell? ⟨gb336, 1, none⟩ = some (.int .i64 t331) ∧ w167.cell? ⟨gb336, 2, none⟩ = some (.int .i64 t332) ∧ w167.cell? ⟨gb336, 3, none⟩ = some (.int .i64 t333) ∧ w167.cell? (ad282.add (x3_1).toNat) = some (.slice A338_0 (rd_L4 l0_0 x3_1).length c338_0) := hS_
 refine norm_ (a' := ?_) ?_ ?_
 rotate_left
 ·simp only [putAll, Act.put, List.setIfInBounds_toArray, List.set_cons_zero, List.set_cons_succ]
  rfl
 refine one_ (i := 12) (N := none) cellarlaw9_MemBack.b165 rfl rfl (one_of HT_.out (by kernel_rfl)) (by decide) (fun K hK => ?_)
 have hs168 : w167.cell? ⟨gb345, 0, none⟩ = some (.bool false) := (blk_cell BK345.out 0).trans rfl
 have hfs168 := blk_frozen BK345.out 0
 have hns168_0 := NB279_345.out
 have hns168_1 := NB289_345.out
 have hns168_2 := NB336_345.out
 have hms168_0 := NB345_279.out
 have hms168_1 := NB345_289.out
 have hms168_2 := NB345_336.out
 have hs169 : w167.cell? ⟨gb345, 1, none⟩ = some (.int .i64 0) := (blk_cell BK345.out 1).trans rfl
 have hfs169 := blk_frozen BK345.out 1
 have hns169_0 := NB279_345.out
 have hns169_1 := NB289_345.out
 have hns169_2 := NB336_345.out
 have hms169_0 := NB345_279.out
 have hms169_1 := NB345_289.out
 have hms169_2 := NB345_336.out
 have hs170 : w167.cell? ⟨gb345, 2, none⟩ = some (.int .i64 0) := (blk_cell BK345.out 2).trans rfl
 have hfs170 := blk_frozen BK345.out 2
 have hns170_0 := NB279_345.out
 have hns170_1 := NB289_345.out
 have hns170_2 := NB336_345.out
 have hms170_0 := NB345_279.out
 have hms170_1 := NB345_289.out
 have hms170_2 := NB345_336.out
 have hs171 : w167.cell? ⟨gb345, 3, none⟩ = some (.int .i64 0) := (blk_cell BK345.out 3).trans rfl
 have hfs171 := blk_frozen BK345.out 3
 have hns171_0 := NB279_345.out
 have hns171_1 := NB289_345.out
 have hns171_2 := NB336_345.out
 have hms171_0 := NB345_279.out
 have hms171_1 := NB345_289.out
 have hms171_2 := NB345_336.out
 refine skip_ (w1 := ?_) (by rfl) rfl ?_ ?_
 rotate_left
 ·go_simp
  rfl
 refine hK.out _ _ ⟨((cell_far (p := ⟨gb345, _, none⟩) NB279_345.out _).trans (((cell_far (p := ⟨gb345, _, none⟩) NB279_345.out _).trans (((cell_far (p := ⟨gb345, _, none⟩) NB279_345.out _).trans (((cell_far (p := ⟨gb345, _, none⟩) NB279_345.out _).trans (hHeld.1)))))))), ((cell_far (p := ⟨gb345, _, none⟩) NB279_345.out _).trans (((cell_far (p := ⟨gb345, _, none⟩) NB279_345.out _).trans (((cell_far (p := ⟨gb345, _, none⟩) NB279_345.out _).trans (((cell_far (p := ⟨gb345, _, none⟩) NB279_345.out _).trans (hHeld.2.1)))))))), ((cell_far (p := ⟨gb345, _, none⟩) NB279_345.out _).trans (((cell_far (p := ⟨gb345, _, none⟩) NB279_345.out _).trans (((cell_far (p := ⟨gb345, _, none⟩) NB279_345.out _).trans (((cell_far (p := ⟨gb345, _, none⟩) NB279_345.out _).trans (hHeld.2.2.1)))))))), ((cell_far (p := ⟨gb345, _, none⟩) NB279_345.out _).trans (((cell_far (p := ⟨gb345, _, none⟩) NB279_345.out _).trans (((cell_far (p := ⟨gb345, _, none⟩) NB279_345.out _).trans (((cell_far (p := ⟨gb345, _, none⟩) NB279_345.out _).trans (hHeld.2.2.2.1)))))))), ((cell_far (p := ⟨gb345, _, none⟩) NB336_345.out _).trans (((cell_far (p := ⟨gb345, _, none⟩) NB336_345.out _).trans (((cell_far (p := ⟨gb345, _, none⟩) NB336_345.out _).trans (((cell_far (p := ⟨gb345, _, none⟩) NB336_345.out _).trans (hHeld.2.2.2.2.1)))))))), ((cell_far (p := ⟨gb345, _, none⟩) NB336_345.out _).trans (((cell_far (p := ⟨gb345, _, none⟩) NB336_345.out _).trans (((cell_far (p := ⟨gb345, _, none⟩) NB336_345.out _).trans (((cell_far (p := ⟨gb345, _, none⟩) NB336_345.out _).trans (hHeld.2.2.2.2.2.1)))))))), ((cell_far (p := ⟨gb345, _, none⟩) NB336_345.out _).trans (((cell_far (p := ⟨gb345, _, none⟩) NB336_345.out _).trans (((cell_far (p := ⟨gb345, _, none⟩) NB336_345.out _).trans (((cell_far (p := ⟨gb345, _, none⟩) NB336_345.out _).trans (hHeld.2.2.2.2.2.2.1)))))))), ((cell_far (p := ⟨gb345, _, none⟩) NB336_345.out _).trans (((cell_far (p := ⟨gb345, _, none⟩) NB336_345.out _).trans (((cell_far (p := ⟨gb345, _, none⟩) NB336_345.out _).trans (((cell_far (p := ⟨gb345, _, none⟩) NB336_345.out _).trans (hHeld.2.2.2.2.2.2.2.1)))))))), ((cell_far (p := ⟨gb345, _, none⟩) (zx (zfar hw338_0 GW345.out)) _).trans (((cell_far (p := ⟨gb345, _, none⟩) (zx (zfar hw338_0 GW345.out)) _).trans (((cell_far (p := ⟨gb345, _, none⟩) (zx (zfar hw338_0 GW345.out)) _).trans (((cell_far (p := ⟨gb345, _, none⟩) (zx (zfar hw338_0 GW345.out)) _).trans (hHeld.2.2.2.2.2.2.2.2))))))))⟩ (fun hHeld => ?_)
 clear hK K
 refine zq 13 (some 23) HT_ ?_; refine zq 14 (some 24) HT_ ?_
 refine done_ (done_of HT_.out (by kernel_rfl)) ?_
 try go_wp2
 have n0_ : Aside0 (Kd.R k62 62 ((((w167.setCell ⟨gb345, 0, none⟩ (.bool t339)).setCell ⟨gb345, 1, none⟩ (.int .i64 t340)).setCell ⟨gb345, 2, none⟩ (.int .i64 t341)).setCell ⟨gb345, 3, none⟩ (.int .i64 t342)) w.heap.size (fun k_ => k_ ≠ gb336 ∧ k_ ≠ gb345) (.slice (some ad329) t286.length co26) t286) := ⟨by (with_reducible repeat (first | apply Kd.R_alloc | apply Kd.R_drewN | apply Kd.R_drew)); exact Kd.R_mono (Kd.R_far (p := ⟨gb345, 3, none⟩) (Kd.R_far (p := ⟨gb345, 2, none⟩) (Kd.R_far (p := ⟨gb345, 1, none⟩) (Kd.R_far (p := ⟨gb345, 0, none⟩) (Kd.R_mono HO_4.out (fun k_ hk => (⟨hk, hk.2⟩ : _ ∧ k_ ≠ gb345))) (fun _ hk => hk.2) (.bool t339)) (fun _ hk => hk.2) (.int .i64 t340)) (fun _ hk => hk.2) (.int .i64 t341)) (fun _ hk => hk.2) (.int .i64 t342)) (fun _ hk => ⟨hk.1.1, hk.1.2⟩)⟩
 have n1_ : Aside0 (((((w167.setCell ⟨gb345, 0, none⟩ (.bool t339)).setCell ⟨gb345, 1, none⟩ (.int .i64 t340)).setCell ⟨gb345, 2, none⟩ (.int .i64 t341)).setCell ⟨gb345, 3, none⟩ (.int .i64 t342)).heap[gb279]? = some (.cells #[.slice (some ad282) l0_0.length c0_0, .slice A0_1 l0_1.length c0_1, .slice A0_2 l0_2.length c0_2, .slice A0_3 l0_3.length c0_3] 54 (0, 0))) := ⟨zf1 BK279.out NB279_345.out⟩
 have n2_ : Aside0 (((((w167.setCell ⟨gb345, 0, none⟩ (.bool t339)).setCell ⟨gb345, 1, none⟩ (.int .i64 t340)).setCell ⟨gb345, 2, none⟩ (.int .i64 t341)).setCell ⟨gb345, 3, none⟩ (.int .i64 t342)).heap[gb289]? = some (.cells #[.bool ((Int.tmod x5_3 2) == 0), .int .i64 (wrap64 (2 + (wrap64 (2 * (Int.tmod x3_1 2)))))] 29 (0, 0))) := ⟨zf1 BK289.out NB289_345.out⟩
 have n3_ : Aside0 (((((w167.setCell ⟨gb345, 0, none⟩ (.bool t339)).setCell ⟨gb345, 1, none⟩ (.int .i64 t340)).setCell ⟨gb345, 2, none⟩ (.int .i64 t341)).setCell ⟨gb345, 3, none⟩ (.int .i64 t342)).heap[gb336]? = some (.cells #[.bool t330, .int .i64 t331, .int .i64 t332, .int .i64 t333] 62 (0, 0))) := ⟨zf1 BK336.out NB336_345.out⟩
 have n4_ : Aside0 (((((w167.setCell ⟨gb345, 0, none⟩ (.bool t339)).setCell ⟨gb345, 1, none⟩ (.int .i64 t340)).setCell ⟨gb345, 2, none⟩ (.int .i64 t341)).setCell ⟨gb345, 3, none⟩ (.int .i64 t342)).heap[gb345]? = some (.cells #[.bool t339, .int .i64 t340, .int .i64 t341, .int .i64 t342] 62 (0, 0))) := ⟨by (with_reducible repeat (first | refine blk_drewN ?_ _ | refine blk_drew ?_ | refine blk_alloc ?_ _)); refine blk_put (cs := #[.bool t339, .int .i64 t340, .int .i64 t341, .int .i64 0]) ?_ 3 _ rfl; (with_reducible repeat (first | refine blk_drewN ?_ _ | refine blk_drew ?_ | refine blk_alloc ?_ _)); refine blk_put (cs := #[.bool t339, .int .i64 t340, .int .i64 0, .int .i64 0]) ?_ 2 _ rfl; (with_reducible repeat (first | refine blk_drewN ?_ _ | refine blk_drew ?_ | refine blk_alloc ?_ _)); refine blk_put (cs := #[.bool t339, .int .i64 0, .int .i64 0, .int .i64 0]) ?_ 1 _ rfl; (with_reducible repeat (first | refine blk_drewN ?_ _ | refine blk_drew ?_ | refine blk_alloc ?_ _)); refine blk_put (cs := #[.bool false, .int .i64 0, .int .i64 0, .int .i64 0]) ?_ 0 _ rfl; (with_reducible repeat (first | refine blk_drewN ?_ _ | refine blk_drew ?_ | refine blk_alloc ?_ _)); exact BK345.out⟩
 have n5_ : Aside0 (Below w.heap.size w ((((w167.setCell ⟨gb345, 0, none⟩ (.bool t339)).setCell ⟨gb345, 1, none⟩ (.int .i64 t340)).setCell ⟨gb345, 2, none⟩ (.int .i64 t341)).setCell ⟨gb345, 3, none⟩ (.int .i64 t342))) := ⟨zw4 HB.out GE279.out GE289.out GE336.out GE345.out⟩
 (try clear HO_4)
 (try clear BK279)
 (try clear BK289)
 (try clear BK336)
 (try clear BK345)
 (try clear HB)
 generalize ((((w167.setCell ⟨gb345, 0, none⟩ (.bool t339)).setCell ⟨gb345, 1, none⟩ (.int .i64 t340)).setCell ⟨gb345, 2, none⟩ (.int .i64 t341)).setCell ⟨gb345, 3, none⟩ (.int .i64 t342)) = w172 at n0_ n1_ n2_ n3_ n4_ n5_ ⊢
 have HO_4 := n0_
 have BK279 := n1_
 have BK289 := n2_
 have BK336 := n3_
 have BK345 := n4_
 have HB := n5_
 clear n0_ n1_ n2_ n3_ n4_ n5_
 have n0_ := Aside0.mk (Kd.R_drew HO_4.out)
 have n1_ := Aside0.mk (blk_drew BK279.out)
 have n2_ := Aside0.mk (blk_drew BK289.out)
 have n3_ := Aside0.mk (blk_drew BK336.out)
 have n4_ := Aside0.mk (blk_drew BK345.out)
 have n5_ := Aside0.mk (below_drew1 HB.out)
 clear HO_4
 clear BK279
 clear BK289
 clear BK336
 clear BK345
 clear HB
 have HO_4 := n0_
 have BK279 := n1_
 have BK289 := n2_
 have BK336 := n3_
 have BK345 := n4_
 have HB := n5_
 clear n0_ n1_ n2_ n3_ n4_ n5_
 have p346 : 0 ≤ (x3_1 : Int) := zdec
 have q346 : x3_1 < (l0_0.length : Int) := zdec
 obtain ⟨ad346, A346_0, c346_0, e346, hx346_0, hl346_0, hi346_0⟩ := at_L4 HR0_0.out x3_1 p346 q346
 have hw346_0 := hx346_0
 obtain rfl : ad282 = ad346 := (by injection e346)
 replace hx346_0 := zh HB.out hx346_0
 have HR346_0 := Aside0.mk hi346_0
 have HC346_0 := Aside0.mk hl346_0
 clear hi346_0 hl346_0
 replace p346 := eq_true p346
 replace q346 := eq_true q346
 have p347 : 0 ≤ (x5_3 : Int) := zdec
 have q347 : x5_3 < (t286.length : Int) := zdec
 obtain ⟨ad347, e347, hx347_0, hx347_1, hx347_2, hx347_3⟩ := at_T62 (Kd.R_reads' HO_4.out).2.2 x5_3 p347 q347
 obtain rfl : ad329 = ad347 := (by injection e347)
 replace p347 := eq_true p347
 replace q347 := eq_true q347
 refine start_ (n := 18) (S := fun w' => w'.cell? ⟨gb279, 0, none⟩ = some (.slice (some ad282) l0_0.length c0_0) ∧ w'.cell? ⟨gb279, 1, none⟩ = some (.slice A0_1 l0_1.length c0_1) ∧ w'.cell? ⟨gb279, 2, none⟩ = some (.slice A0_2 l0_2.length c0_2) ∧ w'.cell? ⟨gb279, 3, none⟩ = some (.slice A0_3 l0_3.length c0_3) ∧ w'.cell? ⟨gb336, 0, none⟩ = some (.bool t330) ∧ w'.cell? ⟨gb336, 1, none⟩ = some (.int .i64 t331) ∧ w'.cell? ⟨gb336, 2, none⟩ = some (.int .i64 t332) ∧ w'.cell? ⟨gb336, 3, none⟩ = some (.int .i64 t333) ∧ w'.cell? (ad282.add (x3_1).toNat) = some (.slice A346_0 (rd_L4 l0_0 x3_1).length c346_0) ∧ w'.cell? (ad329.add ((x5_3).toNat * 4)) = some (.bool ((rd_T62 t286 x5_3).f0)) ∧ w'.cell? ⟨(ad329.add ((x5_3).toNat * 4)).block, (ad329.add ((x5_3).toNat * 4)).off + 1, none⟩ = some (.int .i64 ((rd_T62 t286 x5_3).f1)) ∧ w'.cell? ⟨(ad329.add ((x5_3).toNat * 4)).block, (ad329.add ((x5_3).toNat * 4)).off + 2, none⟩ = some (.int .i64 ((rd_T62 t286 x5_3).f2)) ∧ w'.cell? ⟨(ad329.add ((x5_3).toNat * 4)).block, (ad329.add ((x5_3).toNat * 4)).off + 3, none⟩ = some (.int .i64 ((rd_T62 t286 x5_3).f3))) (ds := []) cellarlaw9_MemBack.b123 (by kernel_rfl) rfl rfl ⟨(blk_cell BK279.out 0).trans rfl, (blk_cell BK279.out 1).trans rfl, (blk_cell BK279.out 2).trans rfl, (blk_cell BK279.out 3).trans rfl, (blk_cell BK336.out 0).trans rfl, (blk_cell BK336.out 1).trans rfl, (blk_cell BK336.out 2).trans rfl, (blk_cell BK336.out 3).trans rfl, ((HB.out.cell (World.block_lt_of_cell? w _ hw346_0)).trans hw346_0), hx347_0, hx347_1, hx347_2, hx347_3⟩ (fun hHeld => ?_); refine with_tabW cellarlaw9_MemBack.tab40 cellarlaw9_MemBack.bits40 (fun HT_ HW_ => ?_)
 generalize w172.drew = w173 at HO_4 BK279 BK289 BK336 BK345 HB HR346_0 hx346_0 hx347_0 hx347_1 hx347_2 hx347_3 hHeld ⊢
 refine zq 0 (some 292) HT_ ?_; refine zq 2 (some 294) HT_ ?_; refine zq 6 (some 298) HT_ ?_; refine zq 7 (some 299) HT_ ?_; refine zq 8 (some 300) HT_ ?_; refine zt 1 (some 293) HT_ HW_ hHeld ?_; refine zq 3 (some 295) HT_ ?_; refine zt 4 (some 296) HT_ HW_ hHeld ?_; refine zt 5 (some 297) HT_ HW_ hHeld ?_; refine zt 9 (some 301) HT_ HW_ hHeld ?_
 refine one_ (i := 10) (N := some 302) cellarlaw9_MemBack.b136 rfl rfl (one_of HT_.out (by kernel_rfl)) (by decide) (fun K hK => ?_)
 refine goes_ Try.func45 (by kernel_rfl) rfl #[.slice A346_0 (rd_L4 l0_0 x3_1).length c346_0, .agg #[.bool t330, .int .i64 t331, .int .i64 t332, .int .i64 t333], .agg #[.bool ((rd_T62 t286 x5_3).f0), .int .i64 ((rd_T62 t286 x5_3).f1), .int .i64 ((rd_T62 t286 x5_3).f2), .int .i64 ((rd_T62 t286 x5_3).f3)]] (by rfl) rfl rfl (by (try simp only [List.map_toArray, List.map_cons, List.map_nil]); first | done | rfl | (simp only [List.length_drop, List.length_take]; rfl)) ?_
 with_reducible refine (mem_Apart.calls _ _ (rd_L4 l0_0 x3_1) t330 t331 t332 t333 ((rd_T62 t286 x5_3).f0) ((rd_T62 t286 x5_3).f1) ((rd_T62 t286 x5_3).f2) ((rd_T62 t286 x5_3).f3) t348 t349 t350 _ ?side1 ?side2 A162.out).mono ?_
 (case side1 => repeat (first | exact (Kd.C_below HR346_0.out HB.out) | (with_reducible refine Kd.C_alloc ?_ _) | (with_reducible refine Kd.C_drewN ?_ _) | (with_reducible refine Kd.C_drew ?_)))
 (case side2 => exact HC346_0.out)
 rintro e w174 ⟨rfl, hb⟩
 have HS9_ := (hb.cell (World.block_lt_of_cell? _ _ (hHeld.2.2.2.2.2.2.2.2.2.1))).trans (hHeld.2.2.2.2.2.2.2.2.2.1)
 have HS10_ := (hb.cell (World.block_lt_of_cell? _ _ (hHeld.2.2.2.2.2.2.2.2.2.2.1))).trans (hHeld.2.2.2.2.2.2.2.2.2.2.1)
 have HS11_ := (hb.cell (World.block_lt_of_cell? _ _ (hHeld.2.2.2.2.2.2.2.2.2.2.2.1))).trans (hHeld.2.2.2.2.2.2.2.2.2.2.2.1)
 have HS12_ := (hb.cell (World.block_lt_of_cell? _ _ (hHeld.2.2.2.2.2.2.2.2.2.2.2.2))).trans (hHeld.2.2.2.2.2.2.2.2.2.2.2.2)
 refine ⟨_, rfl, ?_⟩
 have n0_ := Aside0.mk (Kd.R_below (by (with_reducible repeat (first | apply Kd.R_alloc | apply Kd.R_drewN | apply Kd.R_drew)); exact HO_4.out) hb)
 have n1_ := Aside0.mk (zbb BK279.out hb)
 have n2_ := Aside0.mk (zbb BK289.out hb)
 have n3_ := Aside0.mk (zbb BK336.out hb)
 have n4_ := Aside0.mk (zbb BK345.out hb)
 have n5_ := Aside0.mk (below_step (zw4 HB.out GE279.out GE289.out GE336.out GE345.out) hb)
 clear HO_4
 clear BK279
 clear BK289
 clear BK336
 clear BK345
 clear HB
 have HO_4 := n0_
 have BK279 := n1_
 have BK289 := n2_
 have BK336 := n3_
 have BK345 := n4_
 have HB := n5_
 clear n0_ n1_ n2_ n3_ n4_ n5_
 (try clear hb)
 (try clear hb2)
 (try clear hk)
 (try clear hi)
 refine hK.out _ _ ⟨(blk_cell BK279.out 0).trans rfl, (blk_cell BK279.out 1).trans rfl, (blk_cell BK279.out 2).trans rfl, (blk_cell BK279.out 3).trans rfl, (blk_cell BK336.out 0).trans rfl, (blk_cell BK336.out 1).trans rfl, (blk_cell BK336.out 2).trans rfl, (blk_cell BK336.out 3).trans rfl, ((HB.out.cell (World.block_lt_of_cell? w _ hw346_0)).trans hw346_0), HS9_, HS10_, HS11_, HS12_⟩ (fun hHeld => ?_)
 clear hK K
 refine norm_ (a' := ?_) ?_ ?_
 rotate_left
 ·show Act.put _ (some 302) _ = _
  simp only [Act.put, List.setIfInBounds_toArray, List.set_cons_zero, List.set_cons_succ, i64_w, i32_w]
  rfl
 refine zq 11 (some 291) HT_ ?_; refine zq 12 (some 303) HT_ ?_; refine zq 13 (some 304) HT_ ?_; refine zq 14 (some 305) HT_ ?_; refine zq 15 (some 25) HT_ ?_; refine zq 16 (some 26) HT_ ?_; refine zq 17 (some 27) HT_ ?_
 refine done_ (done_of HT_.out (by kernel_rfl)) ?_
 go_upto_region 41 with (fail)
 go_cut [333] (fun v333 wc => ∃ (kq : Nat) (x333_162 : Bool), v333 = .bool x333_162 ∧ Aside0 (cellarlaw9_MemBack.j12 kq x3_1 t286 x5_3 x333_162 l0_0 l0_1 l0_2 l0_3 = some r) ∧ Aside0 (kq ≤ kj144) ∧ Aside0 (Kd.R k62 62 wc w.heap.size (fun k_ => k_ ≠ gb336 ∧ k_ ≠ gb345) (.slice (some ad329) t286.length co26) t286) ∧ Aside0 (wc.heap[gb279]? = some (.cells #[(.slice (some ad282) l0_0.length c0_0), (.slice A0_1 l0_1.length c0_1), (.slice A0_2 l0_2.length c0_2), (.slice A0_3 l0_3.length c0_3)] 54 (0, 0))) ∧ Aside0 (wc.heap[gb289]? = some (.cells #[.bool ((Int.tmod x5_3 2) == 0), .int .i64 (wrap64 (2 + (wrap64 (2 * (Int.tmod x3_1 2)))))] 29 (0, 0))) ∧ Aside0 (wc.heap[gb336]? = some (.cells #[.bool t330, .int .i64 t331, .int .i64 t332, .int .i64 t333] 62 (0, 0))) ∧ Aside0 (wc.heap[gb345]? = some (.cells #[.bool t339, .int .i64 t340, .int .i64 t341, .int .i64 t342] 62 (0, 0))) ∧ Aside0 (Below w.heap.size w wc))
 case first =>
  rename_i q9_ q18_ q100_ q101_ q102_ q103_ q104_ _ _ q105_ q106_ q107_ q108_ _ q109_ q110_ q111_ q112_ q113_
  clear q9_ q18_ q100_ q101_ q102_ q103_ q104_ q105_ q106_ q107_ q108_ q109_
  revert k c0_0 l0_0 A0_1 c0_1 l0_1 A0_2 c0_2 l0_2 A0_3 c0_3 l0_3 r w hu54 hu29 hu62 hu74 HC0_0 HR0_1 HC0_1 HR0_2 HC0_2 HR0_3 HC0_3 A2 q1_ gb279 w7 GW279 GE279 hfz8_0 hfz8_1 hfz8_2 hfz8_3 q2_ q3_ q4_ q5_ x3_1 k1 q7_ HK1 q8_ u30 u31 u32 u33 u34 u35 u36 u37 u39 u40 kj9 HJ9 c15b0 c16b0 t283 A17 t284 A18 c19b0 c19b1 t286 A20 hfz21_0 hfz21_1 hfz21_2 hfz21_3 ad282 A282_0 c282_0 HR0_0 hcz8_0 hcz8_1 hcz8_2 hcz8_3 q6_ hcz21_0 hcz21_1 hcz21_2 hcz21_3 hx282_0 HR282_0 HC282_0 p282 q282 q10_ q11_ nd A285_0 c285_0 hw285_0 HR285_0 HC285_0 p285 q285 w23 hx285_0 w24 e285 u19 u20 u21 u22 u23 u24 u25 u26 u27 q19_ q24_ q25_ q26_ q27_ q28_ q29_ q30_ q31_ q32_ q33_ q34_ q35_ q36_ q37_ q38_ q39_ q40_ q41_ q42_ q43_ q44_ q45_ q46_ q47_ q48_ q49_ q50_ q51_ q52_ q53_ q54_ q55_ q56_ q57_ q58_ q59_ q60_ q61_ q62_ q63_ q64_ q65_ q66_ q67_ q68_ q69_ q70_ q71_ q72_ q73_ q74_ q75_ q76_ q77_ q78_ q79_ q80_ q81_ q82_ q83_ q84_ q85_ q86_ q87_ q88_ q89_ q90_ q91_ q92_ q93_ q94_ q95_ q96_ q97_ q98_ q99_ q13_ q14_ x5_3 k3 q16_ HK3 c25b0 co26 q12_ q17_ gb289 w27 GW289 GE289 NB279_289 NB289_279 hnb28 hnc28 hcz29_0 hcz29_1 hfz29_0 hfz29_1 u2 u8 u9 u10 u11 u12 u13 u14 u15 u16 u17 u18 q20_ q21_ x7_4 k4 q23_ HK4 c30b0 c140b0 c141b0 c142b0 c143b0 t330 t331 t332 t333 t334 t335 A144 A328_0 c328_0 hw328_0 HR328_0 HC328_0 p328 q328 ad329 HO288 q15_ q22_ p329 q329 w146 hx328_0 hx329_0 hx329_1 hx329_2 hx329_3 gb336 w149 GW336 GE336 NB279_336 NB336_279 NB289_336 NB336_289 hs150 hfs150 hns150_0 hns150_1 hms150_0 hms150_1 hs151 hfs151 hns151_0 hns151_1 hms151_0 hms151_1 hs152 hfs152 hns152_0 hns152_1 hms152_0 hms152_1 hs153 hfs153 hns153_0 hns153_1 hms153_0 hms153_1 u56 u57 u58 u59 u60 u61 u62 u63 u64 u65 u66 u67 u68 u69 u70 u71 u72 u73 u74 u75 u76 u77 u78 u79 u80 u81 u82 u83 u84 u85 u86 u87 u88 u89 u90 u91 u92 u93 u94 u95 u96 u97 u98 u99 u100 u101 u102 u103 u104 u105 u106 u107 u108 u109 u110 u111 u112 u113 u114 u115 u116 u117 u118 u119 u120 u121 u122 u123 u124 u125 u126 u127 u128 u129 u130 u131 u132 u133 u134 u135 u136 u137 u138 u139 u140 u141 u142 u143 u144 u145 u146 u147 u148 u149 u150 u151 u152 u153 u154 u155 u156 u157 u158 u159 u160 u161 u162 u163 u164 u165 u166 u167 u168 u169 u170 u171 u172 u173 u174 u175 u176 u177 u178 u179 u180 u181 u182 u183 u184 u185 u186 u187 u188 u189 u190 u191 u192 u193 u194 u195 u196 u197 u198 u199 u200 u201 u202 u203 u204 u205 u206 u207 u208 u209 u210 u211 u212 u213 u214 u215 u216 u217 u218 u219 u220 u221 u222 u223 u224 u225 u226 u227 u228 u229 u230 u231 u232 u233 u234 u235 u236 u237 u238 u239 u240 u241 u242 u243 u244 u245 u246 u247 u248 u249 u250 u251 u252 u253 u254 u255 u256 u257 u258 u259 u260 u261 u262 u263 u264 u265 u266 u267 u268 u269 u270 u271 u272 u273 u274 u275 u276 u277 u278 u306 u307 u308 u309 u310 u311 u312 u313 u314 u315 u316 u317 u318 u319 u320 u321 u322 u323 u324 u325 u326 u327 u328 u329 u330 u331 u332 u333 kj144 HJ144 c157b0 c158b0 t339 t340 t341 t342 t343 t344 A159 c160b0 c161b0 t348 t349 t350 A162 HC163 e328 A338_0 c338_0 hw338_0 HR338_0 HC338_0 p338 q338 w164 hx338_0 gb345 w167 hS_ GW345 GE345 NB279_345 NB345_279 NB289_345 NB345_289 NB336_345 NB345_336 hs168 hfs168 hns168_0 hns168_1 hns168_2 hms168_0 hms168_1 hms168_2 hs169 hfs169 hns169_0 hns169_1 hns169_2 hms169_0 hms169_1 hms169_2 hs170 hfs170 hns170_0 hns170_1 hns170_2 hms170_0 hms170_1 hms170_2 hs171 hfs171 hns171_0 hns171_1 hns171_2 hms171_0 hms171_1 hms171_2 e338 A346_0 c346_0 e346 hw346_0 HR346_0 HC346_0 p346 q346 e347 p347 q347 HT_ HW_ w173 hx346_0 hx347_0 hx347_1 hx347_2 hx347_3 w174 HS9_ HS10_ HS11_ HS12_ HO_4 BK279 BK289 BK336 BK345 HB hHeld q110_ q111_ q112_ q113_
  exact cutP1.out
 case rest =>
 rename_i q9_ q18_ q100_ q101_ q102_ q103_ q104_ _ _ _ _ _ _ _ _ _ _ _ _ _ _ _ _ _ _ _ _ _ _ _ _ _ _ _ _ _ _ _ _ _ _ _ _ _ _ _ _ _ _ _ _ _ _ _ _ _ _ _ _ _ _ _ _ _ _ _ _ _ _ _ _ _ _ _ _ _ _ _ _ _ _ _ _ _ _ _ _ _ _ _ _ _ _ _ _ _ _ _ _ _ _ _ _ _ _ _ _ _ _ _ _ _ _ _ _ _ _ _ _ _ _ _ _ _ _ _ _ _ _ _ _ _ _ _ _ _ _ _ _ _ _ _ _ _ _ _ _ _ _ _ _ _ _ _ _ _ _ _ _ _ _ _ _ _ _ _ _ _ _ _ _ _ _ _ _ _ _ _ _ _ _ _ _ _ _ _ _ _ _ _ _ _ _ _ _ _ _ _ _ _ _ _ _ _ _ _ _ _ _ _ _ _ _ _ _ _ _ _ _ _ _ _ _ _ _ _ _ _ _ _ _ _ _ _ _ _ _ _ _ _ _ _ _ _ _ _ _ _ _ _ _ _ _ _ _ _ _ _ _ _ _ _ _ _ _ _ _ _ _ _ _ _ _ _ _ _ _ _ _ _ _ _ _ _ _ _ _ q105_ q106_ q107_ q108_ q109_ q110_
 clear q9_ q18_ q100_ q101_ q102_ q103_ q104_ q105_ q106_ q107_ q108_
 revert k c0_0 l0_0 A0_1 c0_1 l0_1 A0_2 c0_2 l0_2 A0_3 c0_3 l0_3 r w hu54 hu29 hu62 hu74 HC0_0 HR0_1 HC0_1 HR0_2 HC0_2 HR0_3 HC0_3 A2 q1_ gb279 w7 GW279 GE279 hfz8_0 hfz8_1 hfz8_2 hfz8_3 q2_ q3_ q4_ q5_ x3_1 k1 q7_ HK1 q8_ u30 u31 u32 u33 u34 u35 u36 u37 u39 u40 kj9 HJ9 c15b0 c16b0 t283 A17 t284 A18 c19b0 c19b1 t286 A20 hfz21_0 hfz21_1 hfz21_2 hfz21_3 ad282 A282_0 c282_0 HR0_0 hcz8_0 hcz8_1 hcz8_2 hcz8_3 q6_ hcz21_0 hcz21_1 hcz21_2 hcz21_3 hx282_0 HR282_0 HC282_0 p282 q282 q10_ q11_ A285_0 c285_0 hw285_0 HR285_0 HC285_0 p285 q285 w23 hx285_0 w24 e285 u19 u20 u21 u22 u23 u24 u25 u26 u27 q19_ q24_ q25_ q26_ q27_ q28_ q29_ q30_ q31_ q32_ q33_ q34_ q35_ q36_ q37_ q38_ q39_ q40_ q41_ q42_ q43_ q44_ q45_ q46_ q47_ q48_ q49_ q50_ q51_ q52_ q53_ q54_ q55_ q56_ q57_ q58_ q59_ q60_ q61_ q62_ q63_ q64_ q65_ q66_ q67_ q68_ q69_ q70_ q71_ q72_ q73_ q74_ q75_ q76_ q77_ q78_ q79_ q80_ q81_ q82_ q83_ q84_ q85_ q86_ q87_ q88_ q89_ q90_ q91_ q92_ q93_ q94_ q95_ q96_ q97_ q98_ q99_ q13_ q14_ x5_3 k3 q16_ HK3 c25b0 co26 q12_ q17_ gb289 w27 GW289 GE289 NB279_289 NB289_279 hnb28 hnc28 hcz29_0 hcz29_1 hfz29_0 hfz29_1 u2 u8 u9 u10 u11 u12 u13 u14 u15 u16 u17 u18 q20_ q21_ x7_4 k4 q23_ HK4 c30b0 c140b0 c141b0 c142b0 c143b0 t330 t331 t332 t333 t334 t335 A144 A328_0 c328_0 hw328_0 HR328_0 HC328_0 p328 q328 ad329 HO288 q15_ q22_ p329 q329 w146 hx328_0 hx329_0 hx329_1 hx329_2 hx329_3 gb336 w149 GW336 GE336 NB279_336 NB336_279 NB289_336 NB336_289 hs150 hfs150 hns150_0 hns150_1 hms150_0 hms150_1 hs151 hfs151 hns151_0 hns151_1 hms151_0 hms151_1 hs152 hfs152 hns152_0 hns152_1 hms152_0 hms152_1 hs153 hfs153 hns153_0 hns153_1 hms153_0 hms153_1 kj144 HJ144 c157b0 c158b0 t339 t340 t341 t342 t343 t344 A159 c160b0 c161b0 t348 t349 t350 A162 HC163 e328 A338_0 c338_0 hw338_0 HR338_0 HC338_0 p338 q338 w164 hx338_0 gb345 w167 hS_ GW345 GE345 NB279_345 NB345_279 NB289_345 NB345_289 NB336_345 NB345_336 hs168 hfs168 hns168_0 hns168_1 hns168_2 hms168_0 hms168_1 hms168_2 hs169 hfs169 hns169_0 hns169_1 hns169_2 hms169_0 hms169_1 hms169_2 hs170 hfs170 hns170_0 hns170_1 hns170_2 hms170_0 hms170_1 hms170_2 hs171 hfs171 hns171_0 hns171_1 hns171_2 hms171_0 hms171_1 hms171_2 e338 A346_0 c346_0 e346 hw346_0 HR346_0 HC346_0 p346 q346 e347 p347 q347 HT_ HW_ w173 hx346_0 hx347_0 hx347_1 hx347_2 hx347_3 w174 HS9_ HS10_ HS11_ HS12_ HO_4 BK279 BK289 BK336 BK345 HB hHeld q109_ q110_ wc u56 u57 u58 u59 u60 u61 u62 u63 u64 u65 u66 u67 u68 u69 u70 u71 u72 u73 u74 u75 u76 u77 u78 u79 u80 u81 u82 u83 u84 u85 u86 u87 u88 u89 u90 u91 u92 u93 u94 u95 u96 u97 u98 u99 u100 u101 u102 u103 u104 u105 u106 u107 u108 u109 u110 u111 u112 u113 u114 u115 u116 u117 u118 u119 u120 u121 u122 u123 u124 u125 u126 u127 u128 u129 u130 u131 u132 u133 u134 u135 u136 u137 u138 u139 u140 u141 u142 u143 u144 u145 u146 u147 u148 u149 u150 u151 u152 u153 u154 u155 u156 u157 u158 u159 u160 u161 u162 u163 u164 u165 u166 u167 u168 u169 u170 u171 u172 u173 u174 u175 u176 u177 u178 u179 u180 u181 u182 u183 u184 u185 u186 u187 u188 u189 u190 u191 u192 u193 u194 u195 u196 u197 u198 u199 u200 u201 u202 u203 u204 u205 u206 u207 u208 u209 u210 u211 u212 u213 u214 u215 u216 u217 u218 u219 u220 u221 u222 u223 u224 u225 u226 u227 u228 u229 u230 u231 u232 u233 u234 u235 u236 u237 u238 u239 u240 u241 u242 u243 u244 u245 u246 u247 u248 u249 u250 u251 u252 u253 u254 u255 u256 u257 u258 u259 u260 u261 u262 u263 u264 u265 u266 u267 u268 u269 u270 u271 u272 u273 u274 u275 u276 u277 u278 u279 u280 u281 u282 u283 u284 u285 u286 u287 u288 u289 u290 u291 u292 u293 u294 u295 u296 u297 u298 u299 u300 u301 u302 u303 u304 u305 u306 u307 u308 u309 u310 u311 u312 u313 u314 u315 u316 u317 u318 u319 u320 u321 u322 u323 u324 u325 u326 u327 u328 u329 u330 u331 u332 u333 hcut
 exact cutP2.out
end Go.Proofs.Ytjoplkillkhiaaa.Q2
