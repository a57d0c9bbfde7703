-- Written by this session's own edition of the print.
import Derived.Test.YthhdmanpjeminaaBx0
import Derived.Test.YthhdmanpjeminaaBx1
import Derived.Test.YthhdmanpjeminaaBx2
import Derived.Test.YthhdmanpjeminaaBx3
import Derived.Test.YthhdmanpjeminaaBx5
import Derived.Test.YthhdmanpjeminaaBx6
import Derived.Test.YthhdmanpjeminaaBx7
import Derived.Test.YthhdmanpjeminaaUSq
import Derived.Test.YthhdmanpjeminaaUSq2
import Derived.Test.YthhdmanpjeminaaUSq3
import Derived.Test.YthhdmanpjeminaaBx8
import Derived.Test.YthhdmanpjeminaaCut
import Derived.Test.YthhdmanpjeminaaBy
import Derived.Test.YthhdmanpjeminaaBya
namespace Go.Proofs.Ythhdmanpjeminaa.B
open Go.Proofs.Ythhdmanpjeminaa.Cuts Go.RowKit Go.Proofs.Ythhdmanpjeminaa.Fn Go.Proofs.YthhdmanpjeminaaW.PrintWords Go.Proofs.YthhdmanpjeminaaW.PrintLast Go.Proofs.YthhdmanpjeminaaW.PrintMore
set_option linter.unusedSimpArgs false in
set_option linter.unusedVariables false in
set_option maxHeartbeats 60000000 in
set_option maxRecDepth 100000 in
theorem cellarlaw8_BytesBack.part_aa : cellarlaw8_BytesBack.cut_a.P1 := by
 intro k A0_0 c0_0 l0_0 c0_1 l0_1 A0_2 c0_2 l0_2 r w hu26 hu38 hu33 hu51 HR0_0 HC0_0 HC0_1 HR0_2 HC0_2 A2 q1_ gb183 w7 GW183 GE183 hfz8_0 hfz8_1 hfz8_2 q4_ q5_ q6_ q7_ x3_1 k1 q11_ HK1 u21 u22 u23 u24 u25 u26 u27 u28 u30 u31 kj9 HJ9 q14_ q15_ u34 u35 q16_ q17_ x4_3 k3 q21_ HK3 c15b0 q22_ q23_ u2 u18 u38 u39 u90 u91 u92 u93 u94 u95 u96 u97 u98 u99 u100 u101 u102 u103 u104 u105 u106 u107 u108 u109 u110 u111 u112 u113 u114 u115 u116 u117 u118 u119 u120 u121 u122 u123 u124 u125 u126 u127 u128 u129 u130 u131 u132 u133 u134 u135 u136 u137 u138 u139 u140 u141 u142 u143 u144 u145 u146 u147 u148 u149 u150 u151 u152 u153 u154 u155 u156 u157 u158 u159 u160 u161 u162 u163 u164 u165 u166 u167 u168 u169 u170 u171 u172 u173 u174 u175 u176 u177 u178 u179 u180 q24_ q25_ x5_4 k4 q27_ HK4 c16b0 q28_ q29_ q30_ q31_ q33_ c18b0 c19b0 t188 t191 A20 t193 t196 A21 t197 A22 t198 A23 c24b0 c24b1 t199 A25 c26b0 c26b1 t200 t201 t202 t203 t204 t205 A27 t207 t208 t209 t210 t211 t212 A28 HC29 gb185 GW185 GE185 NB183_185 NB185_183 gb186 w31 GW186 GE186 NB183_186 NB186_183 NB185_186 NB186_185 hnb32 hnc32 hnb33 hnc33 hcz34_0 hcz34_1 hfz34_0 hfz34_1 hnb35 hnc35 hcz36_0 hcz36_1 hfz36_0 hfz36_1 ad187 hw187_3 hw187_2 hw187_1 hw187_0 HR0_1 hcz8_0 hcz8_1 hcz8_2 q8_ q18_ q26_ q32_ p187 q187 w38 hx187_0 hx187_1 hx187_2 hx187_3 e192 hw192_3 hw192_2 hw192_1 hw192_0 p192 q192 HT_ HW_ w40 hx192_0 hx192_1 hx192_2 hx192_3 q10_ hHeld w41 nd hcz42_0 hcz42_1 hfz42_0 hfz42_1 Ao43 co43 gb206 w45 GW206 GE206 NB183_206 NB206_183 NB185_206 NB206_185 NB186_206 NB206_186 hnb46 hnc46 hnb47 hnc47 hnb48 hnc48 hcz49_0 hcz49_1 hcz49_2 hcz49_3 hfz49_0 hfz49_1 hfz49_2 hfz49_3 hcz50_0 hcz50_1 hfz50_0 hfz50_1 Ao51 co51 gb213 w53 BK213 GW213 GE213 NB183_213 NB213_183 NB185_213 NB213_185 NB186_213 NB213_186 NB206_213 NB213_206 HO190 HO195 BK183 BK185 BK186 BK206 HB hnb54 hnc54 hnb55 hnc55 hnb56 hnc56 hnb57 hnc57 hcz58_0 hcz58_1 hcz58_2 hcz58_3 hfz58_0 hfz58_1 hfz58_2 hfz58_3 q12_ q13_ q19_ q20_ q34_ q35_ q36_ q37_
 have H := HC29.out
 clear HC29
 replace H := Option.bind_eq_some_iff.mp H
 obtain ⟨t214, A590, H⟩ := H
 replace H : (if t214 = 0 then ((cellarlaw8_num.f t212).bind fun t215 => (if t215 = 0 then (if t204 = 0 then (if t211 = 0 then (if (!(t200 == ((rd_T33 l0_1 x3_1).f0)) || (!(t201 == ((rd_T33 l0_1 x3_1).f1)) || (!(t202 == ((rd_T33 l0_1 x3_1).f2)) || (!(t203 == ((rd_T33 l0_1 x3_1).f3)))))) = true then (cellarlaw8_BytesBack.j4 k4 x3_1 x4_3 x5_4 t188 t193 true l0_0 l0_1 l0_2 false x5_4) else (if (!(t207 == ((rd_T33 l0_1 x3_1).f0)) || (!(t208 == ((rd_T33 l0_1 x3_1).f1)) || (!(t209 == ((rd_T33 l0_1 x3_1).f2)) || (!(t210 == ((rd_T33 l0_1 x3_1).f3)))))) = true then (cellarlaw8_BytesBack.j4 k4 x3_1 x4_3 x5_4 t188 t193 true l0_0 l0_1 l0_2 false x5_4) else (if (t188.length : Int) = (t193.length : Int) then (cellarlaw8_BytesBack.j4 k4 x3_1 x4_3 x5_4 t188 t193 ((t188.length : Int) == 0) l0_0 l0_1 l0_2 false x5_4) else (cellarlaw8_BytesBack.j4 k4 x3_1 x4_3 x5_4 t188 t193 true l0_0 l0_1 l0_2 false x5_4)))) else (cellarlaw8_BytesBack.j4 k4 x3_1 x4_3 x5_4 t188 t193 true l0_0 l0_1 l0_2 false x5_4)) else (cellarlaw8_BytesBack.j4 k4 x3_1 x4_3 x5_4 t188 t193 true l0_0 l0_1 l0_2 false x5_4)) else (cellarlaw8_BytesBack.j4 k4 x3_1 x4_3 x5_4 t188 t193 true l0_0 l0_1 l0_2 false x5_4))) else (cellarlaw8_BytesBack.j4 k4 x3_1 x4_3 x5_4 t188 t193 true l0_0 l0_1 l0_2 false x5_4)) = some r := H
 have A59 := Aside0.mk A590
 clear A590
 by_cases c60 : t214 = 0
 rotate_left
 ·rw [if_neg c60] at H
  have c60b0 : (t214 == 0) = false := beq_eq_false_iff_ne.mpr c60
  have c60b1 : (t214 != 0) = true := bne_iff_ne.mpr c60
  (first | rw [c60b0] | rw [c60b1] | (simp only [i64_w, i32_w]; rw [c60b0]) | skip)
  have H' := Aside0.mk H
  clear H
  try go_wp2
  have n0_ : Aside0 (Kd.R k51 51 ((((w53.setCell ⟨gb213, 0, none⟩ (.bool t207)).setCell ⟨gb213, 1, none⟩ (.int .i64 t208)).setCell ⟨gb213, 2, none⟩ (.int .i64 t209)).setCell ⟨gb213, 3, none⟩ (.int .i64 t210)) w.heap.size (fun k_ => some k_ ≠ (.slice Ao51 t193.length co51 : Value).ownBlock) (.slice Ao43 t188.length co43) t188) := ⟨by (with_reducible repeat (first | apply Kd.R_alloc | apply Kd.R_drewN | apply Kd.R_drew)); exact Kd.R_mono (Kd.R_far (p := ⟨gb213, 3, none⟩) (Kd.R_far (p := ⟨gb213, 2, none⟩) (Kd.R_far (p := ⟨gb213, 1, none⟩) (Kd.R_far (p := ⟨gb213, 0, none⟩) (Kd.R_types HO190.out BK213.out (by decide)) (fun _ hk => hk.2) (.bool t207)) (fun _ hk => hk.2) (.int .i64 t208)) (fun _ hk => hk.2) (.int .i64 t209)) (fun _ hk => hk.2) (.int .i64 t210)) (fun _ hk => hk.1)⟩
  have n1_ : Aside0 (Kd.R k51 51 ((((w53.setCell ⟨gb213, 0, none⟩ (.bool t207)).setCell ⟨gb213, 1, none⟩ (.int .i64 t208)).setCell ⟨gb213, 2, none⟩ (.int .i64 t209)).setCell ⟨gb213, 3, none⟩ (.int .i64 t210)) w.heap.size (fun k_ => some k_ ≠ (.slice Ao43 t188.length co43 : Value).ownBlock) (.slice Ao51 t193.length co51) t193) := ⟨by (with_reducible repeat (first | apply Kd.R_alloc | apply Kd.R_drewN | apply Kd.R_drew)); exact Kd.R_mono (Kd.R_far (p := ⟨gb213, 3, none⟩) (Kd.R_far (p := ⟨gb213, 2, none⟩) (Kd.R_far (p := ⟨gb213, 1, none⟩) (Kd.R_far (p := ⟨gb213, 0, none⟩) (Kd.R_types HO195.out BK213.out (by decide)) (fun _ hk => hk.2) (.bool t207)) (fun _ hk => hk.2) (.int .i64 t208)) (fun _ hk => hk.2) (.int .i64 t209)) (fun _ hk => hk.2) (.int .i64 t210)) (fun _ hk => hk.1)⟩
  have n2_ : Aside0 (((((w53.setCell ⟨gb213, 0, none⟩ (.bool t207)).setCell ⟨gb213, 1, none⟩ (.int .i64 t208)).setCell ⟨gb213, 2, none⟩ (.int .i64 t209)).setCell ⟨gb213, 3, none⟩ (.int .i64 t210)).heap[gb183]? = some (.cells #[.slice A0_0 l0_0.length c0_0, .slice (some ad187) l0_1.length c0_1, .slice A0_2 l0_2.length c0_2] 26 (0, 0))) := ⟨zf1 BK183.out NB183_213.out⟩
  have n3_ : Aside0 (((((w53.setCell ⟨gb213, 0, none⟩ (.bool t207)).setCell ⟨gb213, 1, none⟩ (.int .i64 t208)).setCell ⟨gb213, 2, none⟩ (.int .i64 t209)).setCell ⟨gb213, 3, none⟩ (.int .i64 t210)).heap[gb185]? = some (.cells #[.bool false, .int .i64 x5_4] 38 (0, 0))) := ⟨zf1 BK185.out NB185_213.out⟩
  have n4_ : Aside0 (((((w53.setCell ⟨gb213, 0, none⟩ (.bool t207)).setCell ⟨gb213, 1, none⟩ (.int .i64 t208)).setCell ⟨gb213, 2, none⟩ (.int .i64 t209)).setCell ⟨gb213, 3, none⟩ (.int .i64 t210)).heap[gb186]? = some (.cells #[.bool true, .int .i64 x5_4] 38 (0, 0))) := ⟨zf1 BK186.out NB186_213.out⟩
  have n5_ : Aside0 (((((w53.setCell ⟨gb213, 0, none⟩ (.bool t207)).setCell ⟨gb213, 1, none⟩ (.int .i64 t208)).setCell ⟨gb213, 2, none⟩ (.int .i64 t209)).setCell ⟨gb213, 3, none⟩ (.int .i64 t210)).heap[gb206]? = some (.cells #[.bool t200, .int .i64 t201, .int .i64 t202, .int .i64 t203] 33 (0, 0))) := ⟨zf1 BK206.out NB206_213.out⟩
  have n6_ : Aside0 (((((w53.setCell ⟨gb213, 0, none⟩ (.bool t207)).setCell ⟨gb213, 1, none⟩ (.int .i64 t208)).setCell ⟨gb213, 2, none⟩ (.int .i64 t209)).setCell ⟨gb213, 3, none⟩ (.int .i64 t210)).heap[gb213]? = some (.cells #[.bool t207, .int .i64 t208, .int .i64 t209, .int .i64 t210] 33 (0, 0))) := ⟨by (with_reducible repeat (first | refine blk_drewN ?_ _ | refine blk_drew ?_ | refine blk_alloc ?_ _)); refine blk_put (cs := #[.bool t207, .int .i64 t208, .int .i64 t209, .int .i64 0]) ?_ 3 _ rfl; (with_reducible repeat (first | refine blk_drewN ?_ _ | refine blk_drew ?_ | refine blk_alloc ?_ _)); refine blk_put (cs := #[.bool t207, .int .i64 t208, .int .i64 0, .int .i64 0]) ?_ 2 _ rfl; (with_reducible repeat (first | refine blk_drewN ?_ _ | refine blk_drew ?_ | refine blk_alloc ?_ _)); refine blk_put (cs := #[.bool t207, .int .i64 0, .int .i64 0, .int .i64 0]) ?_ 1 _ rfl; (with_reducible repeat (first | refine blk_drewN ?_ _ | refine blk_drew ?_ | refine blk_alloc ?_ _)); refine blk_put (cs := #[.bool false, .int .i64 0, .int .i64 0, .int .i64 0]) ?_ 0 _ rfl; (with_reducible repeat (first | refine blk_drewN ?_ _ | refine blk_drew ?_ | refine blk_alloc ?_ _)); exact BK213.out⟩
  have n7_ : Aside0 (Below w.heap.size w ((((w53.setCell ⟨gb213, 0, none⟩ (.bool t207)).setCell ⟨gb213, 1, none⟩ (.int .i64 t208)).setCell ⟨gb213, 2, none⟩ (.int .i64 t209)).setCell ⟨gb213, 3, none⟩ (.int .i64 t210))) := ⟨by repeat (first | (with_reducible first | exact HB.out | apply below_alloc | apply pw_below_drewN | apply below_drew1 | refine below_set ?_ GE183.out | refine below_set ?_ GE185.out | refine below_set ?_ GE186.out | refine below_set ?_ GE206.out | refine below_set ?_ GE213.out) | exact HB.out)⟩
  (try clear HO190)
  (try clear HO195)
  (try clear BK183)
  (try clear BK185)
  (try clear BK186)
  (try clear BK206)
  (try clear BK213)
  (try clear HB)
  generalize ((((w53.setCell ⟨gb213, 0, none⟩ (.bool t207)).setCell ⟨gb213, 1, none⟩ (.int .i64 t208)).setCell ⟨gb213, 2, none⟩ (.int .i64 t209)).setCell ⟨gb213, 3, none⟩ (.int .i64 t210)) = w82 at n0_ n1_ n2_ n3_ n4_ n5_ n6_ n7_ ⊢
  have HO190 := n0_
  have HO195 := n1_
  have BK183 := n2_
  have BK185 := n3_
  have BK186 := n4_
  have BK206 := n5_
  have BK213 := n6_
  have HB := n7_
  clear n0_ n1_ n2_ n3_ n4_ n5_ n6_ n7_
  have n0_ := Aside0.mk (Kd.R_drew HO190.out)
  have n1_ := Aside0.mk (Kd.R_drew HO195.out)
  have n2_ := Aside0.mk (blk_drew BK183.out)
  have n3_ := Aside0.mk (blk_drew BK185.out)
  have n4_ := Aside0.mk (blk_drew BK186.out)
  have n5_ := Aside0.mk (blk_drew BK206.out)
  have n6_ := Aside0.mk (blk_drew BK213.out)
  have n7_ := Aside0.mk (below_drew1 HB.out)
  clear HO190
  clear HO195
  clear BK183
  clear BK185
  clear BK186
  clear BK206
  clear BK213
  clear HB
  have HO190 := n0_
  have HO195 := n1_
  have BK183 := n2_
  have BK185 := n3_
  have BK186 := n4_
  have BK206 := n5_
  have BK213 := n6_
  have HB := n7_
  clear n0_ n1_ n2_ n3_ n4_ n5_ n6_ n7_
  refine start_ (n := 46) (S := fun w' => True) (ds := []) cellarlaw8_BytesBack.b14 (by kernel_rfl) rfl rfl trivial (fun hHeld => ?_); refine with_tabW cellarlaw8_BytesBack.tab20 cellarlaw8_BytesBack.bits20 (fun HT_ HW_ => ?_)
  generalize w82.drew = w83 at HO190 HO195 BK183 BK185 BK186 BK206 BK213 HB hHeld ⊢
  refine zq 0 (some 90) HT_ ?_
  refine one_ (i := 1) (N := some 91) cellarlaw8_BytesBack.b16 rfl rfl (one_of HT_.out (by kernel_rfl)) (by decide) (fun K hK => ?_)
  refine goes_ Try.func23 (by kernel_rfl) rfl #[.int .i64 t205] (by rfl) rfl rfl (by (try simp only [List.map_toArray, List.map_cons, List.map_nil]); first | done | rfl | (simp only [List.length_drop, List.length_take]; rfl)) ?_
  with_reducible refine (cellarlaw8_num.calls t205 t214 _ A59.out).mono ?_
  rintro e w' ⟨rfl, ⟨nd, rfl⟩⟩
  refine ⟨_, rfl, ?_⟩
  refine hK.out _ _ trivial (fun hHeld => ?_)
  clear hK K
  refine norm_ (a' := ?_) ?_ ?_
  rotate_left
  ·show Act.put _ (some 91) _ = _
   simp only [Act.put, List.setIfInBounds_toArray, List.set_cons_zero, List.set_cons_succ, i64_w, i32_w]
   rfl
  refine zq 2 (some 92) HT_ ?_; refine zq 3 (some 93) HT_ ?_; refine zu 4 (some 94) HT_ ?_; refine zu 5 (some 95) HT_ ?_; refine zu 6 (some 96) HT_ ?_; refine zq 7 (some 97) HT_ ?_; refine zq 8 (some 98) HT_ ?_; refine zu 9 (some 99) HT_ ?_; refine zu 10 (some 100) HT_ ?_; refine zq 11 (some 101) HT_ ?_; refine zq 12 (some 102) HT_ ?_; refine zu 13 (some 103) HT_ ?_; refine zu 14 (some 104) HT_ ?_; refine zq 15 (some 105) HT_ ?_; refine zq 16 (some 106) HT_ ?_; refine zu 17 (some 107) HT_ ?_; refine zu 18 (some 108) HT_ ?_; refine zu 19 (some 109) HT_ ?_; refine zu 20 (some 110) HT_ ?_; refine zu 21 (some 111) HT_ ?_; refine zu 22 (some 112) HT_ ?_; refine zu 23 (some 113) HT_ ?_; refine zq 24 (some 114) HT_ ?_; refine zq 25 (some 115) HT_ ?_; refine zu 26 (some 116) HT_ ?_; refine zu 27 (some 117) HT_ ?_; refine zu 28 (some 118) HT_ ?_; refine zu 29 (some 119) HT_ ?_; refine zu 30 (some 120) HT_ ?_; refine zu 31 (some 121) HT_ ?_; refine zu 32 (some 122) HT_ ?_; refine zq 33 (some 123) HT_ ?_; refine zq 34 (some 124) HT_ ?_; refine zu 35 (some 125) HT_ ?_; refine zu 36 (some 126) HT_ ?_; refine zu 37 (some 127) HT_ ?_; refine zu 38 (some 128) HT_ ?_; refine zu 39 (some 129) HT_ ?_; refine zq 40 (some 130) HT_ ?_; refine zq 41 (some 131) HT_ ?_; refine zu 42 (some 132) HT_ ?_; refine zu 43 (some 133) HT_ ?_; refine zu 44 (some 134) HT_ ?_; refine zq 45 (some 135) HT_ ?_
  refine done_ (done_of HT_.out (by kernel_rfl)) ?_
  try go_wp2
  go_meet
  case rel => exact ⟨_, (true), (zr), H', ⟨by have := HK1.out; have := HJ9.out; have := HK3.out; have := HK4.out; first | omega | exact Nat.le_refl _⟩, ⟨by (with_reducible repeat (first | apply Kd.R_alloc | apply Kd.R_drewN | apply Kd.R_drew)); exact HO190.out⟩, ⟨by (with_reducible repeat (first | apply Kd.R_alloc | apply Kd.R_drewN | apply Kd.R_drew)); exact HO195.out⟩, ⟨zb BK183.out⟩, ⟨zb BK185.out⟩, ⟨zb BK186.out⟩, ⟨zb BK206.out⟩, ⟨zb BK213.out⟩, ⟨by repeat (first | (with_reducible first | exact HB.out | apply below_alloc | apply pw_below_drewN | apply below_drew1 | refine below_set ?_ GE183.out | refine below_set ?_ GE185.out | refine below_set ?_ GE186.out | refine below_set ?_ GE206.out | refine below_set ?_ GE213.out) | exact HB.out)⟩⟩
 rw [if_pos c60] at H
 have c60b0 : (t214 == 0) = true := beq_iff_eq.mpr c60
 have c60b1 : (t214 != 0) = false := bne_eq_false_iff_eq.mpr c60
 clear c60
 (first | rw [c60b0] | rw [c60b1] | (simp only [i64_w, i32_w]; rw [c60b0]) | skip)
 replace H := Option.bind_eq_some_iff.mp H
 obtain ⟨t215, A610, H⟩ := H
 replace H : (if t215 = 0 then (if t204 = 0 then (if t211 = 0 then (if (!(t200 == ((rd_T33 l0_1 x3_1).f0)) || (!(t201 == ((rd_T33 l0_1 x3_1).f1)) || (!(t202 == ((rd_T33 l0_1 x3_1).f2)) || (!(t203 == ((rd_T33 l0_1 x3_1).f3)))))) = true then (cellarlaw8_BytesBack.j4 k4 x3_1 x4_3 x5_4 t188 t193 true l0_0 l0_1 l0_2 false x5_4) else (if (!(t207 == ((rd_T33 l0_1 x3_1).f0)) || (!(t208 == ((rd_T33 l0_1 x3_1).f1)) || (!(t209 == ((rd_T33 l0_1 x3_1).f2)) || (!(t210 == ((rd_T33 l0_1 x3_1).f3)))))) = true then (cellarlaw8_BytesBack.j4 k4 x3_1 x4_3 x5_4 t188 t193 true l0_0 l0_1 l0_2 false x5_4) else (if (t188.length : Int) = (t193.length : Int) then (cellarlaw8_BytesBack.j4 k4 x3_1 x4_3 x5_4 t188 t193 ((t188.length : Int) == 0) l0_0 l0_1 l0_2 false x5_4) else (cellarlaw8_BytesBack.j4 k4 x3_1 x4_3 x5_4 t188 t193 true l0_0 l0_1 l0_2 false x5_4)))) else (cellarlaw8_BytesBack.j4 k4 x3_1 x4_3 x5_4 t188 t193 true l0_0 l0_1 l0_2 false x5_4)) else (cellarlaw8_BytesBack.j4 k4 x3_1 x4_3 x5_4 t188 t193 true l0_0 l0_1 l0_2 false x5_4)) else (cellarlaw8_BytesBack.j4 k4 x3_1 x4_3 x5_4 t188 t193 true l0_0 l0_1 l0_2 false x5_4)) = some r := H
 have A61 := Aside0.mk A610
 clear A610
 by_cases c62 : t215 = 0
 rotate_left
 ·rw [if_neg c62] at H
  have c62b0 : (t215 == 0) = false := beq_eq_false_iff_ne.mpr c62
  have c62b1 : (t215 != 0) = true := bne_iff_ne.mpr c62
  have H' := Aside0.mk H
  clear H
  try go_wp2
  have n0_ : Aside0 (Kd.R k51 51 ((((w53.setCell ⟨gb213, 0, none⟩ (.bool t207)).setCell ⟨gb213, 1, none⟩ (.int .i64 t208)).setCell ⟨gb213, 2, none⟩ (.int .i64 t209)).setCell ⟨gb213, 3, none⟩ (.int .i64 t210)) w.heap.size (fun k_ => some k_ ≠ (.slice Ao51 t193.length co51 : Value).ownBlock) (.slice Ao43 t188.length co43) t188) := ⟨by (with_reducible repeat (first | apply Kd.R_alloc | apply Kd.R_drewN | apply Kd.R_drew)); exact Kd.R_mono (Kd.R_far (p := ⟨gb213, 3, none⟩) (Kd.R_far (p := ⟨gb213, 2, none⟩) (Kd.R_far (p := ⟨gb213, 1, none⟩) (Kd.R_far (p := ⟨gb213, 0, none⟩) (Kd.R_types HO190.out BK213.out (by decide)) (fun _ hk => hk.2) (.bool t207)) (fun _ hk => hk.2) (.int .i64 t208)) (fun _ hk => hk.2) (.int .i64 t209)) (fun _ hk => hk.2) (.int .i64 t210)) (fun _ hk => hk.1)⟩
  have n1_ : Aside0 (Kd.R k51 51 ((((w53.setCell ⟨gb213, 0, none⟩ (.bool t207)).setCell ⟨gb213, 1, none⟩ (.int .i64 t208)).setCell ⟨gb213, 2, none⟩ (.int .i64 t209)).setCell ⟨gb213, 3, none⟩ (.int .i64 t210)) w.heap.size (fun k_ => some k_ ≠ (.slice Ao43 t188.length co43 : Value).ownBlock) (.slice Ao51 t193.length co51) t193) := ⟨by (with_reducible repeat (first | apply Kd.R_alloc | apply Kd.R_drewN | apply Kd.R_drew)); exact Kd.R_mono (Kd.R_far (p := ⟨gb213, 3, none⟩) (Kd.R_far (p := ⟨gb213, 2, none⟩) (Kd.R_far (p := ⟨gb213, 1, none⟩) (Kd.R_far (p := ⟨gb213, 0, none⟩) (Kd.R_types HO195.out BK213.out (by decide)) (fun _ hk => hk.2) (.bool t207)) (fun _ hk => hk.2) (.int .i64 t208)) (fun _ hk => hk.2) (.int .i64 t209)) (fun _ hk => hk.2) (.int .i64 t210)) (fun _ hk => hk.1)⟩
  have n2_ : Aside0 (((((w53.setCell ⟨gb213, 0, none⟩ (.bool t207)).setCell ⟨gb213, 1, none⟩ (.int .i64 t208)).setCell ⟨gb213, 2, none⟩ (.int .i64 t209)).setCell ⟨gb213, 3, none⟩ (.int .i64 t210)).heap[gb183]? = some (.cells #[.slice A0_0 l0_0.length c0_0, .slice (some ad187) l0_1.length c0_1, .slice A0_2 l0_2.length c0_2] 26 (0, 0))) := ⟨zf1 BK183.out NB183_213.out⟩
  have n3_ : Aside0 (((((w53.setCell ⟨gb213, 0, none⟩ (.bool t207)).setCell ⟨gb213, 1, none⟩ (.int .i64 t208)).setCell ⟨gb213, 2, none⟩ (.int .i64 t209)).setCell ⟨gb213, 3, none⟩ (.int .i64 t210)).heap[gb185]? = some (.cells #[.bool false, .int .i64 x5_4] 38 (0, 0))) := ⟨zf1 BK185.out NB185_213.out⟩
  have n4_ : Aside0 (((((w53.setCell ⟨gb213, 0, none⟩ (.bool t207)).setCell ⟨gb213, 1, none⟩ (.int .i64 t208)).setCell ⟨gb213, 2, none⟩ (.int .i64 t209)).setCell ⟨gb213, 3, none⟩ (.int .i64 t210)).heap[gb186]? = some (.cells #[.bool true, .int .i64 x5_4] 38 (0, 0))) := ⟨zf1 BK186.out NB186_213.out⟩
  have n5_ : Aside0 (((((w53.setCell ⟨gb213, 0, none⟩ (.bool t207)).setCell ⟨gb213, 1, none⟩ (.int .i64 t208)).setCell ⟨gb213, 2, none⟩ (.int .i64 t209)).setCell ⟨gb213, 3, none⟩ (.int .i64 t210)).heap[gb206]? = some (.cells #[.bool t200, .int .i64 t201, .int .i64 t202, .int .i64 t203] 33 (0, 0))) := ⟨zf1 BK206.out NB206_213.out⟩
  have n6_ : Aside0 (((((w53.setCell ⟨gb213, 0, none⟩ (.bool t207)).setCell ⟨gb213, 1, none⟩ (.int .i64 t208)).setCell ⟨gb213, 2, none⟩ (.int .i64 t209)).setCell ⟨gb213, 3, none⟩ (.int .i64 t210)).heap[gb213]? = some (.cells #[.bool t207, .int .i64 t208, .int .i64 t209, .int .i64 t210] 33 (0, 0))) := ⟨by (with_reducible repeat (first | refine blk_drewN ?_ _ | refine blk_drew ?_ | refine blk_alloc ?_ _)); refine blk_put (cs := #[.bool t207, .int .i64 t208, .int .i64 t209, .int .i64 0]) ?_ 3 _ rfl; (with_reducible repeat (first | refine blk_drewN ?_ _ | refine blk_drew ?_ | refine blk_alloc ?_ _)); refine blk_put (cs := #[.bool t207, .int .i64 t208, .int .i64 0, .int .i64 0]) ?_ 2 _ rfl; (with_reducible repeat (first | refine blk_drewN ?_ _ | refine blk_drew ?_ | refine blk_alloc ?_ _)); refine blk_put (cs := #[.bool t207, .int .i64 0, .int .i64 0, .int .i64 0]) ?_ 1 _ rfl; (with_reducible repeat (first | refine blk_drewN ?_ _ | refine blk_drew ?_ | refine blk_alloc ?_ _)); refine blk_put (cs := #[.bool false, .int .i64 0, .int .i64 0, .int .i64 0]) ?_ 0 _ rfl; (with_reducible repeat (first | refine blk_drewN ?_ _ | refine blk_drew ?_ | refine blk_alloc ?_ _)); exact BK213.out⟩
  have n7_ : Aside0 (Below w.heap.size w ((((w53.setCell ⟨gb213, 0, none⟩ (.bool t207)).setCell ⟨gb213, 1, none⟩ (.int .i64 t208)).setCell ⟨gb213, 2, none⟩ (.int .i64 t209)).setCell ⟨gb213, 3, none⟩ (.int .i64 t210))) := ⟨by repeat (first | (with_reducible first | exact HB.out | apply below_alloc | apply pw_below_drewN | apply below_drew1 | refine below_set ?_ GE183.out | refine below_set ?_ GE185.out | refine below_set ?_ GE186.out | refine below_set ?_ GE206.out | refine below_set ?_ GE213.out) | exact HB.out)⟩
  (try clear HO190)
  (try clear HO195)
  (try clear BK183)
  (try clear BK185)
  (try clear BK186)
  (try clear BK206)
  (try clear BK213)
  (try clear HB)
  generalize ((((w53.setCell ⟨gb213, 0, none⟩ (.bool t207)).setCell ⟨gb213, 1, none⟩ (.int .i64 t208)).setCell ⟨gb213, 2, none⟩ (.int .i64 t209)).setCell ⟨gb213, 3, none⟩ (.int .i64 t210)) = w80 at n0_ n1_ n2_ n3_ n4_ n5_ n6_ n7_ ⊢
  have HO190 := n0_
  have HO195 := n1_
  have BK183 := n2_
  have BK185 := n3_
  have BK186 := n4_
  have BK206 := n5_
  have BK213 := n6_
  have HB := n7_
  clear n0_ n1_ n2_ n3_ n4_ n5_ n6_ n7_
  have n0_ := Aside0.mk (Kd.R_drew HO190.out)
  have n1_ := Aside0.mk (Kd.R_drew HO195.out)
  have n2_ := Aside0.mk (blk_drew BK183.out)
  have n3_ := Aside0.mk (blk_drew BK185.out)
  have n4_ := Aside0.mk (blk_drew BK186.out)
  have n5_ := Aside0.mk (blk_drew BK206.out)
  have n6_ := Aside0.mk (blk_drew BK213.out)
  have n7_ := Aside0.mk (below_drew1 HB.out)
  clear HO190
  clear HO195
  clear BK183
  clear BK185
  clear BK186
  clear BK206
  clear BK213
  clear HB
  have HO190 := n0_
  have HO195 := n1_
  have BK183 := n2_
  have BK185 := n3_
  have BK186 := n4_
  have BK206 := n5_
  have BK213 := n6_
  have HB := n7_
  clear n0_ n1_ n2_ n3_ n4_ n5_ n6_ n7_
  refine start_ (n := 46) (S := fun w' => True) (ds := []) cellarlaw8_BytesBack.b14 (by kernel_rfl) rfl rfl trivial (fun hHeld => ?_); refine with_tabW cellarlaw8_BytesBack.tab20 cellarlaw8_BytesBack.bits20 (fun HT_ HW_ => ?_)
  generalize w80.drew = w81 at HO190 HO195 BK183 BK185 BK186 BK206 BK213 HB hHeld ⊢
  refine zq 0 (some 90) HT_ ?_
  refine one_ (i := 1) (N := some 91) cellarlaw8_BytesBack.b16 rfl rfl (one_of HT_.out (by kernel_rfl)) (by decide) (fun K hK => ?_)
  refine goes_ Try.func23 (by kernel_rfl) rfl #[.int .i64 t205] (by rfl) rfl rfl (by (try simp only [List.map_toArray, List.map_cons, List.map_nil]); first | done | rfl | (simp only [List.length_drop, List.length_take]; rfl)) ?_
  with_reducible refine (cellarlaw8_num.calls t205 t214 _ A59.out).mono ?_
  rintro e w' ⟨rfl, ⟨nd, rfl⟩⟩
  refine ⟨_, rfl, ?_⟩
  refine hK.out _ _ trivial (fun hHeld => ?_)
  clear hK K
  refine norm_ (a' := ?_) ?_ ?_
  rotate_left
  ·show Act.put _ (some 91) _ = _
   simp only [Act.put, List.setIfInBounds_toArray, List.set_cons_zero, List.set_cons_succ, i64_w, i32_w]
   rfl
  refine zq 2 (some 92) HT_ ?_; refine zq 3 (some 93) HT_ ?_; refine zq 4 (some 94) HT_ ?_
  refine one_ (i := 5) (N := some 95) cellarlaw8_BytesBack.b20 rfl rfl (one_of HT_.out (by kernel_rfl)) (by decide) (fun K hK => ?_)
  refine goes_ Try.func23 (by kernel_rfl) rfl #[.int .i64 t212] (by rfl) rfl rfl (by (try simp only [List.map_toArray, List.map_cons, List.map_nil]); first | done | rfl | (simp only [List.length_drop, List.length_take]; rfl)) ?_
  with_reducible refine (cellarlaw8_num.calls t212 t215 _ A61.out).mono ?_
  rintro e w' ⟨rfl, ⟨nd, rfl⟩⟩
  refine ⟨_, rfl, ?_⟩
  refine hK.out _ _ trivial (fun hHeld => ?_)
  clear hK K
  refine norm_ (a' := ?_) ?_ ?_
  rotate_left
  ·show Act.put _ (some 95) _ = _
   simp only [Act.put, List.setIfInBounds_toArray, List.set_cons_zero, List.set_cons_succ, i64_w, i32_w]
   rfl
  refine zq 6 (some 96) HT_ ?_; refine zq 7 (some 97) HT_ ?_; refine zq 8 (some 98) HT_ ?_; refine zu 9 (some 99) HT_ ?_; refine zu 10 (some 100) HT_ ?_; refine zq 11 (some 101) HT_ ?_; refine zq 12 (some 102) HT_ ?_; refine zu 13 (some 103) HT_ ?_; refine zu 14 (some 104) HT_ ?_; refine zq 15 (some 105) HT_ ?_; refine zq 16 (some 106) HT_ ?_; refine zu 17 (some 107) HT_ ?_; refine zu 18 (some 108) HT_ ?_; refine zu 19 (some 109) HT_ ?_; refine zu 20 (some 110) HT_ ?_; refine zu 21 (some 111) HT_ ?_; refine zu 22 (some 112) HT_ ?_; refine zu 23 (some 113) HT_ ?_; refine zq 24 (some 114) HT_ ?_; refine zq 25 (some 115) HT_ ?_; refine zu 26 (some 116) HT_ ?_; refine zu 27 (some 117) HT_ ?_; refine zu 28 (some 118) HT_ ?_; refine zu 29 (some 119) HT_ ?_; refine zu 30 (some 120) HT_ ?_; refine zu 31 (some 121) HT_ ?_; refine zu 32 (some 122) HT_ ?_; refine zq 33 (some 123) HT_ ?_; refine zq 34 (some 124) HT_ ?_; refine zu 35 (some 125) HT_ ?_; refine zu 36 (some 126) HT_ ?_; refine zu 37 (some 127) HT_ ?_; refine zu 38 (some 128) HT_ ?_; refine zu 39 (some 129) HT_ ?_; refine zq 40 (some 130) HT_ ?_; refine zq 41 (some 131) HT_ ?_; refine zu 42 (some 132) HT_ ?_; refine zu 43 (some 133) HT_ ?_; refine zu 44 (some 134) HT_ ?_; refine zq 45 (some 135) HT_ ?_
  refine done_ (done_of HT_.out (by kernel_rfl)) ?_
  try go_wp2
  go_meet
  case rel => exact ⟨_, (true), (zr), H', ⟨by have := HK1.out; have := HJ9.out; have := HK3.out; have := HK4.out; first | omega | exact Nat.le_refl _⟩, ⟨by (with_reducible repeat (first | apply Kd.R_alloc | apply Kd.R_drewN | apply Kd.R_drew)); exact HO190.out⟩, ⟨by (with_reducible repeat (first | apply Kd.R_alloc | apply Kd.R_drewN | apply Kd.R_drew)); exact HO195.out⟩, ⟨zb BK183.out⟩, ⟨zb BK185.out⟩, ⟨zb BK186.out⟩, ⟨zb BK206.out⟩, ⟨zb BK213.out⟩, ⟨by repeat (first | (with_reducible first | exact HB.out | apply below_alloc | apply pw_below_drewN | apply below_drew1 | refine below_set ?_ GE183.out | refine below_set ?_ GE185.out | refine below_set ?_ GE186.out | refine below_set ?_ GE206.out | refine below_set ?_ GE213.out) | exact HB.out)⟩⟩
 rw [if_pos c62] at H
 have c62b0 : (t215 == 0) = true := beq_iff_eq.mpr c62
 have c62b1 : (t215 != 0) = false := bne_eq_false_iff_eq.mpr c62
 clear c62
 by_cases c63 : t204 = 0
 rotate_left
 ·rw [if_neg c63] at H
  have c63b0 : (t204 == 0) = false := beq_eq_false_iff_ne.mpr c63
  have c63b1 : (t204 != 0) = true := bne_iff_ne.mpr c63
  have H' := Aside0.mk H
  clear H
  try go_wp2
  have n0_ : Aside0 (Kd.R k51 51 ((((w53.setCell ⟨gb213, 0, none⟩ (.bool t207)).setCell ⟨gb213, 1, none⟩ (.int .i64 t208)).setCell ⟨gb213, 2, none⟩ (.int .i64 t209)).setCell ⟨gb213, 3, none⟩ (.int .i64 t210)) w.heap.size (fun k_ => some k_ ≠ (.slice Ao51 t193.length co51 : Value).ownBlock) (.slice Ao43 t188.length co43) t188) := ⟨by (with_reducible repeat (first | apply Kd.R_alloc | apply Kd.R_drewN | apply Kd.R_drew)); exact Kd.R_mono (Kd.R_far (p := ⟨gb213, 3, none⟩) (Kd.R_far (p := ⟨gb213, 2, none⟩) (Kd.R_far (p := ⟨gb213, 1, none⟩) (Kd.R_far (p := ⟨gb213, 0, none⟩) (Kd.R_types HO190.out BK213.out (by decide)) (fun _ hk => hk.2) (.bool t207)) (fun _ hk => hk.2) (.int .i64 t208)) (fun _ hk => hk.2) (.int .i64 t209)) (fun _ hk => hk.2) (.int .i64 t210)) (fun _ hk => hk.1)⟩
  have n1_ : Aside0 (Kd.R k51 51 ((((w53.setCell ⟨gb213, 0, none⟩ (.bool t207)).setCell ⟨gb213, 1, none⟩ (.int .i64 t208)).setCell ⟨gb213, 2, none⟩ (.int .i64 t209)).setCell ⟨gb213, 3, none⟩ (.int .i64 t210)) w.heap.size (fun k_ => some k_ ≠ (.slice Ao43 t188.length co43 : Value).ownBlock) (.slice Ao51 t193.length co51) t193) := ⟨by (with_reducible repeat (first | apply Kd.R_alloc | apply Kd.R_drewN | apply Kd.R_drew)); exact Kd.R_mono (Kd.R_far (p := ⟨gb213, 3, none⟩) (Kd.R_far (p := ⟨gb213, 2, none⟩) (Kd.R_far (p := ⟨gb213, 1, none⟩) (Kd.R_far (p := ⟨gb213, 0, none⟩) (Kd.R_types HO195.out BK213.out (by decide)) (fun _ hk => hk.2) (.bool t207)) (fun _ hk => hk.2) (.int .i64 t208)) (fun _ hk => hk.2) (.int .i64 t209)) (fun _ hk => hk.2) (.int .i64 t210)) (fun _ hk => hk.1)⟩
  have n2_ : Aside0 (((((w53.setCell ⟨gb213, 0, none⟩ (.bool t207)).setCell ⟨gb213, 1, none⟩ (.int .i64 t208)).setCell ⟨gb213, 2, none⟩ (.int .i64 t209)).setCell ⟨gb213, 3, none⟩ (.int .i64 t210)).heap[gb183]? = some (.cells #[.slice A0_0 l0_0.length c0_0, .slice (some ad187) l0_1.length c0_1, .slice A0_2 l0_2.length c0_2] 26 (0, 0))) := ⟨zf1 BK183.out NB183_213.out⟩
  have n3_ : Aside0 (((((w53.setCell ⟨gb213, 0, none⟩ (.bool t207)).setCell ⟨gb213, 1, none⟩ (.int .i64 t208)).setCell ⟨gb213, 2, none⟩ (.int .i64 t209)).setCell ⟨gb213, 3, none⟩ (.int .i64 t210)).heap[gb185]? = some (.cells #[.bool false, .int .i64 x5_4] 38 (0, 0))) := ⟨zf1 BK185.out NB185_213.out⟩
  have n4_ : Aside0 (((((w53.setCell ⟨gb213, 0, none⟩ (.bool t207)).setCell ⟨gb213, 1, none⟩ (.int .i64 t208)).setCell ⟨gb213, 2, none⟩ (.int .i64 t209)).setCell ⟨gb213, 3, none⟩ (.int .i64 t210)).heap[gb186]? = some (.cells #[.bool true, .int .i64 x5_4] 38 (0, 0))) := ⟨zf1 BK186.out NB186_213.out⟩
  have n5_ : Aside0 (((((w53.setCell ⟨gb213, 0, none⟩ (.bool t207)).setCell ⟨gb213, 1, none⟩ (.int .i64 t208)).setCell ⟨gb213, 2, none⟩ (.int .i64 t209)).setCell ⟨gb213, 3, none⟩ (.int .i64 t210)).heap[gb206]? = some (.cells #[.bool t200, .int .i64 t201, .int .i64 t202, .int .i64 t203] 33 (0, 0))) := ⟨zf1 BK206.out NB206_213.out⟩
  have n6_ : Aside0 (((((w53.setCell ⟨gb213, 0, none⟩ (.bool t207)).setCell ⟨gb213, 1, none⟩ (.int .i64 t208)).setCell ⟨gb213, 2, none⟩ (.int .i64 t209)).setCell ⟨gb213, 3, none⟩ (.int .i64 t210)).heap[gb213]? = some (.cells #[.bool t207, .int .i64 t208, .int .i64 t209, .int .i64 t210] 33 (0, 0))) := ⟨by (with_reducible repeat (first | refine blk_drewN ?_ _ | refine blk_drew ?_ | refine blk_alloc ?_ _)); refine blk_put (cs := #[.bool t207, .int .i64 t208, .int .i64 t209, .int .i64 0]) ?_ 3 _ rfl; (with_reducible repeat (first | refine blk_drewN ?_ _ | refine blk_drew ?_ | refine blk_alloc ?_ _)); refine blk_put (cs := #[.bool t207, .int .i64 t208, .int .i64 0, .int .i64 0]) ?_ 2 _ rfl; (with_reducible repeat (first | refine blk_drewN ?_ _ | refine blk_drew ?_ | refine blk_alloc ?_ _)); refine blk_put (cs := #[.bool t207, .int .i64 0, .int .i64 0, .int .i64 0]) ?_ 1 _ rfl; (with_reducible repeat (first | refine blk_drewN ?_ _ | refine blk_drew ?_ | refine blk_alloc ?_ _)); refine blk_put (cs := #[.bool false, .int .i64 0, .int .i64 0, .int .i64 0]) ?_ 0 _ rfl; (with_reducible repeat (first | refine blk_drewN ?_ _ | refine blk_drew ?_ | refine blk_alloc ?_ _)); exact BK213.out⟩
  have n7_ : Aside0 (Below w.heap.size w ((((w53.setCell ⟨gb213, 0, none⟩ (.bool t207)).setCell ⟨gb213, 1, none⟩ (.int .i64 t208)).setCell ⟨gb213, 2, none⟩ (.int .i64 t209)).setCell ⟨gb213, 3, none⟩ (.int .i64 t210))) := ⟨by repeat (first | (with_reducible first | exact HB.out | apply below_alloc | apply pw_below_drewN | apply below_drew1 | refine below_set ?_ GE183.out | refine below_set ?_ GE185.out | refine below_set ?_ GE186.out | refine below_set ?_ GE206.out | refine below_set ?_ GE213.out) | exact HB.out)⟩
  (try clear HO190)
  (try clear HO195)
  (try clear BK183)
  (try clear BK185)
  (try clear BK186)
  (try clear BK206)
  (try clear BK213)
  (try clear HB)
  generalize ((((w53.setCell ⟨gb213, 0, none⟩ (.bool t207)).setCell ⟨gb213, 1, none⟩ (.int .i64 t208)).setCell ⟨gb213, 2, none⟩ (.int .i64 t209)).setCell ⟨gb213, 3, none⟩ (.int .i64 t210)) = w78 at n0_ n1_ n2_ n3_ n4_ n5_ n6_ n7_ ⊢
  have HO190 := n0_
  have HO195 := n1_
  have BK183 := n2_
  have BK185 := n3_
  have BK186 := n4_
  have BK206 := n5_
  have BK213 := n6_
  have HB := n7_
  clear n0_ n1_ n2_ n3_ n4_ n5_ n6_ n7_
  have n0_ := Aside0.mk (Kd.R_drew HO190.out)
  have n1_ := Aside0.mk (Kd.R_drew HO195.out)
  have n2_ := Aside0.mk (blk_drew BK183.out)
  have n3_ := Aside0.mk (blk_drew BK185.out)
  have n4_ := Aside0.mk (blk_drew BK186.out)
  have n5_ := Aside0.mk (blk_drew BK206.out)
  have n6_ := Aside0.mk (blk_drew BK213.out)
  have n7_ := Aside0.mk (below_drew1 HB.out)
  clear HO190
  clear HO195
  clear BK183
  clear BK185
  clear BK186
  clear BK206
  clear BK213
  clear HB
  have HO190 := n0_
  have HO195 := n1_
  have BK183 := n2_
  have BK185 := n3_
  have BK186 := n4_
  have BK206 := n5_
  have BK213 := n6_
  have HB := n7_
  clear n0_ n1_ n2_ n3_ n4_ n5_ n6_ n7_
  refine start_ (n := 46) (S := fun w' => True) (ds := []) cellarlaw8_BytesBack.b14 (by kernel_rfl) rfl rfl trivial (fun hHeld => ?_); refine with_tabW cellarlaw8_BytesBack.tab20 cellarlaw8_BytesBack.bits20 (fun HT_ HW_ => ?_)
  generalize w78.drew = w79 at HO190 HO195 BK183 BK185 BK186 BK206 BK213 HB hHeld ⊢
  refine zq 0 (some 90) HT_ ?_
  refine one_ (i := 1) (N := some 91) cellarlaw8_BytesBack.b16 rfl rfl (one_of HT_.out (by kernel_rfl)) (by decide) (fun K hK => ?_)
  refine goes_ Try.func23 (by kernel_rfl) rfl #[.int .i64 t205] (by rfl) rfl rfl (by (try simp only [List.map_toArray, List.map_cons, List.map_nil]); first | done | rfl | (simp only [List.length_drop, List.length_take]; rfl)) ?_
  with_reducible refine (cellarlaw8_num.calls t205 t214 _ A59.out).mono ?_
  rintro e w' ⟨rfl, ⟨nd, rfl⟩⟩
  refine ⟨_, rfl, ?_⟩
  refine hK.out _ _ trivial (fun hHeld => ?_)
  clear hK K
  refine norm_ (a' := ?_) ?_ ?_
  rotate_left
  ·show Act.put _ (some 91) _ = _
   simp only [Act.put, List.setIfInBounds_toArray, List.set_cons_zero, List.set_cons_succ, i64_w, i32_w]
   rfl
  refine zq 2 (some 92) HT_ ?_; refine zq 3 (some 93) HT_ ?_; refine zq 4 (some 94) HT_ ?_
  refine one_ (i := 5) (N := some 95) cellarlaw8_BytesBack.b20 rfl rfl (one_of HT_.out (by kernel_rfl)) (by decide) (fun K hK => ?_)
  refine goes_ Try.func23 (by kernel_rfl) rfl #[.int .i64 t212] (by rfl) rfl rfl (by (try simp only [List.map_toArray, List.map_cons, List.map_nil]); first | done | rfl | (simp only [List.length_drop, List.length_take]; rfl)) ?_
  with_reducible refine (cellarlaw8_num.calls t212 t215 _ A61.out).mono ?_
  rintro e w' ⟨rfl, ⟨nd, rfl⟩⟩
  refine ⟨_, rfl, ?_⟩
  refine hK.out _ _ trivial (fun hHeld => ?_)
  clear hK K
  refine norm_ (a' := ?_) ?_ ?_
  rotate_left
  ·show Act.put _ (some 95) _ = _
   simp only [Act.put, List.setIfInBounds_toArray, List.set_cons_zero, List.set_cons_succ, i64_w, i32_w]
   rfl
  refine zq 6 (some 96) HT_ ?_; refine zq 7 (some 97) HT_ ?_; refine zq 8 (some 98) HT_ ?_; refine zq 9 (some 99) HT_ ?_; refine zq 10 (some 100) HT_ ?_; refine zq 11 (some 101) HT_ ?_; refine zq 12 (some 102) HT_ ?_; refine zu 13 (some 103) HT_ ?_; refine zu 14 (some 104) HT_ ?_; refine zq 15 (some 105) HT_ ?_; refine zq 16 (some 106) HT_ ?_; refine zu 17 (some 107) HT_ ?_; refine zu 18 (some 108) HT_ ?_; refine zu 19 (some 109) HT_ ?_; refine zu 20 (some 110) HT_ ?_; refine zu 21 (some 111) HT_ ?_; refine zu 22 (some 112) HT_ ?_; refine zu 23 (some 113) HT_ ?_; refine zq 24 (some 114) HT_ ?_; refine zq 25 (some 115) HT_ ?_; refine zu 26 (some 116) HT_ ?_; refine zu 27 (some 117) HT_ ?_; refine zu 28 (some 118) HT_ ?_; refine zu 29 (some 119) HT_ ?_; refine zu 30 (some 120) HT_ ?_; refine zu 31 (some 121) HT_ ?_; refine zu 32 (some 122) HT_ ?_; refine zq 33 (some 123) HT_ ?_; refine zq 34 (some 124) HT_ ?_; refine zu 35 (some 125) HT_ ?_; refine zu 36 (some 126) HT_ ?_; refine zu 37 (some 127) HT_ ?_; refine zu 38 (some 128) HT_ ?_; refine zu 39 (some 129) HT_ ?_; refine zq 40 (some 130) HT_ ?_; refine zq 41 (some 131) HT_ ?_; refine zu 42 (some 132) HT_ ?_; refine zu 43 (some 133) HT_ ?_; refine zu 44 (some 134) HT_ ?_; refine zq 45 (some 135) HT_ ?_
  refine done_ (done_of HT_.out (by kernel_rfl)) ?_
  try go_wp2
  go_meet
  case rel => exact ⟨_, (true), (zr), H', ⟨by have := HK1.out; have := HJ9.out; have := HK3.out; have := HK4.out; first | omega | exact Nat.le_refl _⟩, ⟨by (with_reducible repeat (first | apply Kd.R_alloc | apply Kd.R_drewN | apply Kd.R_drew)); exact HO190.out⟩, ⟨by (with_reducible repeat (first | apply Kd.R_alloc | apply Kd.R_drewN | apply Kd.R_drew)); exact HO195.out⟩, ⟨zb BK183.out⟩, ⟨zb BK185.out⟩, ⟨zb BK186.out⟩, ⟨zb BK206.out⟩, ⟨zb BK213.out⟩, ⟨by repeat (first | (with_reducible first | exact HB.out | apply below_alloc | apply pw_below_drewN | apply below_drew1 | refine below_set ?_ GE183.out | refine below_set ?_ GE185.out | refine below_set ?_ GE186.out | refine below_set ?_ GE206.out | refine below_set ?_ GE213.out) | exact HB.out)⟩⟩
 rw [if_pos c63] at H
 have c63b0 : (t204 == 0) = true := beq_iff_eq.mpr c63
 have c63b1 : (t204 != 0) = false := bne_eq_false_iff_eq.mpr c63
 clear c63
 by_cases c64 : t211 = 0
 rotate_left
 ·rw [if_neg c64] at H
  have c64b0 : (t211 == 0) = false := beq_eq_false_iff_ne.mpr c64
  have c64b1 : (t211 != 0) = true := bne_iff_ne.mpr c64
  have H' := Aside0.mk H
  clear H
  try go_wp2
  have n0_ : Aside0 (Kd.R k51 51 ((((w53.setCell ⟨gb213, 0, none⟩ (.bool t207)).setCell ⟨gb213, 1, none⟩ (.int .i64 t208)).setCell ⟨gb213, 2, none⟩ (.int .i64 t209)).setCell ⟨gb213, 3, none⟩ (.int .i64 t210)) w.heap.size (fun k_ => some k_ ≠ (.slice Ao51 t193.length co51 : Value).ownBlock) (.slice Ao43 t188.length co43) t188) := ⟨by (with_reducible repeat (first | apply Kd.R_alloc | apply Kd.R_drewN | apply Kd.R_drew)); exact Kd.R_mono (Kd.R_far (p := ⟨gb213, 3, none⟩) (Kd.R_far (p := ⟨gb213, 2, none⟩) (Kd.R_far (p := ⟨gb213, 1, none⟩) (Kd.R_far (p := ⟨gb213, 0, none⟩) (Kd.R_types HO190.out BK213.out (by decide)) (fun _ hk => hk.2) (.bool t207)) (fun _ hk => hk.2) (.int .i64 t208)) (fun _ hk => hk.2) (.int .i64 t209)) (fun _ hk => hk.2) (.int .i64 t210)) (fun _ hk => hk.1)⟩
  have n1_ : Aside0 (Kd.R k51 51 ((((w53.setCell ⟨gb213, 0, none⟩ (.bool t207)).setCell ⟨gb213, 1, none⟩ (.int .i64 t208)).setCell ⟨gb213, 2, none⟩ (.int .i64 t209)).setCell ⟨gb213, 3, none⟩ (.int .i64 t210)) w.heap.size (fun k_ => some k_ ≠ (.slice Ao43 t188.length co43 : Value).ownBlock) (.slice Ao51 t193.length co51) t193) := ⟨by (with_reducible repeat (first | apply Kd.R_alloc | apply Kd.R_drewN | apply Kd.R_drew)); exact Kd.R_mono (Kd.R_far (p := ⟨gb213, 3, none⟩) (Kd.R_far (p := ⟨gb213, 2, none⟩) (Kd.R_far (p := ⟨gb213, 1, none⟩) (Kd.R_far (p := ⟨gb213, 0, none⟩) (Kd.R_types HO195.out BK213.out (by decide)) (fun _ hk => hk.2) (.bool t207)) (fun _ hk => hk.2) (.int .i64 t208)) (fun _ hk => hk.2) (.int .i64 t209)) (fun _ hk => hk.2) (.int .i64 t210)) (fun _ hk => hk.1)⟩
  have n2_ : Aside0 (((((w53.setCell ⟨gb213, 0, none⟩ (.bool t207)).setCell ⟨gb213, 1, none⟩ (.int .i64 t208)).setCell ⟨gb213, 2, none⟩ (.int .i64 t209)).setCell ⟨gb213, 3, none⟩ (.int .i64 t210)).heap[gb183]? = some (.cells #[.slice A0_0 l0_0.length c0_0, .slice (some ad187) l0_1.length c0_1, .slice A0_2 l0_2.length c0_2] 26 (0, 0))) := ⟨zf1 BK183.out NB183_213.out⟩
  have n3_ : Aside0 (((((w53.setCell ⟨gb213, 0, none⟩ (.bool t207)).setCell ⟨gb213, 1, none⟩ (.int .i64 t208)).setCell ⟨gb213, 2, none⟩ (.int .i64 t209)).setCell ⟨gb213, 3, none⟩ (.int .i64 t210)).heap[gb185]? = some (.cells #[.bool false, .int .i64 x5_4] 38 (0, 0))) := ⟨zf1 BK185.out NB185_213.out⟩
  have n4_ : Aside0 (((((w53.setCell ⟨gb213, 0, none⟩ (.bool t207)).setCell ⟨gb213, 1, none⟩ (.int .i64 t208)).setCell ⟨gb213, 2, none⟩ (.int .i64 t209)).setCell ⟨gb213, 3, none⟩ (.int .i64 t210)).heap[gb186]? = some (.cells #[.bool true, .int .i64 x5_4] 38 (0, 0))) := ⟨zf1 BK186.out NB186_213.out⟩
  have n5_ : Aside0 (((((w53.setCell ⟨gb213, 0, none⟩ (.bool t207)).setCell ⟨gb213, 1, none⟩ (.int .i64 t208)).setCell ⟨gb213, 2, none⟩ (.int .i64 t209)).setCell ⟨gb213, 3, none⟩ (.int .i64 t210)).heap[gb206]? = some (.cells #[.bool t200, .int .i64 t201, .int .i64 t202, .int .i64 t203] 33 (0, 0))) := ⟨zf1 BK206.out NB206_213.out⟩
  have n6_ : Aside0 (((((w53.setCell ⟨gb213, 0, none⟩ (.bool t207)).setCell ⟨gb213, 1, none⟩ (.int .i64 t208)).setCell ⟨gb213, 2, none⟩ (.int .i64 t209)).setCell ⟨gb213, 3, none⟩ (.int .i64 t210)).heap[gb213]? = some (.cells #[.bool t207, .int .i64 t208, .int .i64 t209, .int .i64 t210] 33 (0, 0))) := ⟨by (with_reducible repeat (first | refine blk_drewN ?_ _ | refine blk_drew ?_ | refine blk_alloc ?_ _)); refine blk_put (cs := #[.bool t207, .int .i64 t208, .int .i64 t209, .int .i64 0]) ?_ 3 _ rfl; (with_reducible repeat (first | refine blk_drewN ?_ _ | refine blk_drew ?_ | refine blk_alloc ?_ _)); refine blk_put (cs := #[.bool t207, .int .i64 t208, .int .i64 0, .int .i64 0]) ?_ 2 _ rfl; (with_reducible repeat (first | refine blk_drewN ?_ _ | refine blk_drew ?_ | refine blk_alloc ?_ _)); refine blk_put (cs := #[.bool t207, .int .i64 0, .int .i64 0, .int .i64 0]) ?_ 1 _ rfl; (with_reducible repeat (first | refine blk_drewN ?_ _ | refine blk_drew ?_ | refine blk_alloc ?_ _)); refine blk_put (cs := #[.bool false, .int .i64 0, .int .i64 0, .int .i64 0]) ?_ 0 _ rfl; (with_reducible repeat (first | refine blk_drewN ?_ _ | refine blk_drew ?_ | refine blk_alloc ?_ _)); exact BK213.out⟩
  have n7_ : Aside0 (Below w.heap.size w ((((w53.setCell ⟨gb213, 0, none⟩ (.bool t207)).setCell ⟨gb213, 1, none⟩ (.int .i64 t208)).setCell ⟨gb213, 2, none⟩ (.int .i64 t209)).setCell ⟨gb213, 3, none⟩ (.int .i64 t210))) := ⟨by repeat (first | (with_reducible first | exact HB.out | apply below_alloc | apply pw_below_drewN | apply below_drew1 | refine below_set ?_ GE183.out | refine below_set ?_ GE185.out | refine below_set ?_ GE186.out | refine below_set ?_ GE206.out | refine below_set ?_ GE213.out) | exact HB.out)⟩
  (try clear HO190)
  (try clear HO195)
  (try clear BK183)
  (try clear BK185)
  (try clear BK186)
  (try clear BK206)
  (try clear BK213)
  (try clear HB)
  generalize ((((w53.setCell ⟨gb213, 0, none⟩ (.bool t207)).setCell ⟨gb213, 1, none⟩ (.int .i64 t208)).setCell ⟨gb213, 2, none⟩ (.int .i64 t209)).setCell ⟨gb213, 3, none⟩ (.int .i64 t210)) = w76 at n0_ n1_ n2_ n3_ n4_ n5_ n6_ n7_ ⊢
  have HO190 := n0_
  have HO195 := n1_
  have BK183 := n2_
  have BK185 := n3_
  have BK186 := n4_
  have BK206 := n5_
  have BK213 := n6_
  have HB := n7_
  clear n0_ n1_ n2_ n3_ n4_ n5_ n6_ n7_
  have n0_ := Aside0.mk (Kd.R_drew HO190.out)
  have n1_ := Aside0.mk (Kd.R_drew HO195.out)
  have n2_ := Aside0.mk (blk_drew BK183.out)
  have n3_ := Aside0.mk (blk_drew BK185.out)
  have n4_ := Aside0.mk (blk_drew BK186.out)
  have n5_ := Aside0.mk (blk_drew BK206.out)
  have n6_ := Aside0.mk (blk_drew BK213.out)
  have n7_ := Aside0.mk (below_drew1 HB.out)
  clear HO190
  clear HO195
  clear BK183
  clear BK185
  clear BK186
  clear BK206
  clear BK213
  clear HB
  have HO190 := n0_
  have HO195 := n1_
  have BK183 := n2_
  have BK185 := n3_
  have BK186 := n4_
  have BK206 := n5_
  have BK213 := n6_
  have HB := n7_
  clear n0_ n1_ n2_ n3_ n4_ n5_ n6_ n7_
  refine start_ (n := 46) (S := fun w' => True) (ds := []) cellarlaw8_BytesBack.b14 (by kernel_rfl) rfl rfl trivial (fun hHeld => ?_); refine with_tabW cellarlaw8_BytesBack.tab20 cellarlaw8_BytesBack.bits20 (fun HT_ HW_ => ?_)
  generalize w76.drew = w77 at HO190 HO195 BK183 BK185 BK186 BK206 BK213 HB hHeld ⊢
  refine zq 0 (some 90) HT_ ?_
  refine one_ (i := 1) (N := some 91) cellarlaw8_BytesBack.b16 rfl rfl (one_of HT_.out (by kernel_rfl)) (by decide) (fun K hK => ?_)
  refine goes_ Try.func23 (by kernel_rfl) rfl #[.int .i64 t205] (by rfl) rfl rfl (by (try simp only [List.map_toArray, List.map_cons, List.map_nil]); first | done | rfl | (simp only [List.length_drop, List.length_take]; rfl)) ?_
  with_reducible refine (cellarlaw8_num.calls t205 t214 _ A59.out).mono ?_
  rintro e w' ⟨rfl, ⟨nd, rfl⟩⟩
  refine ⟨_, rfl, ?_⟩
  refine hK.out _ _ trivial (fun hHeld => ?_)
  clear hK K
  refine norm_ (a' := ?_) ?_ ?_
  rotate_left
  ·show Act.put _ (some 91) _ = _
   simp only [Act.put, List.setIfInBounds_toArray, List.set_cons_zero, List.set_cons_succ, i64_w, i32_w]
   rfl
  refine zq 2 (some 92) HT_ ?_; refine zq 3 (some 93) HT_ ?_; refine zq 4 (some 94) HT_ ?_
  refine one_ (i := 5) (N := some 95) cellarlaw8_BytesBack.b20 rfl rfl (one_of HT_.out (by kernel_rfl)) (by decide) (fun K hK => ?_)
  refine goes_ Try.func23 (by kernel_rfl) rfl #[.int .i64 t212] (by rfl) rfl rfl (by (try simp only [List.map_toArray, List.map_cons, List.map_nil]); first | done | rfl | (simp only [List.length_drop, List.length_take]; rfl)) ?_
  with_reducible refine (cellarlaw8_num.calls t212 t215 _ A61.out).mono ?_
  rintro e w' ⟨rfl, ⟨nd, rfl⟩⟩
  refine ⟨_, rfl, ?_⟩
  refine hK.out _ _ trivial (fun hHeld => ?_)
  clear hK K
  refine norm_ (a' := ?_) ?_ ?_
  rotate_left
  ·show Act.put _ (some 95) _ = _
   simp only [Act.put, List.setIfInBounds_toArray, List.set_cons_zero, List.set_cons_succ, i64_w, i32_w]
   rfl
  refine zq 6 (some 96) HT_ ?_; refine zq 7 (some 97) HT_ ?_; refine zq 8 (some 98) HT_ ?_; refine zq 9 (some 99) HT_ ?_; refine zq 10 (some 100) HT_ ?_; refine zq 11 (some 101) HT_ ?_; refine zq 12 (some 102) HT_ ?_; refine zq 13 (some 103) HT_ ?_; refine zq 14 (some 104) HT_ ?_; refine zq 15 (some 105) HT_ ?_; refine zq 16 (some 106) HT_ ?_; refine zu 17 (some 107) HT_ ?_; refine zu 18 (some 108) HT_ ?_; refine zu 19 (some 109) HT_ ?_; refine zu 20 (some 110) HT_ ?_; refine zu 21 (some 111) HT_ ?_; refine zu 22 (some 112) HT_ ?_; refine zu 23 (some 113) HT_ ?_; refine zq 24 (some 114) HT_ ?_; refine zq 25 (some 115) HT_ ?_; refine zu 26 (some 116) HT_ ?_; refine zu 27 (some 117) HT_ ?_; refine zu 28 (some 118) HT_ ?_; refine zu 29 (some 119) HT_ ?_; refine zu 30 (some 120) HT_ ?_; refine zu 31 (some 121) HT_ ?_; refine zu 32 (some 122) HT_ ?_; refine zq 33 (some 123) HT_ ?_; refine zq 34 (some 124) HT_ ?_; refine zu 35 (some 125) HT_ ?_; refine zu 36 (some 126) HT_ ?_; refine zu 37 (some 127) HT_ ?_; refine zu 38 (some 128) HT_ ?_; refine zu 39 (some 129) HT_ ?_; refine zq 40 (some 130) HT_ ?_; refine zq 41 (some 131) HT_ ?_; refine zu 42 (some 132) HT_ ?_; refine zu 43 (some 133) HT_ ?_; refine zu 44 (some 134) HT_ ?_; refine zq 45 (some 135) HT_ ?_
  refine done_ (done_of HT_.out (by kernel_rfl)) ?_
  try go_wp2
  go_meet
  case rel => exact ⟨_, (true), (zr), H', ⟨by have := HK1.out; have := HJ9.out; have := HK3.out; have := HK4.out; first | omega | exact Nat.le_refl _⟩, ⟨by (with_reducible repeat (first | apply Kd.R_alloc | apply Kd.R_drewN | apply Kd.R_drew)); exact HO190.out⟩, ⟨by (with_reducible repeat (first | apply Kd.R_alloc | apply Kd.R_drewN | apply Kd.R_drew)); exact HO195.out⟩, ⟨zb BK183.out⟩, ⟨zb BK185.out⟩, ⟨zb BK186.out⟩, ⟨zb BK206.out⟩, ⟨zb BK213.out⟩, ⟨by repeat (first | (with_reducible first | exact HB.out | apply below_alloc | apply pw_below_drewN | apply below_drew1 | refine below_set ?_ GE183.out | refine below_set ?_ GE185.out | refine below_set ?_ GE186.out | refine below_set ?_ GE206.out | refine below_set ?_ GE213.out) | exact HB.out)⟩⟩
 rw [if_pos c64] at H
 have c64b0 : (t211 == 0) = true := beq_iff_eq.mpr c64
 have c64b1 : (t211 != 0) = false := bne_eq_false_iff_eq.mpr c64
 clear c64
 by_cases c65 : (!(t200 == ((rd_T33 l0_1 x3_1).f0)) || (!(t201 == ((rd_T33 l0_1 x3_1).f1)) || (!(t202 == ((rd_T33 l0_1 x3_1).f2)) || (!(t203 == ((rd_T33 l0_1 x3_1).f3)))))) = true
 ·rw [if_pos c65] at H
  have c65b0 : (!(t200 == ((rd_T33 l0_1 x3_1).f0)) || (!(t201 == ((rd_T33 l0_1 x3_1).f1)) || (!(t202 == ((rd_T33 l0_1 x3_1).f2)) || (!(t203 == ((rd_T33 l0_1 x3_1).f3)))))) = true := c65
  clear c65
  have H' := Aside0.mk H
  clear H
  try go_wp2
  have n0_ : Aside0 (Kd.R k51 51 ((((w53.setCell ⟨gb213, 0, none⟩ (.bool t207)).setCell ⟨gb213, 1, none⟩ (.int .i64 t208)).setCell ⟨gb213, 2, none⟩ (.int .i64 t209)).setCell ⟨gb213, 3, none⟩ (.int .i64 t210)) w.heap.size (fun k_ => some k_ ≠ (.slice Ao51 t193.length co51 : Value).ownBlock) (.slice Ao43 t188.length co43) t188) := ⟨by (with_reducible repeat (first | apply Kd.R_alloc | apply Kd.R_drewN | apply Kd.R_drew)); exact Kd.R_mono (Kd.R_far (p := ⟨gb213, 3, none⟩) (Kd.R_far (p := ⟨gb213, 2, none⟩) (Kd.R_far (p := ⟨gb213, 1, none⟩) (Kd.R_far (p := ⟨gb213, 0, none⟩) (Kd.R_types HO190.out BK213.out (by decide)) (fun _ hk => hk.2) (.bool t207)) (fun _ hk => hk.2) (.int .i64 t208)) (fun _ hk => hk.2) (.int .i64 t209)) (fun _ hk => hk.2) (.int .i64 t210)) (fun _ hk => hk.1)⟩
  have n1_ : Aside0 (Kd.R k51 51 ((((w53.setCell ⟨gb213, 0, none⟩ (.bool t207)).setCell ⟨gb213, 1, none⟩ (.int .i64 t208)).setCell ⟨gb213, 2, none⟩ (.int .i64 t209)).setCell ⟨gb213, 3, none⟩ (.int .i64 t210)) w.heap.size (fun k_ => some k_ ≠ (.slice Ao43 t188.length co43 : Value).ownBlock) (.slice Ao51 t193.length co51) t193) := ⟨by (with_reducible repeat (first | apply Kd.R_alloc | apply Kd.R_drewN | apply Kd.R_drew)); exact Kd.R_mono (Kd.R_far (p := ⟨gb213, 3, none⟩) (Kd.R_far (p := ⟨gb213, 2, none⟩) (Kd.R_far (p := ⟨gb213, 1, none⟩) (Kd.R_far (p := ⟨gb213, 0, none⟩) (Kd.R_types HO195.out BK213.out (by decide)) (fun _ hk => hk.2) (.bool t207)) (fun _ hk => hk.2) (.int .i64 t208)) (fun _ hk => hk.2) (.int .i64 t209)) (fun _ hk => hk.2) (.int .i64 t210)) (fun _ hk => hk.1)⟩
  have n2_ : Aside0 (((((w53.setCell ⟨gb213, 0, none⟩ (.bool t207)).setCell ⟨gb213, 1, none⟩ (.int .i64 t208)).setCell ⟨gb213, 2, none⟩ (.int .i64 t209)).setCell ⟨gb213, 3, none⟩ (.int .i64 t210)).heap[gb183]? = some (.cells #[.slice A0_0 l0_0.length c0_0, .slice (some ad187) l0_1.length c0_1, .slice A0_2 l0_2.length c0_2] 26 (0, 0))) := ⟨zf1 BK183.out NB183_213.out⟩
  have n3_ : Aside0 (((((w53.setCell ⟨gb213, 0, none⟩ (.bool t207)).setCell ⟨gb213, 1, none⟩ (.int .i64 t208)).setCell ⟨gb213, 2, none⟩ (.int .i64 t209)).setCell ⟨gb213, 3, none⟩ (.int .i64 t210)).heap[gb185]? = some (.cells #[.bool false, .int .i64 x5_4] 38 (0, 0))) := ⟨zf1 BK185.out NB185_213.out⟩
  have n4_ : Aside0 (((((w53.setCell ⟨gb213, 0, none⟩ (.bool t207)).setCell ⟨gb213, 1, none⟩ (.int .i64 t208)).setCell ⟨gb213, 2, none⟩ (.int .i64 t209)).setCell ⟨gb213, 3, none⟩ (.int .i64 t210)).heap[gb186]? = some (.cells #[.bool true, .int .i64 x5_4] 38 (0, 0))) := ⟨zf1 BK186.out NB186_213.out⟩
  have n5_ : Aside0 (((((w53.setCell ⟨gb213, 0, none⟩ (.bool t207)).setCell ⟨gb213, 1, none⟩ (.int .i64 t208)).setCell ⟨gb213, 2, none⟩ (.int .i64 t209)).setCell ⟨gb213, 3, none⟩ (.int .i64 t210)).heap[gb206]? = some (.cells #[.bool t200, .int .i64 t201, .int .i64 t202, .int .i64 t203] 33 (0, 0))) := ⟨zf1 BK206.out NB206_213.out⟩
  have n6_ : Aside0 (((((w53.setCell ⟨gb213, 0, none⟩ (.bool t207)).setCell ⟨gb213, 1, none⟩ (.int .i64 t208)).setCell ⟨gb213, 2, none⟩ (.int .i64 t209)).setCell ⟨gb213, 3, none⟩ (.int .i64 t210)).heap[gb213]? = some (.cells #[.bool t207, .int .i64 t208, .int .i64 t209, .int .i64 t210] 33 (0, 0))) := ⟨by (with_reducible repeat (first | refine blk_drewN ?_ _ | refine blk_drew ?_ | refine blk_alloc ?_ _)); refine blk_put (cs := #[.bool t207, .int .i64 t208, .int .i64 t209, .int .i64 0]) ?_ 3 _ rfl; (with_reducible repeat (first | refine blk_drewN ?_ _ | refine blk_drew ?_ | refine blk_alloc ?_ _)); refine blk_put (cs := #[.bool t207, .int .i64 t208, .int .i64 0, .int .i64 0]) ?_ 2 _ rfl; (with_reducible repeat (first | refine blk_drewN ?_ _ | refine blk_drew ?_ | refine blk_alloc ?_ _)); refine blk_put (cs := #[.bool t207, .int .i64 0, .int .i64 0, .int .i64 0]) ?_ 1 _ rfl; (with_reducible repeat (first | refine blk_drewN ?_ _ | refine blk_drew ?_ | refine blk_alloc ?_ _)); refine blk_put (cs := #[.bool false, .int .i64 0, .int .i64 0, .int .i64 0]) ?_ 0 _ rfl; (with_reducible repeat (first | refine blk_drewN ?_ _ | refine blk_drew ?_ | refine blk_alloc ?_ _)); exact BK213.out⟩
  have n7_ : Aside0 (Below w.heap.size w ((((w53.setCell ⟨gb213, 0, none⟩ (.bool t207)).setCell ⟨gb213, 1, none⟩ (.int .i64 t208)).setCell ⟨gb213, 2, none⟩ (.int .i64 t209)).setCell ⟨gb213, 3, none⟩ (.int .i64 t210))) := ⟨by repeat (first | (with_reducible first | exact HB.out | apply below_alloc | apply pw_below_drewN | apply below_drew1 | refine below_set ?_ GE183.out | refine below_set ?_ GE185.out | refine below_set ?_ GE186.out | refine below_set ?_ GE206.out | refine below_set ?_ GE213.out) | exact HB.out)⟩
  (try clear HO190)
  (try clear HO195)
  (try clear BK183)
  (try clear BK185)
  (try clear BK186)
  (try clear BK206)
  (try clear BK213)
  (try clear HB)
  generalize ((((w53.setCell ⟨gb213, 0, none⟩ (.bool t207)).setCell ⟨gb213, 1, none⟩ (.int .i64 t208)).setCell ⟨gb213, 2, none⟩ (.int .i64 t209)).setCell ⟨gb213, 3, none⟩ (.int .i64 t210)) = w66 at n0_ n1_ n2_ n3_ n4_ n5_ n6_ n7_ ⊢
  have HO190 := n0_
  have HO195 := n1_
  have BK183 := n2_
  have BK185 := n3_
  have BK186 := n4_
  have BK206 := n5_
  have BK213 := n6_
  have HB := n7_
  clear n0_ n1_ n2_ n3_ n4_ n5_ n6_ n7_
  have n0_ := Aside0.mk (Kd.R_drew HO190.out)
  have n1_ := Aside0.mk (Kd.R_drew HO195.out)
  have n2_ := Aside0.mk (blk_drew BK183.out)
  have n3_ := Aside0.mk (blk_drew BK185.out)
  have n4_ := Aside0.mk (blk_drew BK186.out)
  have n5_ := Aside0.mk (blk_drew BK206.out)
  have n6_ := Aside0.mk (blk_drew BK213.out)
  have n7_ := Aside0.mk (below_drew1 HB.out)
  clear HO190
  clear HO195
  clear BK183
  clear BK185
  clear BK186
  clear BK206
  clear BK213
  clear HB
  have HO190 := n0_
  have HO195 := n1_
  have BK183 := n2_
  have BK185 := n3_
  have BK186 := n4_
  have BK206 := n5_
  have BK213 := n6_
  have HB := n7_
  clear n0_ n1_ n2_ n3_ n4_ n5_ n6_ n7_
  have p216 : 0 ≤ (x3_1 : Int) := zdec
  have q216 : x3_1 < (l0_1.length : Int) := zdec
  obtain ⟨ad216, e216, hx216_0, hx216_1, hx216_2, hx216_3⟩ := at_T33 HR0_1.out x3_1 p216 q216
  have hw216_3 := hx216_3
  have hw216_2 := hx216_2
  have hw216_1 := hx216_1
  have hw216_0 := hx216_0
  obtain rfl : ad187 = ad216 := (by injection e216)
  replace hx216_0 := zh HB.out hx216_0
  replace hx216_1 := zh HB.out hx216_1
  replace hx216_2 := zh HB.out hx216_2
  replace hx216_3 := zh HB.out hx216_3
  replace p216 := eq_true p216
  replace q216 := eq_true q216
  refine start_ (n := 46) (S := fun w' => w'.cell? ⟨gb206, 0, none⟩ = some (.bool t200) ∧ w'.cell? ⟨gb206, 1, none⟩ = some (.int .i64 t201) ∧ w'.cell? ⟨gb206, 2, none⟩ = some (.int .i64 t202) ∧ w'.cell? ⟨gb206, 3, none⟩ = some (.int .i64 t203) ∧ w'.cell? ⟨gb183, 0, none⟩ = some (.slice A0_0 l0_0.length c0_0) ∧ w'.cell? ⟨gb183, 1, none⟩ = some (.slice (some ad187) l0_1.length c0_1) ∧ w'.cell? ⟨gb183, 2, none⟩ = some (.slice A0_2 l0_2.length c0_2) ∧ w'.cell? (ad187.add ((x3_1).toNat * 4)) = some (.bool ((rd_T33 l0_1 x3_1).f0)) ∧ w'.cell? ⟨(ad187.add ((x3_1).toNat * 4)).block, (ad187.add ((x3_1).toNat * 4)).off + 1, none⟩ = some (.int .i64 ((rd_T33 l0_1 x3_1).f1)) ∧ w'.cell? ⟨(ad187.add ((x3_1).toNat * 4)).block, (ad187.add ((x3_1).toNat * 4)).off + 2, none⟩ = some (.int .i64 ((rd_T33 l0_1 x3_1).f2)) ∧ w'.cell? ⟨(ad187.add ((x3_1).toNat * 4)).block, (ad187.add ((x3_1).toNat * 4)).off + 3, none⟩ = some (.int .i64 ((rd_T33 l0_1 x3_1).f3))) (ds := []) cellarlaw8_BytesBack.b14 (by kernel_rfl) rfl rfl ⟨(blk_cell BK206.out 0).trans rfl, (blk_cell BK206.out 1).trans rfl, (blk_cell BK206.out 2).trans rfl, (blk_cell BK206.out 3).trans rfl, (blk_cell BK183.out 0).trans rfl, (blk_cell BK183.out 1).trans rfl, (blk_cell BK183.out 2).trans rfl, ((HB.out.cell (World.block_lt_of_cell? w _ hw216_0)).trans hw216_0), ((HB.out.cell (World.block_lt_of_cell? w _ hw216_1)).trans hw216_1), ((HB.out.cell (World.block_lt_of_cell? w _ hw216_2)).trans hw216_2), ((HB.out.cell (World.block_lt_of_cell? w _ hw216_3)).trans hw216_3)⟩ (fun hHeld => ?_); refine with_tabW cellarlaw8_BytesBack.tab20 cellarlaw8_BytesBack.bits20 (fun HT_ HW_ => ?_)
  generalize w66.drew = w67 at HO190 HO195 BK183 BK185 BK186 BK206 BK213 HB hx216_0 hx216_1 hx216_2 hx216_3 hHeld ⊢
  refine zq 0 (some 90) HT_ ?_
  refine one_ (i := 1) (N := some 91) cellarlaw8_BytesBack.b16 rfl rfl (one_of HT_.out (by kernel_rfl)) (by decide) (fun K hK => ?_)
  refine goes_ Try.func23 (by kernel_rfl) rfl #[.int .i64 t205] (by rfl) rfl rfl (by (try simp only [List.map_toArray, List.map_cons, List.map_nil]); first | done | rfl | (simp only [List.length_drop, List.length_take]; rfl)) ?_
  with_reducible refine (cellarlaw8_num.calls t205 t214 _ A59.out).mono ?_
  rintro e w' ⟨rfl, ⟨nd, rfl⟩⟩
  refine ⟨_, rfl, ?_⟩
  refine hK.out _ _ ⟨(blk_cell BK206.out 0).trans rfl, (blk_cell BK206.out 1).trans rfl, (blk_cell BK206.out 2).trans rfl, (blk_cell BK206.out 3).trans rfl, (blk_cell BK183.out 0).trans rfl, (blk_cell BK183.out 1).trans rfl, (blk_cell BK183.out 2).trans rfl, ((HB.out.cell (World.block_lt_of_cell? w _ hw216_0)).trans hw216_0), ((HB.out.cell (World.block_lt_of_cell? w _ hw216_1)).trans hw216_1), ((HB.out.cell (World.block_lt_of_cell? w _ hw216_2)).trans hw216_2), ((HB.out.cell (World.block_lt_of_cell? w _ hw216_3)).trans hw216_3)⟩ (fun hHeld => ?_)
  clear hK K
  refine norm_ (a' := ?_) ?_ ?_
  rotate_left
  ·show Act.put _ (some 91) _ = _
   simp only [Act.put, List.setIfInBounds_toArray, List.set_cons_zero, List.set_cons_succ, i64_w, i32_w]
   rfl
  refine zq 2 (some 92) HT_ ?_; refine zq 3 (some 93) HT_ ?_; refine zq 4 (some 94) HT_ ?_
  refine one_ (i := 5) (N := some 95) cellarlaw8_BytesBack.b20 rfl rfl (one_of HT_.out (by kernel_rfl)) (by decide) (fun K hK => ?_)
  refine goes_ Try.func23 (by kernel_rfl) rfl #[.int .i64 t212] (by rfl) rfl rfl (by (try simp only [List.map_toArray, List.map_cons, List.map_nil]); first | done | rfl | (simp only [List.length_drop, List.length_take]; rfl)) ?_
  with_reducible refine (cellarlaw8_num.calls t212 t215 _ A61.out).mono ?_
  rintro e w' ⟨rfl, ⟨nd, rfl⟩⟩
  refine ⟨_, rfl, ?_⟩
  refine hK.out _ _ ⟨(blk_cell BK206.out 0).trans rfl, (blk_cell BK206.out 1).trans rfl, (blk_cell BK206.out 2).trans rfl, (blk_cell BK206.out 3).trans rfl, (blk_cell BK183.out 0).trans rfl, (blk_cell BK183.out 1).trans rfl, (blk_cell BK183.out 2).trans rfl, ((HB.out.cell (World.block_lt_of_cell? w _ hw216_0)).trans hw216_0), ((HB.out.cell (World.block_lt_of_cell? w _ hw216_1)).trans hw216_1), ((HB.out.cell (World.block_lt_of_cell? w _ hw216_2)).trans hw216_2), ((HB.out.cell (World.block_lt_of_cell? w _ hw216_3)).trans hw216_3)⟩ (fun hHeld => ?_)
  clear hK K
  refine norm_ (a' := ?_) ?_ ?_
  rotate_left
  ·show Act.put _ (some 95) _ = _
   simp only [Act.put, List.setIfInBounds_toArray, List.set_cons_zero, List.set_cons_succ, i64_w, i32_w]
   rfl
  refine zq 6 (some 96) HT_ ?_; refine zq 7 (some 97) HT_ ?_; refine zq 8 (some 98) HT_ ?_; refine zq 9 (some 99) HT_ ?_; refine zq 10 (some 100) HT_ ?_; refine zq 11 (some 101) HT_ ?_; refine zq 12 (some 102) HT_ ?_; refine zq 13 (some 103) HT_ ?_; refine zq 14 (some 104) HT_ ?_; refine zq 15 (some 105) HT_ ?_; refine zq 16 (some 106) HT_ ?_; refine zq 18 (some 108) HT_ ?_; refine zq 20 (some 110) HT_ ?_; refine zt 17 (some 107) HT_ HW_ hHeld ?_; refine zt 19 (some 109) HT_ HW_ hHeld ?_; refine zq 21 (some 111) HT_ ?_; refine zt 22 (some 112) HT_ HW_ hHeld ?_; refine zq 23 (some 113) (v := .bool true) HT_ ?_ (hy := by (refine Or.inl ⟨by rfl, ?_⟩; intro w'; go_simp; first | exact imp4 c65b0 | exact itb4 c65b0)); refine zq 24 (some 114) HT_ ?_; refine zq 25 (some 115) HT_ ?_; refine zu 26 (some 116) HT_ ?_; refine zu 27 (some 117) HT_ ?_; refine zu 28 (some 118) HT_ ?_; refine zu 29 (some 119) HT_ ?_; refine zu 30 (some 120) HT_ ?_; refine zu 31 (some 121) HT_ ?_; refine zu 32 (some 122) HT_ ?_; refine zq 33 (some 123) HT_ ?_; refine zq 34 (some 124) HT_ ?_; refine zu 35 (some 125) HT_ ?_; refine zu 36 (some 126) HT_ ?_; refine zu 37 (some 127) HT_ ?_; refine zu 38 (some 128) HT_ ?_; refine zu 39 (some 129) HT_ ?_; refine zq 40 (some 130) HT_ ?_; refine zq 41 (some 131) HT_ ?_; refine zu 42 (some 132) HT_ ?_; refine zu 43 (some 133) HT_ ?_; refine zu 44 (some 134) HT_ ?_; refine zq 45 (some 135) HT_ ?_
  refine done_ (done_of HT_.out (by kernel_rfl)) ?_
  try go_wp2
  go_meet
  case rel => exact ⟨_, (true), (zr), H', ⟨by have := HK1.out; have := HJ9.out; have := HK3.out; have := HK4.out; first | omega | exact Nat.le_refl _⟩, ⟨by (with_reducible repeat (first | apply Kd.R_alloc | apply Kd.R_drewN | apply Kd.R_drew)); exact HO190.out⟩, ⟨by (with_reducible repeat (first | apply Kd.R_alloc | apply Kd.R_drewN | apply Kd.R_drew)); exact HO195.out⟩, ⟨zb BK183.out⟩, ⟨zb BK185.out⟩, ⟨zb BK186.out⟩, ⟨zb BK206.out⟩, ⟨zb BK213.out⟩, ⟨by repeat (first | (with_reducible first | exact HB.out | apply below_alloc | apply pw_below_drewN | apply below_drew1 | refine below_set ?_ GE183.out | refine below_set ?_ GE185.out | refine below_set ?_ GE186.out | refine below_set ?_ GE206.out | refine below_set ?_ GE213.out) | exact HB.out)⟩⟩
 rw [if_neg c65] at H
 have c65b0 : (!(t200 == ((rd_T33 l0_1 x3_1).f0)) || (!(t201 == ((rd_T33 l0_1 x3_1).f1)) || (!(t202 == ((rd_T33 l0_1 x3_1).f2)) || (!(t203 == ((rd_T33 l0_1 x3_1).f3)))))) = false := by simpa using c65
 have c65e_ : t200 = ((rd_T33 l0_1 x3_1).f0) ∧ t201 = ((rd_T33 l0_1 x3_1).f1) ∧ t202 = ((rd_T33 l0_1 x3_1).f2) ∧ t203 = ((rd_T33 l0_1 x3_1).f3) := by simpa using c65b0
 obtain ⟨c65e0, c65e1, c65e2, c65e3⟩ := c65e_
 replace c65e0 := eq_true c65e0
 replace c65e1 := eq_true c65e1
 replace c65e2 := eq_true c65e2
 replace c65e3 := eq_true c65e3
 clear c65
 by_cases c68 : (!(t207 == ((rd_T33 l0_1 x3_1).f0)) || (!(t208 == ((rd_T33 l0_1 x3_1).f1)) || (!(t209 == ((rd_T33 l0_1 x3_1).f2)) || (!(t210 == ((rd_T33 l0_1 x3_1).f3)))))) = true
 ·rw [if_pos c68] at H
  have c68b0 : (!(t207 == ((rd_T33 l0_1 x3_1).f0)) || (!(t208 == ((rd_T33 l0_1 x3_1).f1)) || (!(t209 == ((rd_T33 l0_1 x3_1).f2)) || (!(t210 == ((rd_T33 l0_1 x3_1).f3)))))) = true := c68
  clear c68
  have H' := Aside0.mk H
  clear H
  try go_wp2
  have n0_ : Aside0 (Kd.R k51 51 ((((w53.setCell ⟨gb213, 0, none⟩ (.bool t207)).setCell ⟨gb213, 1, none⟩ (.int .i64 t208)).setCell ⟨gb213, 2, none⟩ (.int .i64 t209)).setCell ⟨gb213, 3, none⟩ (.int .i64 t210)) w.heap.size (fun k_ => some k_ ≠ (.slice Ao51 t193.length co51 : Value).ownBlock) (.slice Ao43 t188.length co43) t188) := ⟨by (with_reducible repeat (first | apply Kd.R_alloc | apply Kd.R_drewN | apply Kd.R_drew)); exact Kd.R_mono (Kd.R_far (p := ⟨gb213, 3, none⟩) (Kd.R_far (p := ⟨gb213, 2, none⟩) (Kd.R_far (p := ⟨gb213, 1, none⟩) (Kd.R_far (p := ⟨gb213, 0, none⟩) (Kd.R_types HO190.out BK213.out (by decide)) (fun _ hk => hk.2) (.bool t207)) (fun _ hk => hk.2) (.int .i64 t208)) (fun _ hk => hk.2) (.int .i64 t209)) (fun _ hk => hk.2) (.int .i64 t210)) (fun _ hk => hk.1)⟩
  have n1_ : Aside0 (Kd.R k51 51 ((((w53.setCell ⟨gb213, 0, none⟩ (.bool t207)).setCell ⟨gb213, 1, none⟩ (.int .i64 t208)).setCell ⟨gb213, 2, none⟩ (.int .i64 t209)).setCell ⟨gb213, 3, none⟩ (.int .i64 t210)) w.heap.size (fun k_ => some k_ ≠ (.slice Ao43 t188.length co43 : Value).ownBlock) (.slice Ao51 t193.length co51) t193) := ⟨by (with_reducible repeat (first | apply Kd.R_alloc | apply Kd.R_drewN | apply Kd.R_drew)); exact Kd.R_mono (Kd.R_far (p := ⟨gb213, 3, none⟩) (Kd.R_far (p := ⟨gb213, 2, none⟩) (Kd.R_far (p := ⟨gb213, 1, none⟩) (Kd.R_far (p := ⟨gb213, 0, none⟩) (Kd.R_types HO195.out BK213.out (by decide)) (fun _ hk => hk.2) (.bool t207)) (fun _ hk => hk.2) (.int .i64 t208)) (fun _ hk => hk.2) (.int .i64 t209)) (fun _ hk => hk.2) (.int .i64 t210)) (fun _ hk => hk.1)⟩
  have n2_ : Aside0 (((((w53.setCell ⟨gb213, 0, none⟩ (.bool t207)).setCell ⟨gb213, 1, none⟩ (.int .i64 t208)).setCell ⟨gb213, 2, none⟩ (.int .i64 t209)).setCell ⟨gb213, 3, none⟩ (.int .i64 t210)).heap[gb183]? = some (.cells #[.slice A0_0 l0_0.length c0_0, .slice (some ad187) l0_1.length c0_1, .slice A0_2 l0_2.length c0_2] 26 (0, 0))) := ⟨zf1 BK183.out NB183_213.out⟩
  have n3_ : Aside0 (((((w53.setCell ⟨gb213, 0, none⟩ (.bool t207)).setCell ⟨gb213, 1, none⟩ (.int .i64 t208)).setCell ⟨gb213, 2, none⟩ (.int .i64 t209)).setCell ⟨gb213, 3, none⟩ (.int .i64 t210)).heap[gb185]? = some (.cells #[.bool false, .int .i64 x5_4] 38 (0, 0))) := ⟨zf1 BK185.out NB185_213.out⟩
  have n4_ : Aside0 (((((w53.setCell ⟨gb213, 0, none⟩ (.bool t207)).setCell ⟨gb213, 1, none⟩ (.int .i64 t208)).setCell ⟨gb213, 2, none⟩ (.int .i64 t209)).setCell ⟨gb213, 3, none⟩ (.int .i64 t210)).heap[gb186]? = some (.cells #[.bool true, .int .i64 x5_4] 38 (0, 0))) := ⟨zf1 BK186.out NB186_213.out⟩
  have n5_ : Aside0 (((((w53.setCell ⟨gb213, 0, none⟩ (.bool t207)).setCell ⟨gb213, 1, none⟩ (.int .i64 t208)).setCell ⟨gb213, 2, none⟩ (.int .i64 t209)).setCell ⟨gb213, 3, none⟩ (.int .i64 t210)).heap[gb206]? = some (.cells #[.bool t200, .int .i64 t201, .int .i64 t202, .int .i64 t203] 33 (0, 0))) := ⟨zf1 BK206.out NB206_213.out⟩
  have n6_ : Aside0 (((((w53.setCell ⟨gb213, 0, none⟩ (.bool t207)).setCell ⟨gb213, 1, none⟩ (.int .i64 t208)).setCell ⟨gb213, 2, none⟩ (.int .i64 t209)).setCell ⟨gb213, 3, none⟩ (.int .i64 t210)).heap[gb213]? = some (.cells #[.bool t207, .int .i64 t208, .int .i64 t209, .int .i64 t210] 33 (0, 0))) := ⟨by (with_reducible repeat (first | refine blk_drewN ?_ _ | refine blk_drew ?_ | refine blk_alloc ?_ _)); refine blk_put (cs := #[.bool t207, .int .i64 t208, .int .i64 t209, .int .i64 0]) ?_ 3 _ rfl; (with_reducible repeat (first | refine blk_drewN ?_ _ | refine blk_drew ?_ | refine blk_alloc ?_ _)); refine blk_put (cs := #[.bool t207, .int .i64 t208, .int .i64 0, .int .i64 0]) ?_ 2 _ rfl; (with_reducible repeat (first | refine blk_drewN ?_ _ | refine blk_drew ?_ | refine blk_alloc ?_ _)); refine blk_put (cs := #[.bool t207, .int .i64 0, .int .i64 0, .int .i64 0]) ?_ 1 _ rfl; (with_reducible repeat (first | refine blk_drewN ?_ _ | refine blk_drew ?_ | refine blk_alloc ?_ _)); refine blk_put (cs := #[.bool false, .int .i64 0, .int .i64 0, .int .i64 0]) ?_ 0 _ rfl; (with_reducible repeat (first | refine blk_drewN ?_ _ | refine blk_drew ?_ | refine blk_alloc ?_ _)); exact BK213.out⟩
  have n7_ : Aside0 (Below w.heap.size w ((((w53.setCell ⟨gb213, 0, none⟩ (.bool t207)).setCell ⟨gb213, 1, none⟩ (.int .i64 t208)).setCell ⟨gb213, 2, none⟩ (.int .i64 t209)).setCell ⟨gb213, 3, none⟩ (.int .i64 t210))) := ⟨by repeat (first | (with_reducible first | exact HB.out | apply below_alloc | apply pw_below_drewN | apply below_drew1 | refine below_set ?_ GE183.out | refine below_set ?_ GE185.out | refine below_set ?_ GE186.out | refine below_set ?_ GE206.out | refine below_set ?_ GE213.out) | exact HB.out)⟩
  (try clear HO190)
  (try clear HO195)
  (try clear BK183)
  (try clear BK185)
  (try clear BK186)
  (try clear BK206)
  (try clear BK213)
  (try clear HB)
  generalize ((((w53.setCell ⟨gb213, 0, none⟩ (.bool t207)).setCell ⟨gb213, 1, none⟩ (.int .i64 t208)).setCell ⟨gb213, 2, none⟩ (.int .i64 t209)).setCell ⟨gb213, 3, none⟩ (.int .i64 t210)) = w69 at n0_ n1_ n2_ n3_ n4_ n5_ n6_ n7_ ⊢
  have HO190 := n0_
  have HO195 := n1_
  have BK183 := n2_
  have BK185 := n3_
  have BK186 := n4_
  have BK206 := n5_
  have BK213 := n6_
  have HB := n7_
  clear n0_ n1_ n2_ n3_ n4_ n5_ n6_ n7_
  have n0_ := Aside0.mk (Kd.R_drew HO190.out)
  have n1_ := Aside0.mk (Kd.R_drew HO195.out)
  have n2_ := Aside0.mk (blk_drew BK183.out)
  have n3_ := Aside0.mk (blk_drew BK185.out)
  have n4_ := Aside0.mk (blk_drew BK186.out)
  have n5_ := Aside0.mk (blk_drew BK206.out)
  have n6_ := Aside0.mk (blk_drew BK213.out)
  have n7_ := Aside0.mk (below_drew1 HB.out)
  clear HO190
  clear HO195
  clear BK183
  clear BK185
  clear BK186
  clear BK206
  clear BK213
  clear HB
  have HO190 := n0_
  have HO195 := n1_
  have BK183 := n2_
  have BK185 := n3_
  have BK186 := n4_
  have BK206 := n5_
  have BK213 := n6_
  have HB := n7_
  clear n0_ n1_ n2_ n3_ n4_ n5_ n6_ n7_
  have p216 : 0 ≤ (x3_1 : Int) := zdec
  have q216 : x3_1 < (l0_1.length : Int) := zdec
  obtain ⟨ad216, e216, hx216_0, hx216_1, hx216_2, hx216_3⟩ := at_T33 HR0_1.out x3_1 p216 q216
  have hw216_3 := hx216_3
  have hw216_2 := hx216_2
  have hw216_1 := hx216_1
  have hw216_0 := hx216_0
  obtain rfl : ad187 = ad216 := (by injection e216)
  replace hx216_0 := zh HB.out hx216_0
  replace hx216_1 := zh HB.out hx216_1
  replace hx216_2 := zh HB.out hx216_2
  replace hx216_3 := zh HB.out hx216_3
  replace p216 := eq_true p216
  replace q216 := eq_true q216
  have p217 : 0 ≤ (x3_1 : Int) := zdec
  have q217 : x3_1 < (l0_1.length : Int) := zdec
  obtain ⟨ad217, e217, hx217_0, hx217_1, hx217_2, hx217_3⟩ := at_T33 HR0_1.out x3_1 p217 q217
  have hw217_3 := hx217_3
  have hw217_2 := hx217_2
  have hw217_1 := hx217_1
  have hw217_0 := hx217_0
  obtain rfl : ad187 = ad217 := (by injection e217)
  replace hx217_0 := zh HB.out hx217_0
  replace hx217_1 := zh HB.out hx217_1
  replace hx217_2 := zh HB.out hx217_2
  replace hx217_3 := zh HB.out hx217_3
  replace p217 := eq_true p217
  replace q217 := eq_true q217
  refine start_ (n := 46) (S := fun w' => w'.cell? ⟨gb206, 0, none⟩ = some (.bool t200) ∧ w'.cell? ⟨gb206, 1, none⟩ = some (.int .i64 t201) ∧ w'.cell? ⟨gb206, 2, none⟩ = some (.int .i64 t202) ∧ w'.cell? ⟨gb206, 3, none⟩ = some (.int .i64 t203) ∧ w'.cell? ⟨gb183, 0, none⟩ = some (.slice A0_0 l0_0.length c0_0) ∧ w'.cell? ⟨gb183, 1, none⟩ = some (.slice (some ad187) l0_1.length c0_1) ∧ w'.cell? ⟨gb183, 2, none⟩ = some (.slice A0_2 l0_2.length c0_2) ∧ w'.cell? ⟨gb213, 0, none⟩ = some (.bool t207) ∧ w'.cell? ⟨gb213, 1, none⟩ = some (.int .i64 t208) ∧ w'.cell? ⟨gb213, 2, none⟩ = some (.int .i64 t209) ∧ w'.cell? ⟨gb213, 3, none⟩ = some (.int .i64 t210) ∧ w'.cell? (ad187.add ((x3_1).toNat * 4)) = some (.bool ((rd_T33 l0_1 x3_1).f0)) ∧ w'.cell? ⟨(ad187.add ((x3_1).toNat * 4)).block, (ad187.add ((x3_1).toNat * 4)).off + 1, none⟩ = some (.int .i64 ((rd_T33 l0_1 x3_1).f1)) ∧ w'.cell? ⟨(ad187.add ((x3_1).toNat * 4)).block, (ad187.add ((x3_1).toNat * 4)).off + 2, none⟩ = some (.int .i64 ((rd_T33 l0_1 x3_1).f2)) ∧ w'.cell? ⟨(ad187.add ((x3_1).toNat * 4)).block, (ad187.add ((x3_1).toNat * 4)).off + 3, none⟩ = some (.int .i64 ((rd_T33 l0_1 x3_1).f3)) ∧ w'.cell? (ad187.add ((x3_1).toNat * 4)) = some (.bool ((rd_T33 l0_1 x3_1).f0)) ∧ w'.cell? ⟨(ad187.add ((x3_1).toNat * 4)).block, (ad187.add ((x3_1).toNat * 4)).off + 1, none⟩ = some (.int .i64 ((rd_T33 l0_1 x3_1).f1)) ∧ w'.cell? ⟨(ad187.add ((x3_1).toNat * 4)).block, (ad187.add ((x3_1).toNat * 4)).off + 2, none⟩ = some (.int .i64 ((rd_T33 l0_1 x3_1).f2)) ∧ w'.cell? ⟨(ad187.add ((x3_1).toNat * 4)).block, (ad187.add ((x3_1).toNat * 4)).off + 3, none⟩ = some (.int .i64 ((rd_T33 l0_1 x3_1).f3))) (ds := []) cellarlaw8_BytesBack.b14 (by kernel_rfl) rfl rfl ⟨(blk_cell BK206.out 0).trans rfl, (blk_cell BK206.out 1).trans rfl, (blk_cell BK206.out 2).trans rfl, (blk_cell BK206.out 3).trans rfl, (blk_cell BK183.out 0).trans rfl, (blk_cell BK183.out 1).trans rfl, (blk_cell BK183.out 2).trans rfl, (blk_cell BK213.out 0).trans rfl, (blk_cell BK213.out 1).trans rfl, (blk_cell BK213.out 2).trans rfl, (blk_cell BK213.out 3).trans rfl, ((HB.out.cell (World.block_lt_of_cell? w _ hw216_0)).trans hw216_0), ((HB.out.cell (World.block_lt_of_cell? w _ hw216_1)).trans hw216_1), ((HB.out.cell (World.block_lt_of_cell? w _ hw216_2)).trans hw216_2), ((HB.out.cell (World.block_lt_of_cell? w _ hw216_3)).trans hw216_3), ((HB.out.cell (World.block_lt_of_cell? w _ hw217_0)).trans hw217_0), ((HB.out.cell (World.block_lt_of_cell? w _ hw217_1)).trans hw217_1), ((HB.out.cell (World.block_lt_of_cell? w _ hw217_2)).trans hw217_2), ((HB.out.cell (World.block_lt_of_cell? w _ hw217_3)).trans hw217_3)⟩ (fun hHeld => ?_); refine with_tabW cellarlaw8_BytesBack.tab20 cellarlaw8_BytesBack.bits20 (fun HT_ HW_ => ?_)
  generalize w69.drew = w70 at HO190 HO195 BK183 BK185 BK186 BK206 BK213 HB hx216_0 hx216_1 hx216_2 hx216_3 hx217_0 hx217_1 hx217_2 hx217_3 hHeld ⊢
  refine zq 0 (some 90) HT_ ?_
  refine one_ (i := 1) (N := some 91) cellarlaw8_BytesBack.b16 rfl rfl (one_of HT_.out (by kernel_rfl)) (by decide) (fun K hK => ?_)
  refine goes_ Try.func23 (by kernel_rfl) rfl #[.int .i64 t205] (by rfl) rfl rfl (by (try simp only [List.map_toArray, List.map_cons, List.map_nil]); first | done | rfl | (simp only [List.length_drop, List.length_take]; rfl)) ?_
  with_reducible refine (cellarlaw8_num.calls t205 t214 _ A59.out).mono ?_
  rintro e w' ⟨rfl, ⟨nd, rfl⟩⟩
  refine ⟨_, rfl, ?_⟩
  refine hK.out _ _ ⟨(blk_cell BK206.out 0).trans rfl, (blk_cell BK206.out 1).trans rfl, (blk_cell BK206.out 2).trans rfl, (blk_cell BK206.out 3).trans rfl, (blk_cell BK183.out 0).trans rfl, (blk_cell BK183.out 1).trans rfl, (blk_cell BK183.out 2).trans rfl, (blk_cell BK213.out 0).trans rfl, (blk_cell BK213.out 1).trans rfl, (blk_cell BK213.out 2).trans rfl, (blk_cell BK213.out 3).trans rfl, ((HB.out.cell (World.block_lt_of_cell? w _ hw216_0)).trans hw216_0), ((HB.out.cell (World.block_lt_of_cell? w _ hw216_1)).trans hw216_1), ((HB.out.cell (World.block_lt_of_cell? w _ hw216_2)).trans hw216_2), ((HB.out.cell (World.block_lt_of_cell? w _ hw216_3)).trans hw216_3), ((HB.out.cell (World.block_lt_of_cell? w _ hw217_0)).trans hw217_0), ((HB.out.cell (World.block_lt_of_cell? w _ hw217_1)).trans hw217_1), ((HB.out.cell (World.block_lt_of_cell? w _ hw217_2)).trans hw217_2), ((HB.out.cell (World.block_lt_of_cell? w _ hw217_3)).trans hw217_3)⟩ (fun hHeld => ?_)
  clear hK K
  refine norm_ (a' := ?_) ?_ ?_
  rotate_left
  ·show Act.put _ (some 91) _ = _
   simp only [Act.put, List.setIfInBounds_toArray, List.set_cons_zero, List.set_cons_succ, i64_w, i32_w]
   rfl
  refine zq 2 (some 92) HT_ ?_; refine zq 3 (some 93) HT_ ?_; refine zq 4 (some 94) HT_ ?_
  refine one_ (i := 5) (N := some 95) cellarlaw8_BytesBack.b20 rfl rfl (one_of HT_.out (by kernel_rfl)) (by decide) (fun K hK => ?_)
  refine goes_ Try.func23 (by kernel_rfl) rfl #[.int .i64 t212] (by rfl) rfl rfl (by (try simp only [List.map_toArray, List.map_cons, List.map_nil]); first | done | rfl | (simp only [List.length_drop, List.length_take]; rfl)) ?_
  with_reducible refine (cellarlaw8_num.calls t212 t215 _ A61.out).mono ?_
  rintro e w' ⟨rfl, ⟨nd, rfl⟩⟩
  refine ⟨_, rfl, ?_⟩
  refine hK.out _ _ ⟨(blk_cell BK206.out 0).trans rfl, (blk_cell BK206.out 1).trans rfl, (blk_cell BK206.out 2).trans rfl, (blk_cell BK206.out 3).trans rfl, (blk_cell BK183.out 0).trans rfl, (blk_cell BK183.out 1).trans rfl, (blk_cell BK183.out 2).trans rfl, (blk_cell BK213.out 0).trans rfl, (blk_cell BK213.out 1).trans rfl, (blk_cell BK213.out 2).trans rfl, (blk_cell BK213.out 3).trans rfl, ((HB.out.cell (World.block_lt_of_cell? w _ hw216_0)).trans hw216_0), ((HB.out.cell (World.block_lt_of_cell? w _ hw216_1)).trans hw216_1), ((HB.out.cell (World.block_lt_of_cell? w _ hw216_2)).trans hw216_2), ((HB.out.cell (World.block_lt_of_cell? w _ hw216_3)).trans hw216_3), ((HB.out.cell (World.block_lt_of_cell? w _ hw217_0)).trans hw217_0), ((HB.out.cell (World.block_lt_of_cell? w _ hw217_1)).trans hw217_1), ((HB.out.cell (World.block_lt_of_cell? w _ hw217_2)).trans hw217_2), ((HB.out.cell (World.block_lt_of_cell? w _ hw217_3)).trans hw217_3)⟩ (fun hHeld => ?_)
  clear hK K
  refine norm_ (a' := ?_) ?_ ?_
  rotate_left
  ·show Act.put _ (some 95) _ = _
   simp only [Act.put, List.setIfInBounds_toArray, List.set_cons_zero, List.set_cons_succ, i64_w, i32_w]
   rfl
  refine zq 6 (some 96) HT_ ?_; refine zq 7 (some 97) HT_ ?_; refine zq 8 (some 98) HT_ ?_; refine zq 9 (some 99) HT_ ?_; refine zq 10 (some 100) HT_ ?_; refine zq 11 (some 101) HT_ ?_; refine zq 12 (some 102) HT_ ?_; refine zq 13 (some 103) HT_ ?_; refine zq 14 (some 104) HT_ ?_; refine zq 15 (some 105) HT_ ?_; refine zq 16 (some 106) HT_ ?_; refine zq 18 (some 108) HT_ ?_; refine zq 20 (some 110) HT_ ?_; refine zt 17 (some 107) HT_ HW_ hHeld ?_; refine zt 19 (some 109) HT_ HW_ hHeld ?_; refine zq 21 (some 111) HT_ ?_; refine zt 22 (some 112) HT_ HW_ hHeld ?_; refine zq 23 (some 113) HT_ ?_; refine zq 24 (some 114) HT_ ?_; refine zq 25 (some 115) HT_ ?_; refine zq 27 (some 117) HT_ ?_; refine zq 29 (some 119) HT_ ?_; refine zt 26 (some 116) HT_ HW_ hHeld ?_; refine zt 28 (some 118) HT_ HW_ hHeld ?_; refine zq 30 (some 120) HT_ ?_; refine zt 31 (some 121) HT_ HW_ hHeld ?_; refine zq 32 (some 122) (v := .bool true) HT_ ?_ (hy := by (refine Or.inl ⟨by rfl, ?_⟩; intro w'; go_simp; first | exact imp4 c68b0 | exact itb4 c68b0)); refine zq 33 (some 123) HT_ ?_; refine zq 34 (some 124) HT_ ?_; refine zu 35 (some 125) HT_ ?_; refine zu 36 (some 126) HT_ ?_; refine zu 37 (some 127) HT_ ?_; refine zu 38 (some 128) HT_ ?_; refine zu 39 (some 129) HT_ ?_; refine zq 40 (some 130) HT_ ?_; refine zq 41 (some 131) HT_ ?_; refine zu 42 (some 132) HT_ ?_; refine zu 43 (some 133) HT_ ?_; refine zu 44 (some 134) HT_ ?_; refine zq 45 (some 135) HT_ ?_
  refine done_ (done_of HT_.out (by kernel_rfl)) ?_
  try go_wp2
  go_meet
  case rel => exact ⟨_, (true), (zr), H', ⟨by have := HK1.out; have := HJ9.out; have := HK3.out; have := HK4.out; first | omega | exact Nat.le_refl _⟩, ⟨by (with_reducible repeat (first | apply Kd.R_alloc | apply Kd.R_drewN | apply Kd.R_drew)); exact HO190.out⟩, ⟨by (with_reducible repeat (first | apply Kd.R_alloc | apply Kd.R_drewN | apply Kd.R_drew)); exact HO195.out⟩, ⟨zb BK183.out⟩, ⟨zb BK185.out⟩, ⟨zb BK186.out⟩, ⟨zb BK206.out⟩, ⟨zb BK213.out⟩, ⟨by repeat (first | (with_reducible first | exact HB.out | apply below_alloc | apply pw_below_drewN | apply below_drew1 | refine below_set ?_ GE183.out | refine below_set ?_ GE185.out | refine below_set ?_ GE186.out | refine below_set ?_ GE206.out | refine below_set ?_ GE213.out) | exact HB.out)⟩⟩
 rw [if_neg c68] at H
 have c68b0 : (!(t207 == ((rd_T33 l0_1 x3_1).f0)) || (!(t208 == ((rd_T33 l0_1 x3_1).f1)) || (!(t209 == ((rd_T33 l0_1 x3_1).f2)) || (!(t210 == ((rd_T33 l0_1 x3_1).f3)))))) = false := by simpa using c68
 have c68e_ : t207 = ((rd_T33 l0_1 x3_1).f0) ∧ t208 = ((rd_T33 l0_1 x3_1).f1) ∧ t209 = ((rd_T33 l0_1 x3_1).f2) ∧ t210 = ((rd_T33 l0_1 x3_1).f3) := by simpa using c68b0
 obtain ⟨c68e0, c68e1, c68e2, c68e3⟩ := c68e_
 replace c68e0 := eq_true c68e0
 replace c68e1 := eq_true c68e1
 replace c68e2 := eq_true c68e2
 replace c68e3 := eq_true c68e3
 clear c68
 by_cases c71 : (t188.length : Int) = (t193.length : Int)
 ·rw [if_pos c71] at H
  have c71b0 : ((t188.length : Int) == (t193.length : Int)) = true := beq_iff_eq.mpr c71
  have c71b1 : ((t188.length : Int) != (t193.length : Int)) = false := bne_eq_false_iff_eq.mpr c71
  have c71b2 : (t188.length == t193.length) = true := by first | simpa using c71 | (simp at c71 ⊢; omega)
  clear c71
  have H' := Aside0.mk H
  clear H
  try go_wp2
  have n0_ : Aside0 (Kd.R k51 51 ((((w53.setCell ⟨gb213, 0, none⟩ (.bool t207)).setCell ⟨gb213, 1, none⟩ (.int .i64 t208)).setCell ⟨gb213, 2, none⟩ (.int .i64 t209)).setCell ⟨gb213, 3, none⟩ (.int .i64 t210)) w.heap.size (fun k_ => some k_ ≠ (.slice Ao51 t193.length co51 : Value).ownBlock) (.slice Ao43 t188.length co43) t188) := ⟨by (with_reducible repeat (first | apply Kd.R_alloc | apply Kd.R_drewN | apply Kd.R_drew)); exact Kd.R_mono (Kd.R_far (p := ⟨gb213, 3, none⟩) (Kd.R_far (p := ⟨gb213, 2, none⟩) (Kd.R_far (p := ⟨gb213, 1, none⟩) (Kd.R_far (p := ⟨gb213, 0, none⟩) (Kd.R_types HO190.out BK213.out (by decide)) (fun _ hk => hk.2) (.bool t207)) (fun _ hk => hk.2) (.int .i64 t208)) (fun _ hk => hk.2) (.int .i64 t209)) (fun _ hk => hk.2) (.int .i64 t210)) (fun _ hk => hk.1)⟩
  have n1_ : Aside0 (Kd.R k51 51 ((((w53.setCell ⟨gb213, 0, none⟩ (.bool t207)).setCell ⟨gb213, 1, none⟩ (.int .i64 t208)).setCell ⟨gb213, 2, none⟩ (.int .i64 t209)).setCell ⟨gb213, 3, none⟩ (.int .i64 t210)) w.heap.size (fun k_ => some k_ ≠ (.slice Ao43 t188.length co43 : Value).ownBlock) (.slice Ao51 t193.length co51) t193) := ⟨by (with_reducible repeat (first | apply Kd.R_alloc | apply Kd.R_drewN | apply Kd.R_drew)); exact Kd.R_mono (Kd.R_far (p := ⟨gb213, 3, none⟩) (Kd.R_far (p := ⟨gb213, 2, none⟩) (Kd.R_far (p := ⟨gb213, 1, none⟩) (Kd.R_far (p := ⟨gb213, 0, none⟩) (Kd.R_types HO195.out BK213.out (by decide)) (fun _ hk => hk.2) (.bool t207)) (fun _ hk => hk.2) (.int .i64 t208)) (fun _ hk => hk.2) (.int .i64 t209)) (fun _ hk => hk.2) (.int .i64 t210)) (fun _ hk => hk.1)⟩
  have n2_ : Aside0 (((((w53.setCell ⟨gb213, 0, none⟩ (.bool t207)).setCell ⟨gb213, 1, none⟩ (.int .i64 t208)).setCell ⟨gb213, 2, none⟩ (.int .i64 t209)).setCell ⟨gb213, 3, none⟩ (.int .i64 t210)).heap[gb183]? = some (.cells #[.slice A0_0 l0_0.length c0_0, .slice (some ad187) l0_1.length c0_1, .slice A0_2 l0_2.length c0_2] 26 (0, 0))) := ⟨zf1 BK183.out NB183_213.out⟩
  have n3_ : Aside0 (((((w53.setCell ⟨gb213, 0, none⟩ (.bool t207)).setCell ⟨gb213, 1, none⟩ (.int .i64 t208)).setCell ⟨gb213, 2, none⟩ (.int .i64 t209)).setCell ⟨gb213, 3, none⟩ (.int .i64 t210)).heap[gb185]? = some (.cells #[.bool false, .int .i64 x5_4] 38 (0, 0))) := ⟨zf1 BK185.out NB185_213.out⟩
  have n4_ : Aside0 (((((w53.setCell ⟨gb213, 0, none⟩ (.bool t207)).setCell ⟨gb213, 1, none⟩ (.int .i64 t208)).setCell ⟨gb213, 2, none⟩ (.int .i64 t209)).setCell ⟨gb213, 3, none⟩ (.int .i64 t210)).heap[gb186]? = some (.cells #[.bool true, .int .i64 x5_4] 38 (0, 0))) := ⟨zf1 BK186.out NB186_213.out⟩
  have n5_ : Aside0 (((((w53.setCell ⟨gb213, 0, none⟩ (.bool t207)).setCell ⟨gb213, 1, none⟩ (.int .i64 t208)).setCell ⟨gb213, 2, none⟩ (.int .i64 t209)).setCell ⟨gb213, 3, none⟩ (.int .i64 t210)).heap[gb206]? = some (.cells #[.bool t200, .int .i64 t201, .int .i64 t202, .int .i64 t203] 33 (0, 0))) := ⟨zf1 BK206.out NB206_213.out⟩
  have n6_ : Aside0 (((((w53.setCell ⟨gb213, 0, none⟩ (.bool t207)).setCell ⟨gb213, 1, none⟩ (.int .i64 t208)).setCell ⟨gb213, 2, none⟩ (.int .i64 t209)).setCell ⟨gb213, 3, none⟩ (.int .i64 t210)).heap[gb213]? = some (.cells #[.bool t207, .int .i64 t208, .int .i64 t209, .int .i64 t210] 33 (0, 0))) := ⟨by (with_reducible repeat (first | refine blk_drewN ?_ _ | refine blk_drew ?_ | refine blk_alloc ?_ _)); refine blk_put (cs := #[.bool t207, .int .i64 t208, .int .i64 t209, .int .i64 0]) ?_ 3 _ rfl; (with_reducible repeat (first | refine blk_drewN ?_ _ | refine blk_drew ?_ | refine blk_alloc ?_ _)); refine blk_put (cs := #[.bool t207, .int .i64 t208, .int .i64 0, .int .i64 0]) ?_ 2 _ rfl; (with_reducible repeat (first | refine blk_drewN ?_ _ | refine blk_drew ?_ | refine blk_alloc ?_ _)); refine blk_put (cs := #[.bool t207, .int .i64 0, .int .i64 0, .int .i64 0]) ?_ 1 _ rfl; (with_reducible repeat (first | refine blk_drewN ?_ _ | refine blk_drew ?_ | refine blk_alloc ?_ _)); refine blk_put (cs := #[.bool false, .int .i64 0, .int .i64 0, .int .i64 0]) ?_ 0 _ rfl; (with_reducible repeat (first | refine blk_drewN ?_ _ | refine blk_drew ?_ | refine blk_alloc ?_ _)); exact BK213.out⟩
  have n7_ : Aside0 (Below w.heap.size w ((((w53.setCell ⟨gb213, 0, none⟩ (.bool t207)).setCell ⟨gb213, 1, none⟩ (.int .i64 t208)).setCell ⟨gb213, 2, none⟩ (.int .i64 t209)).setCell ⟨gb213, 3, none⟩ (.int .i64 t210))) := ⟨by repeat (first | (with_reducible first | exact HB.out | apply below_alloc | apply pw_below_drewN | apply below_drew1 | refine below_set ?_ GE183.out | refine below_set ?_ GE185.out | refine below_set ?_ GE186.out | refine below_set ?_ GE206.out | refine below_set ?_ GE213.out) | exact HB.out)⟩
  (try clear HO190)
  (try clear HO195)
  (try clear BK183)
  (try clear BK185)
  (try clear BK186)
  (try clear BK206)
  (try clear BK213)
  (try clear HB)
  generalize ((((w53.setCell ⟨gb213, 0, none⟩ (.bool t207)).setCell ⟨gb213, 1, none⟩ (.int .i64 t208)).setCell ⟨gb213, 2, none⟩ (.int .i64 t209)).setCell ⟨gb213, 3, none⟩ (.int .i64 t210)) = w72 at n0_ n1_ n2_ n3_ n4_ n5_ n6_ n7_ ⊢
  have HO190 := n0_
  have HO195 := n1_
  have BK183 := n2_
  have BK185 := n3_
  have BK186 := n4_
  have BK206 := n5_
  have BK213 := n6_
  have HB := n7_
  clear n0_ n1_ n2_ n3_ n4_ n5_ n6_ n7_
  have n0_ := Aside0.mk (Kd.R_drew HO190.out)
  have n1_ := Aside0.mk (Kd.R_drew HO195.out)
  have n2_ := Aside0.mk (blk_drew BK183.out)
  have n3_ := Aside0.mk (blk_drew BK185.out)
  have n4_ := Aside0.mk (blk_drew BK186.out)
  have n5_ := Aside0.mk (blk_drew BK206.out)
  have n6_ := Aside0.mk (blk_drew BK213.out)
  have n7_ := Aside0.mk (below_drew1 HB.out)
  clear HO190
  clear HO195
  clear BK183
  clear BK185
  clear BK186
  clear BK206
  clear BK213
  clear HB
  have HO190 := n0_
  have HO195 := n1_
  have BK183 := n2_
  have BK185 := n3_
  have BK186 := n4_
  have BK206 := n5_
  have BK213 := n6_
  have HB := n7_
  clear n0_ n1_ n2_ n3_ n4_ n5_ n6_ n7_
  have p216 : 0 ≤ (x3_1 : Int) := zdec
  have q216 : x3_1 < (l0_1.length : Int) := zdec
  obtain ⟨ad216, e216, hx216_0, hx216_1, hx216_2, hx216_3⟩ := at_T33 HR0_1.out x3_1 p216 q216
  have hw216_3 := hx216_3
  have hw216_2 := hx216_2
  have hw216_1 := hx216_1
  have hw216_0 := hx216_0
  obtain rfl : ad187 = ad216 := (by injection e216)
  replace hx216_0 := zh HB.out hx216_0
  replace hx216_1 := zh HB.out hx216_1
  replace hx216_2 := zh HB.out hx216_2
  replace hx216_3 := zh HB.out hx216_3
  replace p216 := eq_true p216
  replace q216 := eq_true q216
  have p217 : 0 ≤ (x3_1 : Int) := zdec
  have q217 : x3_1 < (l0_1.length : Int) := zdec
  obtain ⟨ad217, e217, hx217_0, hx217_1, hx217_2, hx217_3⟩ := at_T33 HR0_1.out x3_1 p217 q217
  have hw217_3 := hx217_3
  have hw217_2 := hx217_2
  have hw217_1 := hx217_1
  have hw217_0 := hx217_0
  obtain rfl : ad187 = ad217 := (by injection e217)
  replace hx217_0 := zh HB.out hx217_0
  replace hx217_1 := zh HB.out hx217_1
  replace hx217_2 := zh HB.out hx217_2
  replace hx217_3 := zh HB.out hx217_3
  replace p217 := eq_true p217
  replace q217 := eq_true q217
  refine start_ (n := 46) (S := fun w' => w'.cell? ⟨gb206, 0, none⟩ = some (.bool t200) ∧ w'.cell? ⟨gb206, 1, none⟩ = some (.int .i64 t201) ∧ w'.cell? ⟨gb206, 2, none⟩ = some (.int .i64 t202) ∧ w'.cell? ⟨gb206, 3, none⟩ = some (.int .i64 t203) ∧ w'.cell? ⟨gb183, 0, none⟩ = some (.slice A0_0 l0_0.length c0_0) ∧ w'.cell? ⟨gb183, 1, none⟩ = some (.slice (some ad187) l0_1.length c0_1) ∧ w'.cell? ⟨gb183, 2, none⟩ = some (.slice A0_2 l0_2.length c0_2) ∧ w'.cell? ⟨gb213, 0, none⟩ = some (.bool t207) ∧ w'.cell? ⟨gb213, 1, none⟩ = some (.int .i64 t208) ∧ w'.cell? ⟨gb213, 2, none⟩ = some (.int .i64 t209) ∧ w'.cell? ⟨gb213, 3, none⟩ = some (.int .i64 t210) ∧ w'.cell? (ad187.add ((x3_1).toNat * 4)) = some (.bool ((rd_T33 l0_1 x3_1).f0)) ∧ w'.cell? ⟨(ad187.add ((x3_1).toNat * 4)).block, (ad187.add ((x3_1).toNat * 4)).off + 1, none⟩ = some (.int .i64 ((rd_T33 l0_1 x3_1).f1)) ∧ w'.cell? ⟨(ad187.add ((x3_1).toNat * 4)).block, (ad187.add ((x3_1).toNat * 4)).off + 2, none⟩ = some (.int .i64 ((rd_T33 l0_1 x3_1).f2)) ∧ w'.cell? ⟨(ad187.add ((x3_1).toNat * 4)).block, (ad187.add ((x3_1).toNat * 4)).off + 3, none⟩ = some (.int .i64 ((rd_T33 l0_1 x3_1).f3)) ∧ w'.cell? (ad187.add ((x3_1).toNat * 4)) = some (.bool ((rd_T33 l0_1 x3_1).f0)) ∧ w'.cell? ⟨(ad187.add ((x3_1).toNat * 4)).block, (ad187.add ((x3_1).toNat * 4)).off + 1, none⟩ = some (.int .i64 ((rd_T33 l0_1 x3_1).f1)) ∧ w'.cell? ⟨(ad187.add ((x3_1).toNat * 4)).block, (ad187.add ((x3_1).toNat * 4)).off + 2, none⟩ = some (.int .i64 ((rd_T33 l0_1 x3_1).f2)) ∧ w'.cell? ⟨(ad187.add ((x3_1).toNat * 4)).block, (ad187.add ((x3_1).toNat * 4)).off + 3, none⟩ = some (.int .i64 ((rd_T33 l0_1 x3_1).f3))) (ds := []) cellarlaw8_BytesBack.b14 (by kernel_rfl) rfl rfl ⟨(blk_cell BK206.out 0).trans rfl, (blk_cell BK206.out 1).trans rfl, (blk_cell BK206.out 2).trans rfl, (blk_cell BK206.out 3).trans rfl, (blk_cell BK183.out 0).trans rfl, (blk_cell BK183.out 1).trans rfl, (blk_cell BK183.out 2).trans rfl, (blk_cell BK213.out 0).trans rfl, (blk_cell BK213.out 1).trans rfl, (blk_cell BK213.out 2).trans rfl, (blk_cell BK213.out 3).trans rfl, ((HB.out.cell (World.block_lt_of_cell? w _ hw216_0)).trans hw216_0), ((HB.out.cell (World.block_lt_of_cell? w _ hw216_1)).trans hw216_1), ((HB.out.cell (World.block_lt_of_cell? w _ hw216_2)).trans hw216_2), ((HB.out.cell (World.block_lt_of_cell? w _ hw216_3)).trans hw216_3), ((HB.out.cell (World.block_lt_of_cell? w _ hw217_0)).trans hw217_0), ((HB.out.cell (World.block_lt_of_cell? w _ hw217_1)).trans hw217_1), ((HB.out.cell (World.block_lt_of_cell? w _ hw217_2)).trans hw217_2), ((HB.out.cell (World.block_lt_of_cell? w _ hw217_3)).trans hw217_3)⟩ (fun hHeld => ?_); refine with_tabW cellarlaw8_BytesBack.tab20 cellarlaw8_BytesBack.bits20 (fun HT_ HW_ => ?_)
  generalize w72.drew = w73 at HO190 HO195 BK183 BK185 BK186 BK206 BK213 HB hx216_0 hx216_1 hx216_2 hx216_3 hx217_0 hx217_1 hx217_2 hx217_3 hHeld ⊢
  refine zq 0 (some 90) HT_ ?_
  refine one_ (i := 1) (N := some 91) cellarlaw8_BytesBack.b16 rfl rfl (one_of HT_.out (by kernel_rfl)) (by decide) (fun K hK => ?_)
  refine goes_ Try.func23 (by kernel_rfl) rfl #[.int .i64 t205] (by rfl) rfl rfl (by (try simp only [List.map_toArray, List.map_cons, List.map_nil]); first | done | rfl | (simp only [List.length_drop, List.length_take]; rfl)) ?_
  with_reducible refine (cellarlaw8_num.calls t205 t214 _ A59.out).mono ?_
  rintro e w' ⟨rfl, ⟨nd, rfl⟩⟩
  refine ⟨_, rfl, ?_⟩
  refine hK.out _ _ ⟨(blk_cell BK206.out 0).trans rfl, (blk_cell BK206.out 1).trans rfl, (blk_cell BK206.out 2).trans rfl, (blk_cell BK206.out 3).trans rfl, (blk_cell BK183.out 0).trans rfl, (blk_cell BK183.out 1).trans rfl, (blk_cell BK183.out 2).trans rfl, (blk_cell BK213.out 0).trans rfl, (blk_cell BK213.out 1).trans rfl, (blk_cell BK213.out 2).trans rfl, (blk_cell BK213.out 3).trans rfl, ((HB.out.cell (World.block_lt_of_cell? w _ hw216_0)).trans hw216_0), ((HB.out.cell (World.block_lt_of_cell? w _ hw216_1)).trans hw216_1), ((HB.out.cell (World.block_lt_of_cell? w _ hw216_2)).trans hw216_2), ((HB.out.cell (World.block_lt_of_cell? w _ hw216_3)).trans hw216_3), ((HB.out.cell (World.block_lt_of_cell? w _ hw217_0)).trans hw217_0), ((HB.out.cell (World.block_lt_of_cell? w _ hw217_1)).trans hw217_1), ((HB.out.cell (World.block_lt_of_cell? w _ hw217_2)).trans hw217_2), ((HB.out.cell (World.block_lt_of_cell? w _ hw217_3)).trans hw217_3)⟩ (fun hHeld => ?_)
  clear hK K
  refine norm_ (a' := ?_) ?_ ?_
  rotate_left
  ·show Act.put _ (some 91) _ = _
   simp only [Act.put, List.setIfInBounds_toArray, List.set_cons_zero, List.set_cons_succ, i64_w, i32_w]
   rfl
  refine zq 2 (some 92) HT_ ?_; refine zq 3 (some 93) HT_ ?_; refine zq 4 (some 94) HT_ ?_
  refine one_ (i := 5) (N := some 95) cellarlaw8_BytesBack.b20 rfl rfl (one_of HT_.out (by kernel_rfl)) (by decide) (fun K hK => ?_)
  refine goes_ Try.func23 (by kernel_rfl) rfl #[.int .i64 t212] (by rfl) rfl rfl (by (try simp only [List.map_toArray, List.map_cons, List.map_nil]); first | done | rfl | (simp only [List.length_drop, List.length_take]; rfl)) ?_
  with_reducible refine (cellarlaw8_num.calls t212 t215 _ A61.out).mono ?_
  rintro e w' ⟨rfl, ⟨nd, rfl⟩⟩
  refine ⟨_, rfl, ?_⟩
  refine hK.out _ _ ⟨(blk_cell BK206.out 0).trans rfl, (blk_cell BK206.out 1).trans rfl, (blk_cell BK206.out 2).trans rfl, (blk_cell BK206.out 3).trans rfl, (blk_cell BK183.out 0).trans rfl, (blk_cell BK183.out 1).trans rfl, (blk_cell BK183.out 2).trans rfl, (blk_cell BK213.out 0).trans rfl, (blk_cell BK213.out 1).trans rfl, (blk_cell BK213.out 2).trans rfl, (blk_cell BK213.out 3).trans rfl, ((HB.out.cell (World.block_lt_of_cell? w _ hw216_0)).trans hw216_0), ((HB.out.cell (World.block_lt_of_cell? w _ hw216_1)).trans hw216_1), ((HB.out.cell (World.block_lt_of_cell? w _ hw216_2)).trans hw216_2), ((HB.out.cell (World.block_lt_of_cell? w _ hw216_3)).trans hw216_3), ((HB.out.cell (World.block_lt_of_cell? w _ hw217_0)).trans hw217_0), ((HB.out.cell (World.block_lt_of_cell? w _ hw217_1)).trans hw217_1), ((HB.out.cell (World.block_lt_of_cell? w _ hw217_2)).trans hw217_2), ((HB.out.cell (World.block_lt_of_cell? w _ hw217_3)).trans hw217_3)⟩ (fun hHeld => ?_)
  clear hK K
  refine norm_ (a' := ?_) ?_ ?_
  rotate_left
  ·show Act.put _ (some 95) _ = _
   simp only [Act.put, List.setIfInBounds_toArray, List.set_cons_zero, List.set_cons_succ, i64_w, i32_w]
   rfl
  refine zq 6 (some 96) HT_ ?_; refine zq 7 (some 97) HT_ ?_; refine zq 8 (some 98) HT_ ?_; refine zq 9 (some 99) HT_ ?_; refine zq 10 (some 100) HT_ ?_; refine zq 11 (some 101) HT_ ?_; refine zq 12 (some 102) HT_ ?_; refine zq 13 (some 103) HT_ ?_; refine zq 14 (some 104) HT_ ?_; refine zq 15 (some 105) HT_ ?_; refine zq 16 (some 106) HT_ ?_; refine zq 18 (some 108) HT_ ?_; refine zq 20 (some 110) HT_ ?_; refine zt 17 (some 107) HT_ HW_ hHeld ?_; refine zt 19 (some 109) HT_ HW_ hHeld ?_; refine zq 21 (some 111) HT_ ?_; refine zt 22 (some 112) HT_ HW_ hHeld ?_; refine zq 23 (some 113) HT_ ?_; refine zq 24 (some 114) HT_ ?_; refine zq 25 (some 115) HT_ ?_; refine zq 27 (some 117) HT_ ?_; refine zq 29 (some 119) HT_ ?_; refine zt 26 (some 116) HT_ HW_ hHeld ?_; refine zt 28 (some 118) HT_ HW_ hHeld ?_; refine zq 30 (some 120) HT_ ?_; refine zt 31 (some 121) HT_ HW_ hHeld ?_; refine zq 32 (some 122) HT_ ?_; refine zq 33 (some 123) HT_ ?_; refine zq 34 (some 124) HT_ ?_; refine zq 35 (some 125) HT_ ?_; refine zq 36 (some 126) HT_ ?_; refine zq 37 (some 127) HT_ ?_; refine zq 38 (some 128) HT_ ?_; refine zq 39 (some 129) HT_ ?_; refine zq 40 (some 130) HT_ ?_; refine zq 41 (some 131) HT_ ?_; refine zq 42 (some 132) HT_ ?_; refine zq 43 (some 133) HT_ ?_; refine zq 44 (some 134) HT_ ?_; refine zq 45 (some 135) HT_ ?_
  refine done_ (done_of HT_.out (by kernel_rfl)) ?_
  try go_wp2
  go_meet
  case rel => exact ⟨_, (((t188.length : Int) == 0)), (zr), H', ⟨by have := HK1.out; have := HJ9.out; have := HK3.out; have := HK4.out; first | omega | exact Nat.le_refl _⟩, ⟨by (with_reducible repeat (first | apply Kd.R_alloc | apply Kd.R_drewN | apply Kd.R_drew)); exact HO190.out⟩, ⟨by (with_reducible repeat (first | apply Kd.R_alloc | apply Kd.R_drewN | apply Kd.R_drew)); exact HO195.out⟩, ⟨zb BK183.out⟩, ⟨zb BK185.out⟩, ⟨zb BK186.out⟩, ⟨zb BK206.out⟩, ⟨zb BK213.out⟩, ⟨by repeat (first | (with_reducible first | exact HB.out | apply below_alloc | apply pw_below_drewN | apply below_drew1 | refine below_set ?_ GE183.out | refine below_set ?_ GE185.out | refine below_set ?_ GE186.out | refine below_set ?_ GE206.out | refine below_set ?_ GE213.out) | exact HB.out)⟩⟩
 rw [if_neg c71] at H
 have c71b0 : ((t188.length : Int) == (t193.length : Int)) = false := beq_eq_false_iff_ne.mpr c71
 have c71b1 : ((t188.length : Int) != (t193.length : Int)) = true := bne_iff_ne.mpr c71
 have c71b2 : (t188.length == t193.length) = false := by first | simpa using c71 | (simp at c71 ⊢; omega)
 have H' := Aside0.mk H
 clear H
 try go_wp2
 have n0_ : Aside0 (Kd.R k51 51 ((((w53.setCell ⟨gb213, 0, none⟩ (.bool t207)).setCell ⟨gb213, 1, none⟩ (.int .i64 t208)).setCell ⟨gb213, 2, none⟩ (.int .i64 t209)).setCell ⟨gb213, 3, none⟩ (.int .i64 t210)) w.heap.size (fun k_ => some k_ ≠ (.slice Ao51 t193.length co51 : Value).ownBlock) (.slice Ao43 t188.length co43) t188) := ⟨by (with_reducible repeat (first | apply Kd.R_alloc | apply Kd.R_drewN | apply Kd.R_drew)); exact Kd.R_mono (Kd.R_far (p := ⟨gb213, 3, none⟩) (Kd.R_far (p := ⟨gb213, 2, none⟩) (Kd.R_far (p := ⟨gb213, 1, none⟩) (Kd.R_far (p := ⟨gb213, 0, none⟩) (Kd.R_types HO190.out BK213.out (by decide)) (fun _ hk => hk.2) (.bool t207)) (fun _ hk => hk.2) (.int .i64 t208)) (fun _ hk => hk.2) (.int .i64 t209)) (fun _ hk => hk.2) (.int .i64 t210)) (fun _ hk => hk.1)⟩
 have n1_ : Aside0 (Kd.R k51 51 ((((w53.setCell ⟨gb213, 0, none⟩ (.bool t207)).setCell ⟨gb213, 1, none⟩ (.int .i64 t208)).setCell ⟨gb213, 2, none⟩ (.int .i64 t209)).setCell ⟨gb213, 3, none⟩ (.int .i64 t210)) w.heap.size (fun k_ => some k_ ≠ (.slice Ao43 t188.length co43 : Value).ownBlock) (.slice Ao51 t193.length co51) t193) := ⟨by (with_reducible repeat (first | apply Kd.R_alloc | apply Kd.R_drewN | apply Kd.R_drew)); exact Kd.R_mono (Kd.R_far (p := ⟨gb213, 3, none⟩) (Kd.R_far (p := ⟨gb213, 2, none⟩) (Kd.R_far (p := ⟨gb213, 1, none⟩) (Kd.R_far (p := ⟨gb213, 0, none⟩) (Kd.R_types HO195.out BK213.out (by decide)) (fun _ hk => hk.2) (.bool t207)) (fun _ hk => hk.2) (.int .i64 t208)) (fun _ hk => hk.2) (.int .i64 t209)) (fun _ hk => hk.2) (.int .i64 t210)) (fun _ hk => hk.1)⟩
 have n2_ : Aside0 (((((w53.setCell ⟨gb213, 0, none⟩ (.bool t207)).setCell ⟨gb213, 1, none⟩ (.int .i64 t208)).setCell ⟨gb213, 2, none⟩ (.int .i64 t209)).setCell ⟨gb213, 3, none⟩ (.int .i64 t210)).heap[gb183]? = some (.cells #[.slice A0_0 l0_0.length c0_0, .slice (some ad187) l0_1.length c0_1, .slice A0_2 l0_2.length c0_2] 26 (0, 0))) := ⟨zf1 BK183.out NB183_213.out⟩
 have n3_ : Aside0 (((((w53.setCell ⟨gb213, 0, none⟩ (.bool t207)).setCell ⟨gb213, 1, none⟩ (.int .i64 t208)).setCell ⟨gb213, 2, none⟩ (.int .i64 t209)).setCell ⟨gb213, 3, none⟩ (.int .i64 t210)).heap[gb185]? = some (.cells #[.bool false, .int .i64 x5_4] 38 (0, 0))) := ⟨zf1 BK185.out NB185_213.out⟩
 have n4_ : Aside0 (((((w53.setCell ⟨gb213, 0, none⟩ (.bool t207)).setCell ⟨gb213, 1, none⟩ (.int .i64 t208)).setCell ⟨gb213, 2, none⟩ (.int .i64 t209)).setCell ⟨gb213, 3, none⟩ (.int .i64 t210)).heap[gb186]? = some (.cells #[.bool true, .int .i64 x5_4] 38 (0, 0))) := ⟨zf1 BK186.out NB186_213.out⟩
 have n5_ : Aside0 (((((w53.setCell ⟨gb213, 0, none⟩ (.bool t207)).setCell ⟨gb213, 1, none⟩ (.int .i64 t208)).setCell ⟨gb213, 2, none⟩ (.int .i64 t209)).setCell ⟨gb213, 3, none⟩ (.int .i64 t210)).heap[gb206]? = some (.cells #[.bool t200, .int .i64 t201, .int .i64 t202, .int .i64 t203] 33 (0, 0))) := ⟨zf1 BK206.out NB206_213.out⟩
 have n6_ : Aside0 (((((w53.setCell ⟨gb213, 0, none⟩ (.bool t207)).setCell ⟨gb213, 1, none⟩ (.int .i64 t208)).setCell ⟨gb213, 2, none⟩ (.int .i64 t209)).setCell ⟨gb213, 3, none⟩ (.int .i64 t210)).heap[gb213]? = some (.cells #[.bool t207, .int .i64 t208, .int .i64 t209, .int .i64 t210] 33 (0, 0))) := ⟨by (with_reducible repeat (first | refine blk_drewN ?_ _ | refine blk_drew ?_ | refine blk_alloc ?_ _)); refine blk_put (cs := #[.bool t207, .int .i64 t208, .int .i64 t209, .int .i64 0]) ?_ 3 _ rfl; (with_reducible repeat (first | refine blk_drewN ?_ _ | refine blk_drew ?_ | refine blk_alloc ?_ _)); refine blk_put (cs := #[.bool t207, .int .i64 t208, .int .i64 0, .int .i64 0]) ?_ 2 _ rfl; (with_reducible repeat (first | refine blk_drewN ?_ _ | refine blk_drew ?_ | refine blk_alloc ?_ _)); refine blk_put (cs := #[.bool t207, .int .i64 0, .int .i64 0, .int .i64 0]) ?_ 1 _ rfl; (with_reducible repeat (first | refine blk_drewN ?_ _ | refine blk_drew ?_ | refine blk_alloc ?_ _)); refine blk_put (cs := #[.bool false, .int .i64 0, .int .i64 0, .int .i64 0]) ?_ 0 _ rfl; (with_reducible repeat (first | refine blk_drewN ?_ _ | refine blk_drew ?_ | refine blk_alloc ?_ _)); exact BK213.out⟩
 have n7_ : Aside0 (Below w.heap.size w ((((w53.setCell ⟨gb213, 0, none⟩ (.bool t207)).setCell ⟨gb213, 1, none⟩ (.int .i64 t208)).setCell ⟨gb213, 2, none⟩ (.int .i64 t209)).setCell ⟨gb213, 3, none⟩ (.int .i64 t210))) := ⟨by repeat (first | (with_reducible first | exact HB.out | apply below_alloc | apply pw_below_drewN | apply below_drew1 | refine below_set ?_ GE183.out | refine below_set ?_ GE185.out | refine below_set ?_ GE186.out | refine below_set ?_ GE206.out | refine below_set ?_ GE213.out) | exact HB.out)⟩
 (try clear HO190)
 (try clear HO195)
 (try clear BK183)
 (try clear BK185)
 (try clear BK186)
 (try clear BK206)
 (try clear BK213)
 (try clear HB)
 generalize ((((w53.setCell ⟨gb213, 0, none⟩ (.bool t207)).setCell ⟨gb213, 1, none⟩ (.int .i64 t208)).setCell ⟨gb213, 2, none⟩ (.int .i64 t209)).setCell ⟨gb213, 3, none⟩ (.int .i64 t210)) = w74 at n0_ n1_ n2_ n3_ n4_ n5_ n6_ n7_ ⊢
 have HO190 := n0_
 have HO195 := n1_
 have BK183 := n2_
 have BK185 := n3_
 have BK186 := n4_
 have BK206 := n5_
 have BK213 := n6_
 have HB := n7_
 clear n0_ n1_ n2_ n3_ n4_ n5_ n6_ n7_
 have n0_ := Aside0.mk (Kd.R_drew HO190.out)
 have n1_ := Aside0.mk (Kd.R_drew HO195.out)
 have n2_ := Aside0.mk (blk_drew BK183.out)
 have n3_ := Aside0.mk (blk_drew BK185.out)
 have n4_ := Aside0.mk (blk_drew BK186.out)
 have n5_ := Aside0.mk (blk_drew BK206.out)
 have n6_ := Aside0.mk (blk_drew BK213.out)
 have n7_ := Aside0.mk (below_drew1 HB.out)
 clear HO190
 clear HO195
 clear BK183
 clear BK185
 clear BK186
 clear BK206
 clear BK213
 clear HB
 have HO190 := n0_
 have HO195 := n1_
 have BK183 := n2_
 have BK185 := n3_
 have BK186 := n4_
 have BK206 := n5_
 have BK213 := n6_
 have HB := n7_
 clear n0_ n1_ n2_ n3_ n4_ n5_ n6_ n7_
 have p216 : 0 ≤ (x3_1 : Int) := zdec
 have q216 : x3_1 < (l0_1.length : Int) := zdec
 obtain ⟨ad216, e216, hx216_0, hx216_1, hx216_2, hx216_3⟩ := at_T33 HR0_1.out x3_1 p216 q216
 have hw216_3 := hx216_3
 have hw216_2 := hx216_2
 have hw216_1 := hx216_1
 have hw216_0 := hx216_0
 obtain rfl : ad187 = ad216 := (by injection e216)
 replace hx216_0 := zh HB.out hx216_0
 replace hx216_1 := zh HB.out hx216_1
 replace hx216_2 := zh HB.out hx216_2
 replace hx216_3 := zh HB.out hx216_3
 replace p216 := eq_true p216
 replace q216 := eq_true q216
 have p217 : 0 ≤ (x3_1 : Int) := zdec
 have q217 : x3_1 < (l0_1.length : Int) := zdec
 obtain ⟨ad217, e217, hx217_0, hx217_1, hx217_2, hx217_3⟩ := at_T33 HR0_1.out x3_1 p217 q217
 have hw217_3 := hx217_3
 have hw217_2 := hx217_2
 have hw217_1 := hx217_1
 have hw217_0 := hx217_0
 obtain rfl : ad187 = ad217 := (by injection e217)
 replace hx217_0 := zh HB.out hx217_0
 replace hx217_1 := zh HB.out hx217_1
 replace hx217_2 := zh HB.out hx217_2
 replace hx217_3 := zh HB.out hx217_3
 replace p217 := eq_true p217
 replace q217 := eq_true q217
 refine start_ (n := 46) (S := fun w' => w'.cell? ⟨gb206, 0, none⟩ = some (.bool t200) ∧ w'.cell? ⟨gb206, 1, none⟩ = some (.int .i64 t201) ∧ w'.cell? ⟨gb206, 2, none⟩ = some (.int .i64 t202) ∧ w'.cell? ⟨gb206, 3, none⟩ = some (.int .i64 t203) ∧ w'.cell? ⟨gb183, 0, none⟩ = some (.slice A0_0 l0_0.length c0_0) ∧ w'.cell? ⟨gb183, 1, none⟩ = some (.slice (some ad187) l0_1.length c0_1) ∧ w'.cell? ⟨gb183, 2, none⟩ = some (.slice A0_2 l0_2.length c0_2) ∧ w'.cell? ⟨gb213, 0, none⟩ = some (.bool t207) ∧ w'.cell? ⟨gb213, 1, none⟩ = some (.int .i64 t208) ∧ w'.cell? ⟨gb213, 2, none⟩ = some (.int .i64 t209) ∧ w'.cell? ⟨gb213, 3, none⟩ = some (.int .i64 t210) ∧ w'.cell? (ad187.add ((x3_1).toNat * 4)) = some (.bool ((rd_T33 l0_1 x3_1).f0)) ∧ w'.cell? ⟨(ad187.add ((x3_1).toNat * 4)).block, (ad187.add ((x3_1).toNat * 4)).off + 1, none⟩ = some (.int .i64 ((rd_T33 l0_1 x3_1).f1)) ∧ w'.cell? ⟨(ad187.add ((x3_1).toNat * 4)).block, (ad187.add ((x3_1).toNat * 4)).off + 2, none⟩ = some (.int .i64 ((rd_T33 l0_1 x3_1).f2)) ∧ w'.cell? ⟨(ad187.add ((x3_1).toNat * 4)).block, (ad187.add ((x3_1).toNat * 4)).off + 3, none⟩ = some (.int .i64 ((rd_T33 l0_1 x3_1).f3)) ∧ w'.cell? (ad187.add ((x3_1).toNat * 4)) = some (.bool ((rd_T33 l0_1 x3_1).f0)) ∧ w'.cell? ⟨(ad187.add ((x3_1).toNat * 4)).block, (ad187.add ((x3_1).toNat * 4)).off + 1, none⟩ = some (.int .i64 ((rd_T33 l0_1 x3_1).f1)) ∧ w'.cell? ⟨(ad187.add ((x3_1).toNat * 4)).block, (ad187.add ((x3_1).toNat * 4)).off + 2, none⟩ = some (.int .i64 ((rd_T33 l0_1 x3_1).f2)) ∧ w'.cell? ⟨(ad187.add ((x3_1).toNat * 4)).block, (ad187.add ((x3_1).toNat * 4)).off + 3, none⟩ = some (.int .i64 ((rd_T33 l0_1 x3_1).f3))) (ds := []) cellarlaw8_BytesBack.b14 (by kernel_rfl) rfl rfl ⟨(blk_cell BK206.out 0).trans rfl, (blk_cell BK206.out 1).trans rfl, (blk_cell BK206.out 2).trans rfl, (blk_cell BK206.out 3).trans rfl, (blk_cell BK183.out 0).trans rfl, (blk_cell BK183.out 1).trans rfl, (blk_cell BK183.out 2).trans rfl, (blk_cell BK213.out 0).trans rfl, (blk_cell BK213.out 1).trans rfl, (blk_cell BK213.out 2).trans rfl, (blk_cell BK213.out 3).trans rfl, ((HB.out.cell (World.block_lt_of_cell? w _ hw216_0)).trans hw216_0), ((HB.out.cell (World.block_lt_of_cell? w _ hw216_1)).trans hw216_1), ((HB.out.cell (World.block_lt_of_cell? w _ hw216_2)).trans hw216_2), ((HB.out.cell (World.block_lt_of_cell? w _ hw216_3)).trans hw216_3), ((HB.out.cell (World.block_lt_of_cell? w _ hw217_0)).trans hw217_0), ((HB.out.cell (World.block_lt_of_cell? w _ hw217_1)).trans hw217_1), ((HB.out.cell (World.block_lt_of_cell? w _ hw217_2)).trans hw217_2), ((HB.out.cell (World.block_lt_of_cell? w _ hw217_3)).trans hw217_3)⟩ (fun hHeld => ?_); refine with_tabW cellarlaw8_BytesBack.tab20 cellarlaw8_BytesBack.bits20 (fun HT_ HW_ => ?_)
 generalize w74.drew = w75 at HO190 HO195 BK183 BK185 BK186 BK206 BK213 HB hx216_0 hx216_1 hx216_2 hx216_3 hx217_0 hx217_1 hx217_2 hx217_3 hHeld ⊢
 refine zq 0 (some 90) HT_ ?_
 refine one_ (i := 1) (N := some 91) cellarlaw8_BytesBack.b16 rfl rfl (one_of HT_.out (by kernel_rfl)) (by decide) (fun K hK => ?_)
 refine goes_ Try.func23 (by kernel_rfl) rfl #[.int .i64 t205] (by rfl) rfl rfl (by (try simp only [List.map_toArray, List.map_cons, List.map_nil]); first | done | rfl | (simp only [List.length_drop, List.length_take]; rfl)) ?_
 with_reducible refine (cellarlaw8_num.calls t205 t214 _ A59.out).mono ?_
 rintro e w' ⟨rfl, ⟨nd, rfl⟩⟩
 refine ⟨_, rfl, ?_⟩
 refine hK.out _ _ ⟨(blk_cell BK206.out 0).trans rfl, (blk_cell BK206.out 1).trans rfl, (blk_cell BK206.out 2).trans rfl, (blk_cell BK206.out 3).trans rfl, (blk_cell BK183.out 0).trans rfl, (blk_cell BK183.out 1).trans rfl, (blk_cell BK183.out 2).trans rfl, (blk_cell BK213.out 0).trans rfl, (blk_cell BK213.out 1).trans rfl, (blk_cell BK213.out 2).trans rfl, (blk_cell BK213.out 3).trans rfl, ((HB.out.cell (World.block_lt_of_cell? w _ hw216_0)).trans hw216_0), ((HB.out.cell (World.block_lt_of_cell? w _ hw216_1)).trans hw216_1), ((HB.out.cell (World.block_lt_of_cell? w _ hw216_2)).trans hw216_2), ((HB.out.cell (World.block_lt_of_cell? w _ hw216_3)).trans hw216_3), ((HB.out.cell (World.block_lt_of_cell? w _ hw217_0)).trans hw217_0), ((HB.out.cell (World.block_lt_of_cell? w _ hw217_1)).trans hw217_1), ((HB.out.cell (World.block_lt_of_cell? w _ hw217_2)).trans hw217_2), ((HB.out.cell (World.block_lt_of_cell? w _ hw217_3)).trans hw217_3)⟩ (fun hHeld => ?_)
 clear hK K
 refine norm_ (a' := ?_) ?_ ?_
 rotate_left
 ·show Act.put _ (some 91) _ = _
  simp only [Act.put, List.setIfInBounds_toArray, List.set_cons_zero, List.set_cons_succ, i64_w, i32_w]
  rfl
 refine zq 2 (some 92) HT_ ?_; refine zq 3 (some 93) HT_ ?_; refine zq 4 (some 94) HT_ ?_
 refine one_ (i := 5) (N := some 95) cellarlaw8_BytesBack.b20 rfl rfl (one_of HT_.out (by kernel_rfl)) (by decide) (fun K hK => ?_)
 refine goes_ Try.func23 (by kernel_rfl) rfl #[.int .i64 t212] (by rfl) rfl rfl (by (try simp only [List.map_toArray, List.map_cons, List.map_nil]); first | done | rfl | (simp only [List.length_drop, List.length_take]; rfl)) ?_
 with_reducible refine (cellarlaw8_num.calls t212 t215 _ A61.out).mono ?_
 rintro e w' ⟨rfl, ⟨nd, rfl⟩⟩
 refine ⟨_, rfl, ?_⟩
 refine hK.out _ _ ⟨(blk_cell BK206.out 0).trans rfl, (blk_cell BK206.out 1).trans rfl, (blk_cell BK206.out 2).trans rfl, (blk_cell BK206.out 3).trans rfl, (blk_cell BK183.out 0).trans rfl, (blk_cell BK183.out 1).trans rfl, (blk_cell BK183.out 2).trans rfl, (blk_cell BK213.out 0).trans rfl, (blk_cell BK213.out 1).trans rfl, (blk_cell BK213.out 2).trans rfl, (blk_cell BK213.out 3).trans rfl, ((HB.out.cell (World.block_lt_of_cell? w _ hw216_0)).trans hw216_0), ((HB.out.cell (World.block_lt_of_cell? w _ hw216_1)).trans hw216_1), ((HB.out.cell (World.block_lt_of_cell? w _ hw216_2)).trans hw216_2), ((HB.out.cell (World.block_lt_of_cell? w _ hw216_3)).trans hw216_3), ((HB.out.cell (World.block_lt_of_cell? w _ hw217_0)).trans hw217_0), ((HB.out.cell (World.block_lt_of_cell? w _ hw217_1)).trans hw217_1), ((HB.out.cell (World.block_lt_of_cell? w _ hw217_2)).trans hw217_2), ((HB.out.cell (World.block_lt_of_cell? w _ hw217_3)).trans hw217_3)⟩ (fun hHeld => ?_)
 clear hK K
 refine norm_ (a' := ?_) ?_ ?_
 rotate_left
 ·show Act.put _ (some 95) _ = _
  simp only [Act.put, List.setIfInBounds_toArray, List.set_cons_zero, List.set_cons_succ, i64_w, i32_w]
  rfl
 refine zq 6 (some 96) HT_ ?_; refine zq 7 (some 97) HT_ ?_; refine zq 8 (some 98) HT_ ?_; refine zq 9 (some 99) HT_ ?_; refine zq 10 (some 100) HT_ ?_; refine zq 11 (some 101) HT_ ?_; refine zq 12 (some 102) HT_ ?_; refine zq 13 (some 103) HT_ ?_; refine zq 14 (some 104) HT_ ?_; refine zq 15 (some 105) HT_ ?_; refine zq 16 (some 106) HT_ ?_; refine zq 18 (some 108) HT_ ?_; refine zq 20 (some 110) HT_ ?_; refine zt 17 (some 107) HT_ HW_ hHeld ?_; refine zt 19 (some 109) HT_ HW_ hHeld ?_; refine zq 21 (some 111) HT_ ?_; refine zt 22 (some 112) HT_ HW_ hHeld ?_; refine zq 23 (some 113) HT_ ?_; refine zq 24 (some 114) HT_ ?_; refine zq 25 (some 115) HT_ ?_; refine zq 27 (some 117) HT_ ?_; refine zq 29 (some 119) HT_ ?_; refine zt 26 (some 116) HT_ HW_ hHeld ?_; refine zt 28 (some 118) HT_ HW_ hHeld ?_; refine zq 30 (some 120) HT_ ?_; refine zt 31 (some 121) HT_ HW_ hHeld ?_; refine zq 32 (some 122) HT_ ?_; refine zq 33 (some 123) HT_ ?_; refine zq 34 (some 124) HT_ ?_; refine zq 35 (some 125) HT_ ?_; refine zq 36 (some 126) HT_ ?_; refine zq 37 (some 127) HT_ ?_; refine zq 38 (some 128) HT_ ?_; refine zq 39 (some 129) HT_ ?_; refine zq 40 (some 130) HT_ ?_; refine zq 41 (some 131) HT_ ?_; refine zu 42 (some 132) HT_ ?_; refine zu 43 (some 133) HT_ ?_; refine zu 44 (some 134) HT_ ?_; refine zq 45 (some 135) HT_ ?_
 refine done_ (done_of HT_.out (by kernel_rfl)) ?_
 try go_wp2
 go_meet
 case rel => exact ⟨_, (true), (zr), H', ⟨by have := HK1.out; have := HJ9.out; have := HK3.out; have := HK4.out; first | omega | exact Nat.le_refl _⟩, ⟨by (with_reducible repeat (first | apply Kd.R_alloc | apply Kd.R_drewN | apply Kd.R_drew)); exact HO190.out⟩, ⟨by (with_reducible repeat (first | apply Kd.R_alloc | apply Kd.R_drewN | apply Kd.R_drew)); exact HO195.out⟩, ⟨zb BK183.out⟩, ⟨zb BK185.out⟩, ⟨zb BK186.out⟩, ⟨zb BK206.out⟩, ⟨zb BK213.out⟩, ⟨by repeat (first | (with_reducible first | exact HB.out | apply below_alloc | apply pw_below_drewN | apply below_drew1 | refine below_set ?_ GE183.out | refine below_set ?_ GE185.out | refine below_set ?_ GE186.out | refine below_set ?_ GE206.out | refine below_set ?_ GE213.out) | exact HB.out)⟩⟩
end Go.Proofs.Ythhdmanpjeminaa.B
