-- Written by this session's own edition of the print.
import Derived.Test.YthhdmanpjeminaaBx0
import Derived.Test.YthhdmanpjeminaaBx1
import Derived.Test.YthhdmanpjeminaaBx2
import Derived.Test.YthhdmanpjeminaaBx3
import Derived.Test.YthhdmanpjeminaaBx5
import Derived.Test.YthhdmanpjeminaaBx6
import Derived.Test.YthhdmanpjeminaaBx7
import Derived.Test.YthhdmanpjeminaaUSq
import Derived.Test.YthhdmanpjeminaaUSq2
import Derived.Test.YthhdmanpjeminaaUSq3
import Derived.Test.YthhdmanpjeminaaBx8
import Derived.Test.YthhdmanpjeminaaCut
import Derived.Test.YthhdmanpjeminaaBy
namespace Go.Proofs.Ythhdmanpjeminaa.B
open Go.Proofs.Ythhdmanpjeminaa.Cuts Go.RowKit Go.Proofs.Ythhdmanpjeminaa.Fn Go.Proofs.YthhdmanpjeminaaW.PrintWords Go.Proofs.YthhdmanpjeminaaW.PrintLast Go.Proofs.YthhdmanpjeminaaW.PrintMore
set_option linter.unusedSimpArgs false in
set_option linter.unusedVariables false in
set_option maxHeartbeats 60000000 in
set_option maxRecDepth 100000 in
noncomputable def cellarlaw8_BytesBack.cut_a : Cut2 (cellarlaw8_BytesBack.cut_.P1) := by
 apply Cut2.mk
 case h =>
 intro cutP1 cutP2
 intro k A0_0 c0_0 l0_0 A0_1 c0_1 l0_1 A0_2 c0_2 l0_2 r w hu26 hu38 hu33 hu51 HR0_0 HC0_0 HR0_1 HC0_1 HR0_2 HC0_2 A2 q1_ gb183 w7 GW183 GE183 hcz8_0 hcz8_1 hcz8_2 hfz8_0 hfz8_1 hfz8_2 q4_ q5_ q6_ q7_ q8_ x3_1 k1 q11_ HK1 wc u21 u22 u23 u24 u25 u26 u27 u28 u30 u31 kj9 HJ9 q14_ q15_ u34 u35 q16_ q17_ q18_ x4_3 k3 q21_ HK3 c15b0 q22_ q23_ wr u2 u6 u7 u8 u9 u10 u11 u12 u13 u14 u15 u16 u17 u18 u38 u39 u40 u41 u42 u43 u44 u45 u46 u47 u48 u49 u50 u51 u52 u53 u54 u55 u56 u57 u58 u59 u60 u61 u62 u63 u64 u65 u66 u67 u68 u69 u70 u71 u72 u73 u74 u75 u76 u77 u78 u79 u80 u81 u82 u83 u84 u85 u86 u87 u88 u89 u90 u91 u92 u93 u94 u95 u96 u97 u98 u99 u100 u101 u102 u103 u104 u105 u106 u107 u108 u109 u110 u111 u112 u113 u114 u115 u116 u117 u118 u119 u120 u121 u122 u123 u124 u125 u126 u127 u128 u129 u130 u131 u132 u133 u134 u135 u136 u137 u138 u139 u140 u141 u142 u143 u144 u145 u146 u147 u148 u149 u150 u151 u152 u153 u154 u155 u156 u157 u158 u159 u160 u161 u162 u163 u164 u165 u166 u167 u168 u169 u170 u171 u172 u173 u174 u175 u176 u177 u178 u179 u180 q24_ q25_ q26_ x5_4 BK183 HB k4 q27_ HK4 c16b0 HC17 q28_ q29_ q30_ q31_ q32_ q33_
 have H := HC17.out
 clear HC17
 by_cases c18 : 0 ≤ x3_1
 rotate_left
 ·rw [if_neg c18] at H
  exact absurd H (by simp)
 rw [if_pos c18] at H
 have c18b0 : decide (0 ≤ x3_1) = true := decide_eq_true c18
 clear c18
 (first | rw [c18b0] | (simp only [i64_w, i32_w]; rw [c18b0]) | skip)
 by_cases c19 : x3_1 < (l0_1.length : Int)
 rotate_left
 ·rw [if_neg c19] at H
  exact absurd H (by simp)
 rw [if_pos c19] at H
 have c19b0 : decide (x3_1 < (l0_1.length : Int)) = true := decide_eq_true c19
 clear c19
 replace H := Option.bind_eq_some_iff.mp H
 obtain ⟨⟨t188, t191⟩, A200, H⟩ := H
 replace H : ((bytes_Put.f k4 true x5_4 x4_3 ((rd_T33 l0_1 x3_1).f0) ((rd_T33 l0_1 x3_1).f1) ((rd_T33 l0_1 x3_1).f2) ((rd_T33 l0_1 x3_1).f3)).bind fun bt193 => ((cellarlaw8_num.f t191).bind fun t197 => ((cellarlaw8_num.f bt193.2).bind fun t198 => (if t197 = t198 then ((cellarlaw8_num.f t191).bind fun t199 => (if t199 = 0 then ((bytes_Get.f k4 false x5_4 x4_3 t188).bind fun bt200 => ((bytes_Get.f k4 true x5_4 x4_3 bt193.1).bind fun bt207 => ((cellarlaw8_num.f bt200.2.2.2.2.2).bind fun t214 => (if t214 = 0 then ((cellarlaw8_num.f bt207.2.2.2.2.2).bind fun t215 => (if t215 = 0 then (if bt200.2.2.2.2.1 = 0 then (if bt207.2.2.2.2.1 = 0 then (if (!(bt200.1 == ((rd_T33 l0_1 x3_1).f0)) || (!(bt200.2.1 == ((rd_T33 l0_1 x3_1).f1)) || (!(bt200.2.2.1 == ((rd_T33 l0_1 x3_1).f2)) || (!(bt200.2.2.2.1 == ((rd_T33 l0_1 x3_1).f3)))))) = true then (cellarlaw8_BytesBack.j4 k4 x3_1 x4_3 x5_4 t188 bt193.1 true l0_0 l0_1 l0_2 false x5_4) else (if (!(bt207.1 == ((rd_T33 l0_1 x3_1).f0)) || (!(bt207.2.1 == ((rd_T33 l0_1 x3_1).f1)) || (!(bt207.2.2.1 == ((rd_T33 l0_1 x3_1).f2)) || (!(bt207.2.2.2.1 == ((rd_T33 l0_1 x3_1).f3)))))) = true then (cellarlaw8_BytesBack.j4 k4 x3_1 x4_3 x5_4 t188 bt193.1 true l0_0 l0_1 l0_2 false x5_4) else (if (t188.length : Int) = (bt193.1.length : Int) then (cellarlaw8_BytesBack.j4 k4 x3_1 x4_3 x5_4 t188 bt193.1 ((t188.length : Int) == 0) l0_0 l0_1 l0_2 false x5_4) else (cellarlaw8_BytesBack.j4 k4 x3_1 x4_3 x5_4 t188 bt193.1 true l0_0 l0_1 l0_2 false x5_4)))) else (cellarlaw8_BytesBack.j4 k4 x3_1 x4_3 x5_4 t188 bt193.1 true l0_0 l0_1 l0_2 false x5_4)) else (cellarlaw8_BytesBack.j4 k4 x3_1 x4_3 x5_4 t188 bt193.1 true l0_0 l0_1 l0_2 false x5_4)) else (cellarlaw8_BytesBack.j4 k4 x3_1 x4_3 x5_4 t188 bt193.1 true l0_0 l0_1 l0_2 false x5_4))) else (cellarlaw8_BytesBack.j4 k4 x3_1 x4_3 x5_4 t188 bt193.1 true l0_0 l0_1 l0_2 false x5_4))))) else (cellarlaw8_BytesBack.j7 k4 x3_1 x4_3 x5_4 l0_0 l0_1 l0_2))) else (some false))))) = some r := H
 have A20 := Aside0.mk A200
 clear A200
 replace H := Option.bind_eq_some_iff.mp H
 obtain ⟨⟨t193, t196⟩, A210, H⟩ := H
 replace H : ((cellarlaw8_num.f t191).bind fun t197 => ((cellarlaw8_num.f t196).bind fun t198 => (if t197 = t198 then ((cellarlaw8_num.f t191).bind fun t199 => (if t199 = 0 then ((bytes_Get.f k4 false x5_4 x4_3 t188).bind fun bt200 => ((bytes_Get.f k4 true x5_4 x4_3 t193).bind fun bt207 => ((cellarlaw8_num.f bt200.2.2.2.2.2).bind fun t214 => (if t214 = 0 then ((cellarlaw8_num.f bt207.2.2.2.2.2).bind fun t215 => (if t215 = 0 then (if bt200.2.2.2.2.1 = 0 then (if bt207.2.2.2.2.1 = 0 then (if (!(bt200.1 == ((rd_T33 l0_1 x3_1).f0)) || (!(bt200.2.1 == ((rd_T33 l0_1 x3_1).f1)) || (!(bt200.2.2.1 == ((rd_T33 l0_1 x3_1).f2)) || (!(bt200.2.2.2.1 == ((rd_T33 l0_1 x3_1).f3)))))) = true then (cellarlaw8_BytesBack.j4 k4 x3_1 x4_3 x5_4 t188 t193 true l0_0 l0_1 l0_2 false x5_4) else (if (!(bt207.1 == ((rd_T33 l0_1 x3_1).f0)) || (!(bt207.2.1 == ((rd_T33 l0_1 x3_1).f1)) || (!(bt207.2.2.1 == ((rd_T33 l0_1 x3_1).f2)) || (!(bt207.2.2.2.1 == ((rd_T33 l0_1 x3_1).f3)))))) = true then (cellarlaw8_BytesBack.j4 k4 x3_1 x4_3 x5_4 t188 t193 true l0_0 l0_1 l0_2 false x5_4) else (if (t188.length : Int) = (t193.length : Int) then (cellarlaw8_BytesBack.j4 k4 x3_1 x4_3 x5_4 t188 t193 ((t188.length : Int) == 0) l0_0 l0_1 l0_2 false x5_4) else (cellarlaw8_BytesBack.j4 k4 x3_1 x4_3 x5_4 t188 t193 true l0_0 l0_1 l0_2 false x5_4)))) else (cellarlaw8_BytesBack.j4 k4 x3_1 x4_3 x5_4 t188 t193 true l0_0 l0_1 l0_2 false x5_4)) else (cellarlaw8_BytesBack.j4 k4 x3_1 x4_3 x5_4 t188 t193 true l0_0 l0_1 l0_2 false x5_4)) else (cellarlaw8_BytesBack.j4 k4 x3_1 x4_3 x5_4 t188 t193 true l0_0 l0_1 l0_2 false x5_4))) else (cellarlaw8_BytesBack.j4 k4 x3_1 x4_3 x5_4 t188 t193 true l0_0 l0_1 l0_2 false x5_4))))) else (cellarlaw8_BytesBack.j7 k4 x3_1 x4_3 x5_4 l0_0 l0_1 l0_2))) else (some false)))) = some r := H
 have A21 := Aside0.mk A210
 clear A210
 replace H := Option.bind_eq_some_iff.mp H
 obtain ⟨t197, A220, H⟩ := H
 replace H : ((cellarlaw8_num.f t196).bind fun t198 => (if t197 = t198 then ((cellarlaw8_num.f t191).bind fun t199 => (if t199 = 0 then ((bytes_Get.f k4 false x5_4 x4_3 t188).bind fun bt200 => ((bytes_Get.f k4 true x5_4 x4_3 t193).bind fun bt207 => ((cellarlaw8_num.f bt200.2.2.2.2.2).bind fun t214 => (if t214 = 0 then ((cellarlaw8_num.f bt207.2.2.2.2.2).bind fun t215 => (if t215 = 0 then (if bt200.2.2.2.2.1 = 0 then (if bt207.2.2.2.2.1 = 0 then (if (!(bt200.1 == ((rd_T33 l0_1 x3_1).f0)) || (!(bt200.2.1 == ((rd_T33 l0_1 x3_1).f1)) || (!(bt200.2.2.1 == ((rd_T33 l0_1 x3_1).f2)) || (!(bt200.2.2.2.1 == ((rd_T33 l0_1 x3_1).f3)))))) = true then (cellarlaw8_BytesBack.j4 k4 x3_1 x4_3 x5_4 t188 t193 true l0_0 l0_1 l0_2 false x5_4) else (if (!(bt207.1 == ((rd_T33 l0_1 x3_1).f0)) || (!(bt207.2.1 == ((rd_T33 l0_1 x3_1).f1)) || (!(bt207.2.2.1 == ((rd_T33 l0_1 x3_1).f2)) || (!(bt207.2.2.2.1 == ((rd_T33 l0_1 x3_1).f3)))))) = true then (cellarlaw8_BytesBack.j4 k4 x3_1 x4_3 x5_4 t188 t193 true l0_0 l0_1 l0_2 false x5_4) else (if (t188.length : Int) = (t193.length : Int) then (cellarlaw8_BytesBack.j4 k4 x3_1 x4_3 x5_4 t188 t193 ((t188.length : Int) == 0) l0_0 l0_1 l0_2 false x5_4) else (cellarlaw8_BytesBack.j4 k4 x3_1 x4_3 x5_4 t188 t193 true l0_0 l0_1 l0_2 false x5_4)))) else (cellarlaw8_BytesBack.j4 k4 x3_1 x4_3 x5_4 t188 t193 true l0_0 l0_1 l0_2 false x5_4)) else (cellarlaw8_BytesBack.j4 k4 x3_1 x4_3 x5_4 t188 t193 true l0_0 l0_1 l0_2 false x5_4)) else (cellarlaw8_BytesBack.j4 k4 x3_1 x4_3 x5_4 t188 t193 true l0_0 l0_1 l0_2 false x5_4))) else (cellarlaw8_BytesBack.j4 k4 x3_1 x4_3 x5_4 t188 t193 true l0_0 l0_1 l0_2 false x5_4))))) else (cellarlaw8_BytesBack.j7 k4 x3_1 x4_3 x5_4 l0_0 l0_1 l0_2))) else (some false))) = some r := H
 have A22 := Aside0.mk A220
 clear A220
 replace H := Option.bind_eq_some_iff.mp H
 obtain ⟨t198, A230, H⟩ := H
 replace H : (if t197 = t198 then ((cellarlaw8_num.f t191).bind fun t199 => (if t199 = 0 then ((bytes_Get.f k4 false x5_4 x4_3 t188).bind fun bt200 => ((bytes_Get.f k4 true x5_4 x4_3 t193).bind fun bt207 => ((cellarlaw8_num.f bt200.2.2.2.2.2).bind fun t214 => (if t214 = 0 then ((cellarlaw8_num.f bt207.2.2.2.2.2).bind fun t215 => (if t215 = 0 then (if bt200.2.2.2.2.1 = 0 then (if bt207.2.2.2.2.1 = 0 then (if (!(bt200.1 == ((rd_T33 l0_1 x3_1).f0)) || (!(bt200.2.1 == ((rd_T33 l0_1 x3_1).f1)) || (!(bt200.2.2.1 == ((rd_T33 l0_1 x3_1).f2)) || (!(bt200.2.2.2.1 == ((rd_T33 l0_1 x3_1).f3)))))) = true then (cellarlaw8_BytesBack.j4 k4 x3_1 x4_3 x5_4 t188 t193 true l0_0 l0_1 l0_2 false x5_4) else (if (!(bt207.1 == ((rd_T33 l0_1 x3_1).f0)) || (!(bt207.2.1 == ((rd_T33 l0_1 x3_1).f1)) || (!(bt207.2.2.1 == ((rd_T33 l0_1 x3_1).f2)) || (!(bt207.2.2.2.1 == ((rd_T33 l0_1 x3_1).f3)))))) = true then (cellarlaw8_BytesBack.j4 k4 x3_1 x4_3 x5_4 t188 t193 true l0_0 l0_1 l0_2 false x5_4) else (if (t188.length : Int) = (t193.length : Int) then (cellarlaw8_BytesBack.j4 k4 x3_1 x4_3 x5_4 t188 t193 ((t188.length : Int) == 0) l0_0 l0_1 l0_2 false x5_4) else (cellarlaw8_BytesBack.j4 k4 x3_1 x4_3 x5_4 t188 t193 true l0_0 l0_1 l0_2 false x5_4)))) else (cellarlaw8_BytesBack.j4 k4 x3_1 x4_3 x5_4 t188 t193 true l0_0 l0_1 l0_2 false x5_4)) else (cellarlaw8_BytesBack.j4 k4 x3_1 x4_3 x5_4 t188 t193 true l0_0 l0_1 l0_2 false x5_4)) else (cellarlaw8_BytesBack.j4 k4 x3_1 x4_3 x5_4 t188 t193 true l0_0 l0_1 l0_2 false x5_4))) else (cellarlaw8_BytesBack.j4 k4 x3_1 x4_3 x5_4 t188 t193 true l0_0 l0_1 l0_2 false x5_4))))) else (cellarlaw8_BytesBack.j7 k4 x3_1 x4_3 x5_4 l0_0 l0_1 l0_2))) else (some false)) = some r := H
 have A23 := Aside0.mk A230
 clear A230
 by_cases c24 : t197 = t198
 rotate_left
 ·rw [if_neg c24] at H
  have c24b0 : (t197 == t198) = false := beq_eq_false_iff_ne.mpr c24
  have c24b1 : (t197 != t198) = true := bne_iff_ne.mpr c24
  obtain rfl := Option.some.inj H
  try go_wp2_with (first | ((with_reducible refine gate_dst (N := 6) rfl ?_); (try (refine gate_guard (by rfl) ?_; dsimp only)); refine zbox (N := 6) (cs := #[.bool false, .int .i64 0]) (t := 38) ?_; intro gb185 hg w141 hbox hb; have n0_ := Aside0.mk (zbb BK183.out hb); have n1_ := Aside0.mk (below_step (zw1 HB.out GE183.out) hb); have BK185 := Aside0.mk (hbox); have GW185 := Aside0.mk (zg hg (below_size (zw1 HB.out GE183.out))); have GE185 := GW185; have NB183_185 := Aside0.mk (zlt hg BK183.out); have NB185_183 := Aside0.mk (zgt hg BK183.out); clear BK183 HB; have BK183 := n0_; have HB := n1_; clear n0_ n1_; clear hb hbox hg) | ((with_reducible refine gate_dst (N := 7) rfl ?_); (try (refine gate_guard (by rfl) ?_; dsimp only)); refine zbox (N := 7) (cs := #[.bool false, .int .i64 0]) (t := 38) ?_; intro gb186 hg w142 hbox hb; have n0_ := Aside0.mk (zbb BK183.out hb); have n1_ := Aside0.mk (zbb BK185.out hb); have n2_ := Aside0.mk (below_step (zw2 HB.out GE183.out GE185.out) hb); have BK186 := Aside0.mk (hbox); have GW186 := Aside0.mk (zg hg (below_size (zw2 HB.out GE183.out GE185.out))); have GE186 := GW186; have NB183_186 := Aside0.mk (zlt hg BK183.out); have NB186_183 := Aside0.mk (zgt hg BK183.out); have NB185_186 := Aside0.mk (zlt hg BK185.out); have NB186_185 := Aside0.mk (zgt hg BK185.out); clear BK183 BK185 HB; have BK183 := n0_; have BK185 := n1_; have HB := n2_; clear n0_ n1_ n2_; clear hb hbox hg; have hnb143 := NB185_183.out; have hnc143 := NB183_185.out; have hnb144 := NB185_186.out; have hnc144 := NB186_185.out; have hcz145_0 := zc BK185.out 0; have hcz145_1 := zc BK185.out 1; have hfz145_0 := blk_frozen BK185.out 0; have hfz145_1 := blk_frozen BK185.out 1; have hnb146 := NB186_183.out; have hnc146 := NB183_186.out; have hcz147_0 := zc BK186.out 0; have hcz147_1 := zc BK186.out 1; have hfz147_0 := blk_frozen BK186.out 0; have hfz147_1 := blk_frozen BK186.out 1))
  have n0_ : Aside0 (((((w142.setCell ⟨gb185, 0, none⟩ (.bool false)).setCell ⟨gb185, 1, none⟩ (.int .i64 x5_4)).setCell ⟨gb186, 0, none⟩ (.bool true)).setCell ⟨gb186, 1, none⟩ (.int .i64 x5_4)).heap[gb183]? = some (.cells #[.slice A0_0 l0_0.length c0_0, .slice A0_1 l0_1.length c0_1, .slice A0_2 l0_2.length c0_2] 26 (0, 0))) := ⟨zf2 BK183.out NB183_186.out NB183_185.out⟩
  have n1_ : Aside0 (((((w142.setCell ⟨gb185, 0, none⟩ (.bool false)).setCell ⟨gb185, 1, none⟩ (.int .i64 x5_4)).setCell ⟨gb186, 0, none⟩ (.bool true)).setCell ⟨gb186, 1, none⟩ (.int .i64 x5_4)).heap[gb185]? = some (.cells #[.bool false, .int .i64 x5_4] 38 (0, 0))) := ⟨by (with_reducible repeat (first | refine blk_drewN ?_ _ | refine blk_drew ?_ | refine blk_alloc ?_ _)); refine blk_far ?_ NB185_186.out _; (with_reducible repeat (first | refine blk_drewN ?_ _ | refine blk_drew ?_ | refine blk_alloc ?_ _)); refine blk_far ?_ NB185_186.out _; (with_reducible repeat (first | refine blk_drewN ?_ _ | refine blk_drew ?_ | refine blk_alloc ?_ _)); refine blk_put (cs := #[.bool false, .int .i64 0]) ?_ 1 _ rfl; (with_reducible repeat (first | refine blk_drewN ?_ _ | refine blk_drew ?_ | refine blk_alloc ?_ _)); refine blk_put (cs := #[.bool false, .int .i64 0]) ?_ 0 _ rfl; (with_reducible repeat (first | refine blk_drewN ?_ _ | refine blk_drew ?_ | refine blk_alloc ?_ _)); exact BK185.out⟩
  have n2_ : Aside0 (((((w142.setCell ⟨gb185, 0, none⟩ (.bool false)).setCell ⟨gb185, 1, none⟩ (.int .i64 x5_4)).setCell ⟨gb186, 0, none⟩ (.bool true)).setCell ⟨gb186, 1, none⟩ (.int .i64 x5_4)).heap[gb186]? = some (.cells #[.bool true, .int .i64 x5_4] 38 (0, 0))) := ⟨by (with_reducible repeat (first | refine blk_drewN ?_ _ | refine blk_drew ?_ | refine blk_alloc ?_ _)); refine blk_put (cs := #[.bool true, .int .i64 0]) ?_ 1 _ rfl; (with_reducible repeat (first | refine blk_drewN ?_ _ | refine blk_drew ?_ | refine blk_alloc ?_ _)); refine blk_put (cs := #[.bool false, .int .i64 0]) ?_ 0 _ rfl; (with_reducible repeat (first | refine blk_drewN ?_ _ | refine blk_drew ?_ | refine blk_alloc ?_ _)); refine blk_far ?_ NB186_185.out _; (with_reducible repeat (first | refine blk_drewN ?_ _ | refine blk_drew ?_ | refine blk_alloc ?_ _)); refine blk_far ?_ NB186_185.out _; (with_reducible repeat (first | refine blk_drewN ?_ _ | refine blk_drew ?_ | refine blk_alloc ?_ _)); exact BK186.out⟩
  have n3_ : Aside0 (Below w.heap.size w ((((w142.setCell ⟨gb185, 0, none⟩ (.bool false)).setCell ⟨gb185, 1, none⟩ (.int .i64 x5_4)).setCell ⟨gb186, 0, none⟩ (.bool true)).setCell ⟨gb186, 1, none⟩ (.int .i64 x5_4))) := ⟨zw3 HB.out GE183.out GE185.out GE186.out⟩
  (try clear BK183)
  (try clear BK185)
  (try clear BK186)
  (try clear HB)
  generalize ((((w142.setCell ⟨gb185, 0, none⟩ (.bool false)).setCell ⟨gb185, 1, none⟩ (.int .i64 x5_4)).setCell ⟨gb186, 0, none⟩ (.bool true)).setCell ⟨gb186, 1, none⟩ (.int .i64 x5_4)) = w148 at n0_ n1_ n2_ n3_ ⊢
  have BK183 := n0_
  have BK185 := n1_
  have BK186 := n2_
  have HB := n3_
  clear n0_ n1_ n2_ n3_
  have n0_ := Aside0.mk (blk_drew BK183.out)
  have n1_ := Aside0.mk (blk_drew BK185.out)
  have n2_ := Aside0.mk (blk_drew BK186.out)
  have n3_ := Aside0.mk (below_drew1 HB.out)
  clear BK183
  clear BK185
  clear BK186
  clear HB
  have BK183 := n0_
  have BK185 := n1_
  have BK186 := n2_
  have HB := n3_
  clear n0_ n1_ n2_ n3_
  have p187 : 0 ≤ (x3_1 : Int) := zdec
  have q187 : x3_1 < (l0_1.length : Int) := zdec
  obtain ⟨ad187, e187, hx187_0, hx187_1, hx187_2, hx187_3⟩ := at_T33 HR0_1.out x3_1 p187 q187
  have hw187_3 := hx187_3
  have hw187_2 := hx187_2
  have hw187_1 := hx187_1
  have hw187_0 := hx187_0
  cases e187
  replace hx187_0 := zh HB.out hx187_0
  replace hx187_1 := zh HB.out hx187_1
  replace hx187_2 := zh HB.out hx187_2
  replace hx187_3 := zh HB.out hx187_3
  replace p187 := eq_true p187
  replace q187 := eq_true q187
  refine start_ (n := 13) (S := fun w' => w'.cell? ⟨gb185, 0, none⟩ = some (.bool false) ∧ w'.cell? ⟨gb185, 1, none⟩ = some (.int .i64 x5_4) ∧ w'.cell? ⟨gb183, 0, none⟩ = some (.slice A0_0 l0_0.length c0_0) ∧ w'.cell? ⟨gb183, 1, none⟩ = some (.slice (some ad187) l0_1.length c0_1) ∧ w'.cell? ⟨gb183, 2, none⟩ = some (.slice A0_2 l0_2.length c0_2) ∧ w'.cell? (ad187.add ((x3_1).toNat * 4)) = some (.bool ((rd_T33 l0_1 x3_1).f0)) ∧ w'.cell? ⟨(ad187.add ((x3_1).toNat * 4)).block, (ad187.add ((x3_1).toNat * 4)).off + 1, none⟩ = some (.int .i64 ((rd_T33 l0_1 x3_1).f1)) ∧ w'.cell? ⟨(ad187.add ((x3_1).toNat * 4)).block, (ad187.add ((x3_1).toNat * 4)).off + 2, none⟩ = some (.int .i64 ((rd_T33 l0_1 x3_1).f2)) ∧ w'.cell? ⟨(ad187.add ((x3_1).toNat * 4)).block, (ad187.add ((x3_1).toNat * 4)).off + 3, none⟩ = some (.int .i64 ((rd_T33 l0_1 x3_1).f3))) (ds := []) cellarlaw8_BytesBack.b0 (by kernel_rfl) rfl rfl ⟨(blk_cell BK185.out 0).trans rfl, (blk_cell BK185.out 1).trans rfl, (blk_cell BK183.out 0).trans rfl, (blk_cell BK183.out 1).trans rfl, (blk_cell BK183.out 2).trans rfl, ((HB.out.cell (World.block_lt_of_cell? w _ hw187_0)).trans hw187_0), ((HB.out.cell (World.block_lt_of_cell? w _ hw187_1)).trans hw187_1), ((HB.out.cell (World.block_lt_of_cell? w _ hw187_2)).trans hw187_2), ((HB.out.cell (World.block_lt_of_cell? w _ hw187_3)).trans hw187_3)⟩ (fun hHeld => ?_); refine with_tabW cellarlaw8_BytesBack.tab13 cellarlaw8_BytesBack.bits13 (fun HT_ HW_ => ?_)
  generalize w148.drew = w149 at BK183 BK185 BK186 HB hx187_0 hx187_1 hx187_2 hx187_3 hHeld ⊢
  refine zq 1 (some 46) HT_ ?_; refine zq 2 (some 47) HT_ ?_; refine zq 4 (some 49) HT_ ?_; refine zt 0 (some 45) HT_ HW_ hHeld ?_; refine zt 3 (some 48) HT_ HW_ hHeld ?_; refine zq 5 (some 50) HT_ ?_; refine zt 6 (some 51) HT_ HW_ hHeld ?_
  refine one_ (i := 7) (N := some 52) cellarlaw8_BytesBack.b8 rfl rfl (one_of HT_.out (by kernel_rfl)) (by decide) (fun K hK => ?_)
  refine goes_ Try.func26 (by kernel_rfl) rfl #[.agg #[.bool false, .int .i64 x5_4], .int .i64 x4_3, .agg #[.bool ((rd_T33 l0_1 x3_1).f0), .int .i64 ((rd_T33 l0_1 x3_1).f1), .int .i64 ((rd_T33 l0_1 x3_1).f2), .int .i64 ((rd_T33 l0_1 x3_1).f3)]] (by rfl) rfl rfl (by (try simp only [List.map_toArray, List.map_cons, List.map_nil]); first | done | rfl | (simp only [List.length_drop, List.length_take]; rfl)) ?_
  with_reducible refine (bytes_Put.calls k4 false x5_4 x4_3 ((rd_T33 l0_1 x3_1).f0) ((rd_T33 l0_1 x3_1).f1) ((rd_T33 l0_1 x3_1).f2) ((rd_T33 l0_1 x3_1).f3) t188 t191 _ A20.out).mono ?_
  rintro e w150 ⟨v189, rfl, ho0, hb⟩
  refine ⟨_, rfl, ?_⟩
  have n0_ := Aside0.mk (Kd.R_lower ho0 (below_size (zw3 HB.out GE183.out GE185.out GE186.out)))
  have n1_ := Aside0.mk (zbb BK183.out hb)
  have n2_ := Aside0.mk (zbb BK185.out hb)
  have n3_ := Aside0.mk (zbb BK186.out hb)
  have n4_ := Aside0.mk (below_step (zw3 HB.out GE183.out GE185.out GE186.out) hb)
  clear BK183
  clear BK185
  clear BK186
  clear HB
  have HO190 := n0_
  have BK183 := n1_
  have BK185 := n2_
  have BK186 := n3_
  have HB := n4_
  clear n0_ n1_ n2_ n3_ n4_
  (try clear hb)
  (try clear hb2)
  (try clear hk)
  (try clear hi)
  (try clear ho0)
  refine hK.out _ _ ⟨(blk_cell BK185.out 0).trans rfl, (blk_cell BK185.out 1).trans rfl, (blk_cell BK183.out 0).trans rfl, (blk_cell BK183.out 1).trans rfl, (blk_cell BK183.out 2).trans rfl, ((HB.out.cell (World.block_lt_of_cell? w _ hw187_0)).trans hw187_0), ((HB.out.cell (World.block_lt_of_cell? w _ hw187_1)).trans hw187_1), ((HB.out.cell (World.block_lt_of_cell? w _ hw187_2)).trans hw187_2), ((HB.out.cell (World.block_lt_of_cell? w _ hw187_3)).trans hw187_3)⟩ (fun hHeld => ?_)
  clear hK K
  refine norm_ (a' := ?_) ?_ ?_
  rotate_left
  ·show Act.put _ (some 52) _ = _
   simp only [Act.put, List.setIfInBounds_toArray, List.set_cons_zero, List.set_cons_succ, i64_w, i32_w]
   rfl
  refine zq 8 (some 44) HT_ ?_; refine zq 9 (some 53) HT_ ?_; refine zq 10 (some 54) HT_ ?_; refine zq 11 (some 8) HT_ ?_; refine zq 12 (some 9) HT_ ?_
  refine done_ (done_of HT_.out (by kernel_rfl)) ?_
  try go_wp2
  have n0_ := Aside0.mk (Kd.R_drew HO190.out)
  have n1_ := Aside0.mk (blk_drew BK183.out)
  have n2_ := Aside0.mk (blk_drew BK185.out)
  have n3_ := Aside0.mk (blk_drew BK186.out)
  have n4_ := Aside0.mk (below_drew1 HB.out)
  clear HO190
  clear BK183
  clear BK185
  clear BK186
  clear HB
  have HO190 := n0_
  have BK183 := n1_
  have BK185 := n2_
  have BK186 := n3_
  have HB := n4_
  clear n0_ n1_ n2_ n3_ n4_
  have p192 : 0 ≤ (x3_1 : Int) := zdec
  have q192 : x3_1 < (l0_1.length : Int) := zdec
  obtain ⟨ad192, e192, hx192_0, hx192_1, hx192_2, hx192_3⟩ := at_T33 HR0_1.out x3_1 p192 q192
  have hw192_3 := hx192_3
  have hw192_2 := hx192_2
  have hw192_1 := hx192_1
  have hw192_0 := hx192_0
  obtain rfl : ad187 = ad192 := (by injection e192)
  replace hx192_0 := zh HB.out hx192_0
  replace hx192_1 := zh HB.out hx192_1
  replace hx192_2 := zh HB.out hx192_2
  replace hx192_3 := zh HB.out hx192_3
  replace p192 := eq_true p192
  replace q192 := eq_true q192
  refine start_ (n := 13) (S := fun w' => w'.cell? ⟨gb186, 0, none⟩ = some (.bool true) ∧ w'.cell? ⟨gb186, 1, none⟩ = some (.int .i64 x5_4) ∧ w'.cell? ⟨gb183, 0, none⟩ = some (.slice A0_0 l0_0.length c0_0) ∧ w'.cell? ⟨gb183, 1, none⟩ = some (.slice (some ad187) l0_1.length c0_1) ∧ w'.cell? ⟨gb183, 2, none⟩ = some (.slice A0_2 l0_2.length c0_2) ∧ w'.cell? (ad187.add ((x3_1).toNat * 4)) = some (.bool ((rd_T33 l0_1 x3_1).f0)) ∧ w'.cell? ⟨(ad187.add ((x3_1).toNat * 4)).block, (ad187.add ((x3_1).toNat * 4)).off + 1, none⟩ = some (.int .i64 ((rd_T33 l0_1 x3_1).f1)) ∧ w'.cell? ⟨(ad187.add ((x3_1).toNat * 4)).block, (ad187.add ((x3_1).toNat * 4)).off + 2, none⟩ = some (.int .i64 ((rd_T33 l0_1 x3_1).f2)) ∧ w'.cell? ⟨(ad187.add ((x3_1).toNat * 4)).block, (ad187.add ((x3_1).toNat * 4)).off + 3, none⟩ = some (.int .i64 ((rd_T33 l0_1 x3_1).f3))) (ds := []) cellarlaw8_BytesBack.b0 (by kernel_rfl) rfl rfl ⟨(blk_cell BK186.out 0).trans rfl, (blk_cell BK186.out 1).trans rfl, (blk_cell BK183.out 0).trans rfl, (blk_cell BK183.out 1).trans rfl, (blk_cell BK183.out 2).trans rfl, ((HB.out.cell (World.block_lt_of_cell? w _ hw192_0)).trans hw192_0), ((HB.out.cell (World.block_lt_of_cell? w _ hw192_1)).trans hw192_1), ((HB.out.cell (World.block_lt_of_cell? w _ hw192_2)).trans hw192_2), ((HB.out.cell (World.block_lt_of_cell? w _ hw192_3)).trans hw192_3)⟩ (fun hHeld => ?_); refine with_tabW cellarlaw8_BytesBack.tab14 cellarlaw8_BytesBack.bits14 (fun HT_ HW_ => ?_)
  generalize w150.drew = w151 at HO190 BK183 BK185 BK186 HB hx192_0 hx192_1 hx192_2 hx192_3 hHeld ⊢
  refine zq 1 (some 57) HT_ ?_; refine zq 2 (some 58) HT_ ?_; refine zq 4 (some 60) HT_ ?_; refine zt 0 (some 56) HT_ HW_ hHeld ?_; refine zt 3 (some 59) HT_ HW_ hHeld ?_; refine zq 5 (some 61) HT_ ?_; refine zt 6 (some 62) HT_ HW_ hHeld ?_
  refine one_ (i := 7) (N := some 63) cellarlaw8_BytesBack.b8 rfl rfl (one_of HT_.out (by kernel_rfl)) (by decide) (fun K hK => ?_)
  refine goes_ Try.func26 (by kernel_rfl) rfl #[.agg #[.bool true, .int .i64 x5_4], .int .i64 x4_3, .agg #[.bool ((rd_T33 l0_1 x3_1).f0), .int .i64 ((rd_T33 l0_1 x3_1).f1), .int .i64 ((rd_T33 l0_1 x3_1).f2), .int .i64 ((rd_T33 l0_1 x3_1).f3)]] (by rfl) rfl rfl (by (try simp only [List.map_toArray, List.map_cons, List.map_nil]); first | done | rfl | (simp only [List.length_drop, List.length_take]; rfl)) ?_
  with_reducible refine (bytes_Put.calls k4 true x5_4 x4_3 ((rd_T33 l0_1 x3_1).f0) ((rd_T33 l0_1 x3_1).f1) ((rd_T33 l0_1 x3_1).f2) ((rd_T33 l0_1 x3_1).f3) t193 t196 _ A21.out).mono ?_
  rintro e w152 ⟨v194, rfl, ho0, hb⟩
  refine ⟨_, rfl, ?_⟩
  have n0_ := Aside0.mk (Kd.R_elder' (by (with_reducible repeat (first | apply Kd.R_alloc | apply Kd.R_drewN | apply Kd.R_drew)); exact HO190.out) (Kd.R_base ho0) hb)
  have n1_ := Aside0.mk (Kd.R_lower (Kd.R_new' ho0 (Kd.R_lt (by (with_reducible repeat (first | apply Kd.R_alloc | apply Kd.R_drewN | apply Kd.R_drew)); exact HO190.out))) (below_size (zw3 HB.out GE183.out GE185.out GE186.out)))
  have n2_ := Aside0.mk (zbb BK183.out hb)
  have n3_ := Aside0.mk (zbb BK185.out hb)
  have n4_ := Aside0.mk (zbb BK186.out hb)
  have n5_ := Aside0.mk (below_step (zw3 HB.out GE183.out GE185.out GE186.out) hb)
  clear HO190
  clear BK183
  clear BK185
  clear BK186
  clear HB
  have HO190 := n0_
  have HO195 := n1_
  have BK183 := n2_
  have BK185 := n3_
  have BK186 := n4_
  have HB := n5_
  clear n0_ n1_ n2_ n3_ n4_ n5_
  (try clear hb)
  (try clear hb2)
  (try clear hk)
  (try clear hi)
  (try clear ho0)
  refine hK.out _ _ ⟨(blk_cell BK186.out 0).trans rfl, (blk_cell BK186.out 1).trans rfl, (blk_cell BK183.out 0).trans rfl, (blk_cell BK183.out 1).trans rfl, (blk_cell BK183.out 2).trans rfl, ((HB.out.cell (World.block_lt_of_cell? w _ hw192_0)).trans hw192_0), ((HB.out.cell (World.block_lt_of_cell? w _ hw192_1)).trans hw192_1), ((HB.out.cell (World.block_lt_of_cell? w _ hw192_2)).trans hw192_2), ((HB.out.cell (World.block_lt_of_cell? w _ hw192_3)).trans hw192_3)⟩ (fun hHeld => ?_)
  clear hK K
  refine norm_ (a' := ?_) ?_ ?_
  rotate_left
  ·show Act.put _ (some 63) _ = _
   simp only [Act.put, List.setIfInBounds_toArray, List.set_cons_zero, List.set_cons_succ, i64_w, i32_w]
   rfl
  refine zq 8 (some 55) HT_ ?_; refine zq 9 (some 64) HT_ ?_; refine zq 10 (some 65) HT_ ?_; refine zq 11 (some 10) HT_ ?_; refine zq 12 (some 11) HT_ ?_
  refine done_ (done_of HT_.out (by kernel_rfl)) ?_
  try go_wp2_with (first | ((with_reducible refine gate_callee (f := 23) rfl ?_); refine zgo (some 67) Try.func23 #[.int .i64 t191] ?_; (with_reducible refine (cellarlaw8_num.calls t191 t197 _ A22.out).mono ?_); rintro e w' ⟨rfl, ⟨nd, rfl⟩⟩; refine ⟨_, rfl, ?_⟩) | ((with_reducible refine gate_callee (f := 23) rfl ?_); refine zgo (some 69) Try.func23 #[.int .i64 t196] ?_; (with_reducible refine (cellarlaw8_num.calls t196 t198 _ A23.out).mono ?_); rintro e w' ⟨rfl, ⟨nd, rfl⟩⟩; refine ⟨_, rfl, ?_⟩))
  go_ret
  exact ⟨ze, zw3 HB.out GE183.out GE185.out GE186.out⟩
 rw [if_pos c24] at H
 have c24b0 : (t197 == t198) = true := beq_iff_eq.mpr c24
 have c24b1 : (t197 != t198) = false := bne_eq_false_iff_eq.mpr c24
 clear c24
 replace H := Option.bind_eq_some_iff.mp H
 obtain ⟨t199, A250, H⟩ := H
 replace H : (if t199 = 0 then ((bytes_Get.f k4 false x5_4 x4_3 t188).bind fun bt200 => ((bytes_Get.f k4 true x5_4 x4_3 t193).bind fun bt207 => ((cellarlaw8_num.f bt200.2.2.2.2.2).bind fun t214 => (if t214 = 0 then ((cellarlaw8_num.f bt207.2.2.2.2.2).bind fun t215 => (if t215 = 0 then (if bt200.2.2.2.2.1 = 0 then (if bt207.2.2.2.2.1 = 0 then (if (!(bt200.1 == ((rd_T33 l0_1 x3_1).f0)) || (!(bt200.2.1 == ((rd_T33 l0_1 x3_1).f1)) || (!(bt200.2.2.1 == ((rd_T33 l0_1 x3_1).f2)) || (!(bt200.2.2.2.1 == ((rd_T33 l0_1 x3_1).f3)))))) = true then (cellarlaw8_BytesBack.j4 k4 x3_1 x4_3 x5_4 t188 t193 true l0_0 l0_1 l0_2 false x5_4) else (if (!(bt207.1 == ((rd_T33 l0_1 x3_1).f0)) || (!(bt207.2.1 == ((rd_T33 l0_1 x3_1).f1)) || (!(bt207.2.2.1 == ((rd_T33 l0_1 x3_1).f2)) || (!(bt207.2.2.2.1 == ((rd_T33 l0_1 x3_1).f3)))))) = true then (cellarlaw8_BytesBack.j4 k4 x3_1 x4_3 x5_4 t188 t193 true l0_0 l0_1 l0_2 false x5_4) else (if (t188.length : Int) = (t193.length : Int) then (cellarlaw8_BytesBack.j4 k4 x3_1 x4_3 x5_4 t188 t193 ((t188.length : Int) == 0) l0_0 l0_1 l0_2 false x5_4) else (cellarlaw8_BytesBack.j4 k4 x3_1 x4_3 x5_4 t188 t193 true l0_0 l0_1 l0_2 false x5_4)))) else (cellarlaw8_BytesBack.j4 k4 x3_1 x4_3 x5_4 t188 t193 true l0_0 l0_1 l0_2 false x5_4)) else (cellarlaw8_BytesBack.j4 k4 x3_1 x4_3 x5_4 t188 t193 true l0_0 l0_1 l0_2 false x5_4)) else (cellarlaw8_BytesBack.j4 k4 x3_1 x4_3 x5_4 t188 t193 true l0_0 l0_1 l0_2 false x5_4))) else (cellarlaw8_BytesBack.j4 k4 x3_1 x4_3 x5_4 t188 t193 true l0_0 l0_1 l0_2 false x5_4))))) else (cellarlaw8_BytesBack.j7 k4 x3_1 x4_3 x5_4 l0_0 l0_1 l0_2)) = some r := H
 have A25 := Aside0.mk A250
 clear A250
 by_cases c26 : t199 = 0
 rotate_left
 ·rw [if_neg c26] at H
  have c26b0 : (t199 == 0) = false := beq_eq_false_iff_ne.mpr c26
  have c26b1 : (t199 != 0) = true := bne_iff_ne.mpr c26
  have H' := Aside0.mk H
  clear H
  try go_wp2_with (first | ((with_reducible refine gate_dst (N := 6) rfl ?_); (try (refine gate_guard (by rfl) ?_; dsimp only)); refine zbox (N := 6) (cs := #[.bool false, .int .i64 0]) (t := 38) ?_; intro gb185 hg w129 hbox hb; have n0_ := Aside0.mk (zbb BK183.out hb); have n1_ := Aside0.mk (below_step (zw1 HB.out GE183.out) hb); have BK185 := Aside0.mk (hbox); have GW185 := Aside0.mk (zg hg (below_size (zw1 HB.out GE183.out))); have GE185 := GW185; have NB183_185 := Aside0.mk (zlt hg BK183.out); have NB185_183 := Aside0.mk (zgt hg BK183.out); clear BK183 HB; have BK183 := n0_; have HB := n1_; clear n0_ n1_; clear hb hbox hg) | ((with_reducible refine gate_dst (N := 7) rfl ?_); (try (refine gate_guard (by rfl) ?_; dsimp only)); refine zbox (N := 7) (cs := #[.bool false, .int .i64 0]) (t := 38) ?_; intro gb186 hg w130 hbox hb; have n0_ := Aside0.mk (zbb BK183.out hb); have n1_ := Aside0.mk (zbb BK185.out hb); have n2_ := Aside0.mk (below_step (zw2 HB.out GE183.out GE185.out) hb); have BK186 := Aside0.mk (hbox); have GW186 := Aside0.mk (zg hg (below_size (zw2 HB.out GE183.out GE185.out))); have GE186 := GW186; have NB183_186 := Aside0.mk (zlt hg BK183.out); have NB186_183 := Aside0.mk (zgt hg BK183.out); have NB185_186 := Aside0.mk (zlt hg BK185.out); have NB186_185 := Aside0.mk (zgt hg BK185.out); clear BK183 BK185 HB; have BK183 := n0_; have BK185 := n1_; have HB := n2_; clear n0_ n1_ n2_; clear hb hbox hg; have hnb131 := NB185_183.out; have hnc131 := NB183_185.out; have hnb132 := NB185_186.out; have hnc132 := NB186_185.out; have hcz133_0 := zc BK185.out 0; have hcz133_1 := zc BK185.out 1; have hfz133_0 := blk_frozen BK185.out 0; have hfz133_1 := blk_frozen BK185.out 1; have hnb134 := NB186_183.out; have hnc134 := NB183_186.out; have hcz135_0 := zc BK186.out 0; have hcz135_1 := zc BK186.out 1; have hfz135_0 := blk_frozen BK186.out 0; have hfz135_1 := blk_frozen BK186.out 1))
  have n0_ : Aside0 (((((w130.setCell ⟨gb185, 0, none⟩ (.bool false)).setCell ⟨gb185, 1, none⟩ (.int .i64 x5_4)).setCell ⟨gb186, 0, none⟩ (.bool true)).setCell ⟨gb186, 1, none⟩ (.int .i64 x5_4)).heap[gb183]? = some (.cells #[.slice A0_0 l0_0.length c0_0, .slice A0_1 l0_1.length c0_1, .slice A0_2 l0_2.length c0_2] 26 (0, 0))) := ⟨zf2 BK183.out NB183_186.out NB183_185.out⟩
  have n1_ : Aside0 (((((w130.setCell ⟨gb185, 0, none⟩ (.bool false)).setCell ⟨gb185, 1, none⟩ (.int .i64 x5_4)).setCell ⟨gb186, 0, none⟩ (.bool true)).setCell ⟨gb186, 1, none⟩ (.int .i64 x5_4)).heap[gb185]? = some (.cells #[.bool false, .int .i64 x5_4] 38 (0, 0))) := ⟨by (with_reducible repeat (first | refine blk_drewN ?_ _ | refine blk_drew ?_ | refine blk_alloc ?_ _)); refine blk_far ?_ NB185_186.out _; (with_reducible repeat (first | refine blk_drewN ?_ _ | refine blk_drew ?_ | refine blk_alloc ?_ _)); refine blk_far ?_ NB185_186.out _; (with_reducible repeat (first | refine blk_drewN ?_ _ | refine blk_drew ?_ | refine blk_alloc ?_ _)); refine blk_put (cs := #[.bool false, .int .i64 0]) ?_ 1 _ rfl; (with_reducible repeat (first | refine blk_drewN ?_ _ | refine blk_drew ?_ | refine blk_alloc ?_ _)); refine blk_put (cs := #[.bool false, .int .i64 0]) ?_ 0 _ rfl; (with_reducible repeat (first | refine blk_drewN ?_ _ | refine blk_drew ?_ | refine blk_alloc ?_ _)); exact BK185.out⟩
  have n2_ : Aside0 (((((w130.setCell ⟨gb185, 0, none⟩ (.bool false)).setCell ⟨gb185, 1, none⟩ (.int .i64 x5_4)).setCell ⟨gb186, 0, none⟩ (.bool true)).setCell ⟨gb186, 1, none⟩ (.int .i64 x5_4)).heap[gb186]? = some (.cells #[.bool true, .int .i64 x5_4] 38 (0, 0))) := ⟨by (with_reducible repeat (first | refine blk_drewN ?_ _ | refine blk_drew ?_ | refine blk_alloc ?_ _)); refine blk_put (cs := #[.bool true, .int .i64 0]) ?_ 1 _ rfl; (with_reducible repeat (first | refine blk_drewN ?_ _ | refine blk_drew ?_ | refine blk_alloc ?_ _)); refine blk_put (cs := #[.bool false, .int .i64 0]) ?_ 0 _ rfl; (with_reducible repeat (first | refine blk_drewN ?_ _ | refine blk_drew ?_ | refine blk_alloc ?_ _)); refine blk_far ?_ NB186_185.out _; (with_reducible repeat (first | refine blk_drewN ?_ _ | refine blk_drew ?_ | refine blk_alloc ?_ _)); refine blk_far ?_ NB186_185.out _; (with_reducible repeat (first | refine blk_drewN ?_ _ | refine blk_drew ?_ | refine blk_alloc ?_ _)); exact BK186.out⟩
  have n3_ : Aside0 (Below w.heap.size w ((((w130.setCell ⟨gb185, 0, none⟩ (.bool false)).setCell ⟨gb185, 1, none⟩ (.int .i64 x5_4)).setCell ⟨gb186, 0, none⟩ (.bool true)).setCell ⟨gb186, 1, none⟩ (.int .i64 x5_4))) := ⟨zw3 HB.out GE183.out GE185.out GE186.out⟩
  (try clear BK183)
  (try clear BK185)
  (try clear BK186)
  (try clear HB)
  generalize ((((w130.setCell ⟨gb185, 0, none⟩ (.bool false)).setCell ⟨gb185, 1, none⟩ (.int .i64 x5_4)).setCell ⟨gb186, 0, none⟩ (.bool true)).setCell ⟨gb186, 1, none⟩ (.int .i64 x5_4)) = w136 at n0_ n1_ n2_ n3_ ⊢
  have BK183 := n0_
  have BK185 := n1_
  have BK186 := n2_
  have HB := n3_
  clear n0_ n1_ n2_ n3_
  have n0_ := Aside0.mk (blk_drew BK183.out)
  have n1_ := Aside0.mk (blk_drew BK185.out)
  have n2_ := Aside0.mk (blk_drew BK186.out)
  have n3_ := Aside0.mk (below_drew1 HB.out)
  clear BK183
  clear BK185
  clear BK186
  clear HB
  have BK183 := n0_
  have BK185 := n1_
  have BK186 := n2_
  have HB := n3_
  clear n0_ n1_ n2_ n3_
  have p187 : 0 ≤ (x3_1 : Int) := zdec
  have q187 : x3_1 < (l0_1.length : Int) := zdec
  obtain ⟨ad187, e187, hx187_0, hx187_1, hx187_2, hx187_3⟩ := at_T33 HR0_1.out x3_1 p187 q187
  have hw187_3 := hx187_3
  have hw187_2 := hx187_2
  have hw187_1 := hx187_1
  have hw187_0 := hx187_0
  cases e187
  replace hx187_0 := zh HB.out hx187_0
  replace hx187_1 := zh HB.out hx187_1
  replace hx187_2 := zh HB.out hx187_2
  replace hx187_3 := zh HB.out hx187_3
  replace p187 := eq_true p187
  replace q187 := eq_true q187
  refine start_ (n := 13) (S := fun w' => w'.cell? ⟨gb185, 0, none⟩ = some (.bool false) ∧ w'.cell? ⟨gb185, 1, none⟩ = some (.int .i64 x5_4) ∧ w'.cell? ⟨gb183, 0, none⟩ = some (.slice A0_0 l0_0.length c0_0) ∧ w'.cell? ⟨gb183, 1, none⟩ = some (.slice (some ad187) l0_1.length c0_1) ∧ w'.cell? ⟨gb183, 2, none⟩ = some (.slice A0_2 l0_2.length c0_2) ∧ w'.cell? (ad187.add ((x3_1).toNat * 4)) = some (.bool ((rd_T33 l0_1 x3_1).f0)) ∧ w'.cell? ⟨(ad187.add ((x3_1).toNat * 4)).block, (ad187.add ((x3_1).toNat * 4)).off + 1, none⟩ = some (.int .i64 ((rd_T33 l0_1 x3_1).f1)) ∧ w'.cell? ⟨(ad187.add ((x3_1).toNat * 4)).block, (ad187.add ((x3_1).toNat * 4)).off + 2, none⟩ = some (.int .i64 ((rd_T33 l0_1 x3_1).f2)) ∧ w'.cell? ⟨(ad187.add ((x3_1).toNat * 4)).block, (ad187.add ((x3_1).toNat * 4)).off + 3, none⟩ = some (.int .i64 ((rd_T33 l0_1 x3_1).f3))) (ds := []) cellarlaw8_BytesBack.b0 (by kernel_rfl) rfl rfl ⟨(blk_cell BK185.out 0).trans rfl, (blk_cell BK185.out 1).trans rfl, (blk_cell BK183.out 0).trans rfl, (blk_cell BK183.out 1).trans rfl, (blk_cell BK183.out 2).trans rfl, ((HB.out.cell (World.block_lt_of_cell? w _ hw187_0)).trans hw187_0), ((HB.out.cell (World.block_lt_of_cell? w _ hw187_1)).trans hw187_1), ((HB.out.cell (World.block_lt_of_cell? w _ hw187_2)).trans hw187_2), ((HB.out.cell (World.block_lt_of_cell? w _ hw187_3)).trans hw187_3)⟩ (fun hHeld => ?_); refine with_tabW cellarlaw8_BytesBack.tab13 cellarlaw8_BytesBack.bits13 (fun HT_ HW_ => ?_)
  generalize w136.drew = w137 at BK183 BK185 BK186 HB hx187_0 hx187_1 hx187_2 hx187_3 hHeld ⊢
  refine zq 1 (some 46) HT_ ?_; refine zq 2 (some 47) HT_ ?_; refine zq 4 (some 49) HT_ ?_; refine zt 0 (some 45) HT_ HW_ hHeld ?_; refine zt 3 (some 48) HT_ HW_ hHeld ?_; refine zq 5 (some 50) HT_ ?_; refine zt 6 (some 51) HT_ HW_ hHeld ?_
  refine one_ (i := 7) (N := some 52) cellarlaw8_BytesBack.b8 rfl rfl (one_of HT_.out (by kernel_rfl)) (by decide) (fun K hK => ?_)
  refine goes_ Try.func26 (by kernel_rfl) rfl #[.agg #[.bool false, .int .i64 x5_4], .int .i64 x4_3, .agg #[.bool ((rd_T33 l0_1 x3_1).f0), .int .i64 ((rd_T33 l0_1 x3_1).f1), .int .i64 ((rd_T33 l0_1 x3_1).f2), .int .i64 ((rd_T33 l0_1 x3_1).f3)]] (by rfl) rfl rfl (by (try simp only [List.map_toArray, List.map_cons, List.map_nil]); first | done | rfl | (simp only [List.length_drop, List.length_take]; rfl)) ?_
  with_reducible refine (bytes_Put.calls k4 false x5_4 x4_3 ((rd_T33 l0_1 x3_1).f0) ((rd_T33 l0_1 x3_1).f1) ((rd_T33 l0_1 x3_1).f2) ((rd_T33 l0_1 x3_1).f3) t188 t191 _ A20.out).mono ?_
  rintro e w138 ⟨v189, rfl, ho0, hb⟩
  refine ⟨_, rfl, ?_⟩
  have n0_ := Aside0.mk (Kd.R_lower ho0 (below_size (zw3 HB.out GE183.out GE185.out GE186.out)))
  have n1_ := Aside0.mk (zbb BK183.out hb)
  have n2_ := Aside0.mk (zbb BK185.out hb)
  have n3_ := Aside0.mk (zbb BK186.out hb)
  have n4_ := Aside0.mk (below_step (zw3 HB.out GE183.out GE185.out GE186.out) hb)
  clear BK183
  clear BK185
  clear BK186
  clear HB
  have HO190 := n0_
  have BK183 := n1_
  have BK185 := n2_
  have BK186 := n3_
  have HB := n4_
  clear n0_ n1_ n2_ n3_ n4_
  (try clear hb)
  (try clear hb2)
  (try clear hk)
  (try clear hi)
  (try clear ho0)
  refine hK.out _ _ ⟨(blk_cell BK185.out 0).trans rfl, (blk_cell BK185.out 1).trans rfl, (blk_cell BK183.out 0).trans rfl, (blk_cell BK183.out 1).trans rfl, (blk_cell BK183.out 2).trans rfl, ((HB.out.cell (World.block_lt_of_cell? w _ hw187_0)).trans hw187_0), ((HB.out.cell (World.block_lt_of_cell? w _ hw187_1)).trans hw187_1), ((HB.out.cell (World.block_lt_of_cell? w _ hw187_2)).trans hw187_2), ((HB.out.cell (World.block_lt_of_cell? w _ hw187_3)).trans hw187_3)⟩ (fun hHeld => ?_)
  clear hK K
  refine norm_ (a' := ?_) ?_ ?_
  rotate_left
  ·show Act.put _ (some 52) _ = _
   simp only [Act.put, List.setIfInBounds_toArray, List.set_cons_zero, List.set_cons_succ, i64_w, i32_w]
   rfl
  refine zq 8 (some 44) HT_ ?_; refine zq 9 (some 53) HT_ ?_; refine zq 10 (some 54) HT_ ?_; refine zq 11 (some 8) HT_ ?_; refine zq 12 (some 9) HT_ ?_
  refine done_ (done_of HT_.out (by kernel_rfl)) ?_
  try go_wp2
  have n0_ := Aside0.mk (Kd.R_drew HO190.out)
  have n1_ := Aside0.mk (blk_drew BK183.out)
  have n2_ := Aside0.mk (blk_drew BK185.out)
  have n3_ := Aside0.mk (blk_drew BK186.out)
  have n4_ := Aside0.mk (below_drew1 HB.out)
  clear HO190
  clear BK183
  clear BK185
  clear BK186
  clear HB
  have HO190 := n0_
  have BK183 := n1_
  have BK185 := n2_
  have BK186 := n3_
  have HB := n4_
  clear n0_ n1_ n2_ n3_ n4_
  have p192 : 0 ≤ (x3_1 : Int) := zdec
  have q192 : x3_1 < (l0_1.length : Int) := zdec
  obtain ⟨ad192, e192, hx192_0, hx192_1, hx192_2, hx192_3⟩ := at_T33 HR0_1.out x3_1 p192 q192
  have hw192_3 := hx192_3
  have hw192_2 := hx192_2
  have hw192_1 := hx192_1
  have hw192_0 := hx192_0
  obtain rfl : ad187 = ad192 := (by injection e192)
  replace hx192_0 := zh HB.out hx192_0
  replace hx192_1 := zh HB.out hx192_1
  replace hx192_2 := zh HB.out hx192_2
  replace hx192_3 := zh HB.out hx192_3
  replace p192 := eq_true p192
  replace q192 := eq_true q192
  refine start_ (n := 13) (S := fun w' => w'.cell? ⟨gb186, 0, none⟩ = some (.bool true) ∧ w'.cell? ⟨gb186, 1, none⟩ = some (.int .i64 x5_4) ∧ w'.cell? ⟨gb183, 0, none⟩ = some (.slice A0_0 l0_0.length c0_0) ∧ w'.cell? ⟨gb183, 1, none⟩ = some (.slice (some ad187) l0_1.length c0_1) ∧ w'.cell? ⟨gb183, 2, none⟩ = some (.slice A0_2 l0_2.length c0_2) ∧ w'.cell? (ad187.add ((x3_1).toNat * 4)) = some (.bool ((rd_T33 l0_1 x3_1).f0)) ∧ w'.cell? ⟨(ad187.add ((x3_1).toNat * 4)).block, (ad187.add ((x3_1).toNat * 4)).off + 1, none⟩ = some (.int .i64 ((rd_T33 l0_1 x3_1).f1)) ∧ w'.cell? ⟨(ad187.add ((x3_1).toNat * 4)).block, (ad187.add ((x3_1).toNat * 4)).off + 2, none⟩ = some (.int .i64 ((rd_T33 l0_1 x3_1).f2)) ∧ w'.cell? ⟨(ad187.add ((x3_1).toNat * 4)).block, (ad187.add ((x3_1).toNat * 4)).off + 3, none⟩ = some (.int .i64 ((rd_T33 l0_1 x3_1).f3))) (ds := []) cellarlaw8_BytesBack.b0 (by kernel_rfl) rfl rfl ⟨(blk_cell BK186.out 0).trans rfl, (blk_cell BK186.out 1).trans rfl, (blk_cell BK183.out 0).trans rfl, (blk_cell BK183.out 1).trans rfl, (blk_cell BK183.out 2).trans rfl, ((HB.out.cell (World.block_lt_of_cell? w _ hw192_0)).trans hw192_0), ((HB.out.cell (World.block_lt_of_cell? w _ hw192_1)).trans hw192_1), ((HB.out.cell (World.block_lt_of_cell? w _ hw192_2)).trans hw192_2), ((HB.out.cell (World.block_lt_of_cell? w _ hw192_3)).trans hw192_3)⟩ (fun hHeld => ?_); refine with_tabW cellarlaw8_BytesBack.tab14 cellarlaw8_BytesBack.bits14 (fun HT_ HW_ => ?_)
  generalize w138.drew = w139 at HO190 BK183 BK185 BK186 HB hx192_0 hx192_1 hx192_2 hx192_3 hHeld ⊢
  refine zq 1 (some 57) HT_ ?_; refine zq 2 (some 58) HT_ ?_; refine zq 4 (some 60) HT_ ?_; refine zt 0 (some 56) HT_ HW_ hHeld ?_; refine zt 3 (some 59) HT_ HW_ hHeld ?_; refine zq 5 (some 61) HT_ ?_; refine zt 6 (some 62) HT_ HW_ hHeld ?_
  refine one_ (i := 7) (N := some 63) cellarlaw8_BytesBack.b8 rfl rfl (one_of HT_.out (by kernel_rfl)) (by decide) (fun K hK => ?_)
  refine goes_ Try.func26 (by kernel_rfl) rfl #[.agg #[.bool true, .int .i64 x5_4], .int .i64 x4_3, .agg #[.bool ((rd_T33 l0_1 x3_1).f0), .int .i64 ((rd_T33 l0_1 x3_1).f1), .int .i64 ((rd_T33 l0_1 x3_1).f2), .int .i64 ((rd_T33 l0_1 x3_1).f3)]] (by rfl) rfl rfl (by (try simp only [List.map_toArray, List.map_cons, List.map_nil]); first | done | rfl | (simp only [List.length_drop, List.length_take]; rfl)) ?_
  with_reducible refine (bytes_Put.calls k4 true x5_4 x4_3 ((rd_T33 l0_1 x3_1).f0) ((rd_T33 l0_1 x3_1).f1) ((rd_T33 l0_1 x3_1).f2) ((rd_T33 l0_1 x3_1).f3) t193 t196 _ A21.out).mono ?_
  rintro e w140 ⟨v194, rfl, ho0, hb⟩
  refine ⟨_, rfl, ?_⟩
  have n0_ := Aside0.mk (Kd.R_elder' (by (with_reducible repeat (first | apply Kd.R_alloc | apply Kd.R_drewN | apply Kd.R_drew)); exact HO190.out) (Kd.R_base ho0) hb)
  have n1_ := Aside0.mk (Kd.R_lower (Kd.R_new' ho0 (Kd.R_lt (by (with_reducible repeat (first | apply Kd.R_alloc | apply Kd.R_drewN | apply Kd.R_drew)); exact HO190.out))) (below_size (zw3 HB.out GE183.out GE185.out GE186.out)))
  have n2_ := Aside0.mk (zbb BK183.out hb)
  have n3_ := Aside0.mk (zbb BK185.out hb)
  have n4_ := Aside0.mk (zbb BK186.out hb)
  have n5_ := Aside0.mk (below_step (zw3 HB.out GE183.out GE185.out GE186.out) hb)
  clear HO190
  clear BK183
  clear BK185
  clear BK186
  clear HB
  have HO190 := n0_
  have HO195 := n1_
  have BK183 := n2_
  have BK185 := n3_
  have BK186 := n4_
  have HB := n5_
  clear n0_ n1_ n2_ n3_ n4_ n5_
  (try clear hb)
  (try clear hb2)
  (try clear hk)
  (try clear hi)
  (try clear ho0)
  refine hK.out _ _ ⟨(blk_cell BK186.out 0).trans rfl, (blk_cell BK186.out 1).trans rfl, (blk_cell BK183.out 0).trans rfl, (blk_cell BK183.out 1).trans rfl, (blk_cell BK183.out 2).trans rfl, ((HB.out.cell (World.block_lt_of_cell? w _ hw192_0)).trans hw192_0), ((HB.out.cell (World.block_lt_of_cell? w _ hw192_1)).trans hw192_1), ((HB.out.cell (World.block_lt_of_cell? w _ hw192_2)).trans hw192_2), ((HB.out.cell (World.block_lt_of_cell? w _ hw192_3)).trans hw192_3)⟩ (fun hHeld => ?_)
  clear hK K
  refine norm_ (a' := ?_) ?_ ?_
  rotate_left
  ·show Act.put _ (some 63) _ = _
   simp only [Act.put, List.setIfInBounds_toArray, List.set_cons_zero, List.set_cons_succ, i64_w, i32_w]
   rfl
  refine zq 8 (some 55) HT_ ?_; refine zq 9 (some 64) HT_ ?_; refine zq 10 (some 65) HT_ ?_; refine zq 11 (some 10) HT_ ?_; refine zq 12 (some 11) HT_ ?_
  refine done_ (done_of HT_.out (by kernel_rfl)) ?_
  try go_wp2_with (first | ((with_reducible refine gate_callee (f := 23) rfl ?_); refine zgo (some 67) Try.func23 #[.int .i64 t191] ?_; (with_reducible refine (cellarlaw8_num.calls t191 t197 _ A22.out).mono ?_); rintro e w' ⟨rfl, ⟨nd, rfl⟩⟩; refine ⟨_, rfl, ?_⟩) | ((with_reducible refine gate_callee (f := 23) rfl ?_); refine zgo (some 69) Try.func23 #[.int .i64 t196] ?_; (with_reducible refine (cellarlaw8_num.calls t196 t198 _ A23.out).mono ?_); rintro e w' ⟨rfl, ⟨nd, rfl⟩⟩; refine ⟨_, rfl, ?_⟩) | ((with_reducible refine gate_callee (f := 23) rfl ?_); refine zgo (some 72) Try.func23 #[.int .i64 t191] ?_; (with_reducible refine (cellarlaw8_num.calls t191 t199 _ A25.out).mono ?_); rintro e w' ⟨rfl, ⟨nd, rfl⟩⟩; refine ⟨_, rfl, ?_⟩))
  go_meet
  case rel => exact ⟨_, H', ⟨by have := HK1.out; have := HJ9.out; have := HK3.out; have := HK4.out; first | omega | exact Nat.le_refl _⟩, ⟨zb BK183.out⟩, ⟨zw3 HB.out GE183.out GE185.out GE186.out⟩⟩
 rw [if_pos c26] at H
 have c26b0 : (t199 == 0) = true := beq_iff_eq.mpr c26
 have c26b1 : (t199 != 0) = false := bne_eq_false_iff_eq.mpr c26
 clear c26
 replace H := Option.bind_eq_some_iff.mp H
 obtain ⟨⟨t200, t201, t202, t203, t204, t205⟩, A270, H⟩ := H
 replace H : ((bytes_Get.f k4 true x5_4 x4_3 t193).bind fun bt207 => ((cellarlaw8_num.f t205).bind fun t214 => (if t214 = 0 then ((cellarlaw8_num.f bt207.2.2.2.2.2).bind fun t215 => (if t215 = 0 then (if t204 = 0 then (if bt207.2.2.2.2.1 = 0 then (if (!(t200 == ((rd_T33 l0_1 x3_1).f0)) || (!(t201 == ((rd_T33 l0_1 x3_1).f1)) || (!(t202 == ((rd_T33 l0_1 x3_1).f2)) || (!(t203 == ((rd_T33 l0_1 x3_1).f3)))))) = true then (cellarlaw8_BytesBack.j4 k4 x3_1 x4_3 x5_4 t188 t193 true l0_0 l0_1 l0_2 false x5_4) else (if (!(bt207.1 == ((rd_T33 l0_1 x3_1).f0)) || (!(bt207.2.1 == ((rd_T33 l0_1 x3_1).f1)) || (!(bt207.2.2.1 == ((rd_T33 l0_1 x3_1).f2)) || (!(bt207.2.2.2.1 == ((rd_T33 l0_1 x3_1).f3)))))) = true then (cellarlaw8_BytesBack.j4 k4 x3_1 x4_3 x5_4 t188 t193 true l0_0 l0_1 l0_2 false x5_4) else (if (t188.length : Int) = (t193.length : Int) then (cellarlaw8_BytesBack.j4 k4 x3_1 x4_3 x5_4 t188 t193 ((t188.length : Int) == 0) l0_0 l0_1 l0_2 false x5_4) else (cellarlaw8_BytesBack.j4 k4 x3_1 x4_3 x5_4 t188 t193 true l0_0 l0_1 l0_2 false x5_4)))) else (cellarlaw8_BytesBack.j4 k4 x3_1 x4_3 x5_4 t188 t193 true l0_0 l0_1 l0_2 false x5_4)) else (cellarlaw8_BytesBack.j4 k4 x3_1 x4_3 x5_4 t188 t193 true l0_0 l0_1 l0_2 false x5_4)) else (cellarlaw8_BytesBack.j4 k4 x3_1 x4_3 x5_4 t188 t193 true l0_0 l0_1 l0_2 false x5_4))) else (cellarlaw8_BytesBack.j4 k4 x3_1 x4_3 x5_4 t188 t193 true l0_0 l0_1 l0_2 false x5_4)))) = some r := H
 have A27 := Aside0.mk A270
 clear A270
 replace H := Option.bind_eq_some_iff.mp H
 obtain ⟨⟨t207, t208, t209, t210, t211, t212⟩, A280, H⟩ := H
 replace H : ((cellarlaw8_num.f t205).bind fun t214 => (if t214 = 0 then ((cellarlaw8_num.f t212).bind fun t215 => (if t215 = 0 then (if t204 = 0 then (if t211 = 0 then (if (!(t200 == ((rd_T33 l0_1 x3_1).f0)) || (!(t201 == ((rd_T33 l0_1 x3_1).f1)) || (!(t202 == ((rd_T33 l0_1 x3_1).f2)) || (!(t203 == ((rd_T33 l0_1 x3_1).f3)))))) = true then (cellarlaw8_BytesBack.j4 k4 x3_1 x4_3 x5_4 t188 t193 true l0_0 l0_1 l0_2 false x5_4) else (if (!(t207 == ((rd_T33 l0_1 x3_1).f0)) || (!(t208 == ((rd_T33 l0_1 x3_1).f1)) || (!(t209 == ((rd_T33 l0_1 x3_1).f2)) || (!(t210 == ((rd_T33 l0_1 x3_1).f3)))))) = true then (cellarlaw8_BytesBack.j4 k4 x3_1 x4_3 x5_4 t188 t193 true l0_0 l0_1 l0_2 false x5_4) else (if (t188.length : Int) = (t193.length : Int) then (cellarlaw8_BytesBack.j4 k4 x3_1 x4_3 x5_4 t188 t193 ((t188.length : Int) == 0) l0_0 l0_1 l0_2 false x5_4) else (cellarlaw8_BytesBack.j4 k4 x3_1 x4_3 x5_4 t188 t193 true l0_0 l0_1 l0_2 false x5_4)))) else (cellarlaw8_BytesBack.j4 k4 x3_1 x4_3 x5_4 t188 t193 true l0_0 l0_1 l0_2 false x5_4)) else (cellarlaw8_BytesBack.j4 k4 x3_1 x4_3 x5_4 t188 t193 true l0_0 l0_1 l0_2 false x5_4)) else (cellarlaw8_BytesBack.j4 k4 x3_1 x4_3 x5_4 t188 t193 true l0_0 l0_1 l0_2 false x5_4))) else (cellarlaw8_BytesBack.j4 k4 x3_1 x4_3 x5_4 t188 t193 true l0_0 l0_1 l0_2 false x5_4))) = some r := H
 have A28 := Aside0.mk A280
 clear A280
 have HC29 := Aside0.mk H
 clear H
 try go_wp2_with (first | ((with_reducible refine gate_dst (N := 6) rfl ?_); (try (refine gate_guard (by rfl) ?_; dsimp only)); refine zbox (N := 6) (cs := #[.bool false, .int .i64 0]) (t := 38) ?_; intro gb185 hg w30 hbox hb; have n0_ := Aside0.mk (zbb BK183.out hb); have n1_ := Aside0.mk (below_step (zw1 HB.out GE183.out) hb); have BK185 := Aside0.mk (hbox); have GW185 := Aside0.mk (zg hg (below_size (zw1 HB.out GE183.out))); have GE185 := GW185; have NB183_185 := Aside0.mk (zlt hg BK183.out); have NB185_183 := Aside0.mk (zgt hg BK183.out); clear BK183 HB; have BK183 := n0_; have HB := n1_; clear n0_ n1_; clear hb hbox hg) | ((with_reducible refine gate_dst (N := 7) rfl ?_); (try (refine gate_guard (by rfl) ?_; dsimp only)); refine zbox (N := 7) (cs := #[.bool false, .int .i64 0]) (t := 38) ?_; intro gb186 hg w31 hbox hb; have n0_ := Aside0.mk (zbb BK183.out hb); have n1_ := Aside0.mk (zbb BK185.out hb); have n2_ := Aside0.mk (below_step (zw2 HB.out GE183.out GE185.out) hb); have BK186 := Aside0.mk (hbox); have GW186 := Aside0.mk (zg hg (below_size (zw2 HB.out GE183.out GE185.out))); have GE186 := GW186; have NB183_186 := Aside0.mk (zlt hg BK183.out); have NB186_183 := Aside0.mk (zgt hg BK183.out); have NB185_186 := Aside0.mk (zlt hg BK185.out); have NB186_185 := Aside0.mk (zgt hg BK185.out); clear BK183 BK185 HB; have BK183 := n0_; have BK185 := n1_; have HB := n2_; clear n0_ n1_ n2_; clear hb hbox hg; have hnb32 := NB185_183.out; have hnc32 := NB183_185.out; have hnb33 := NB185_186.out; have hnc33 := NB186_185.out; have hcz34_0 := zc BK185.out 0; have hcz34_1 := zc BK185.out 1; have hfz34_0 := blk_frozen BK185.out 0; have hfz34_1 := blk_frozen BK185.out 1; have hnb35 := NB186_183.out; have hnc35 := NB183_186.out; have hcz36_0 := zc BK186.out 0; have hcz36_1 := zc BK186.out 1; have hfz36_0 := blk_frozen BK186.out 0; have hfz36_1 := blk_frozen BK186.out 1))
 have n0_ : Aside0 (((((w31.setCell ⟨gb185, 0, none⟩ (.bool false)).setCell ⟨gb185, 1, none⟩ (.int .i64 x5_4)).setCell ⟨gb186, 0, none⟩ (.bool true)).setCell ⟨gb186, 1, none⟩ (.int .i64 x5_4)).heap[gb183]? = some (.cells #[.slice A0_0 l0_0.length c0_0, .slice A0_1 l0_1.length c0_1, .slice A0_2 l0_2.length c0_2] 26 (0, 0))) := ⟨zf2 BK183.out NB183_186.out NB183_185.out⟩
 have n1_ : Aside0 (((((w31.setCell ⟨gb185, 0, none⟩ (.bool false)).setCell ⟨gb185, 1, none⟩ (.int .i64 x5_4)).setCell ⟨gb186, 0, none⟩ (.bool true)).setCell ⟨gb186, 1, none⟩ (.int .i64 x5_4)).heap[gb185]? = some (.cells #[.bool false, .int .i64 x5_4] 38 (0, 0))) := ⟨by (with_reducible repeat (first | refine blk_drewN ?_ _ | refine blk_drew ?_ | refine blk_alloc ?_ _)); refine blk_far ?_ NB185_186.out _; (with_reducible repeat (first | refine blk_drewN ?_ _ | refine blk_drew ?_ | refine blk_alloc ?_ _)); refine blk_far ?_ NB185_186.out _; (with_reducible repeat (first | refine blk_drewN ?_ _ | refine blk_drew ?_ | refine blk_alloc ?_ _)); refine blk_put (cs := #[.bool false, .int .i64 0]) ?_ 1 _ rfl; (with_reducible repeat (first | refine blk_drewN ?_ _ | refine blk_drew ?_ | refine blk_alloc ?_ _)); refine blk_put (cs := #[.bool false, .int .i64 0]) ?_ 0 _ rfl; (with_reducible repeat (first | refine blk_drewN ?_ _ | refine blk_drew ?_ | refine blk_alloc ?_ _)); exact BK185.out⟩
 have n2_ : Aside0 (((((w31.setCell ⟨gb185, 0, none⟩ (.bool false)).setCell ⟨gb185, 1, none⟩ (.int .i64 x5_4)).setCell ⟨gb186, 0, none⟩ (.bool true)).setCell ⟨gb186, 1, none⟩ (.int .i64 x5_4)).heap[gb186]? = some (.cells #[.bool true, .int .i64 x5_4] 38 (0, 0))) := ⟨by (with_reducible repeat (first | refine blk_drewN ?_ _ | refine blk_drew ?_ | refine blk_alloc ?_ _)); refine blk_put (cs := #[.bool true, .int .i64 0]) ?_ 1 _ rfl; (with_reducible repeat (first | refine blk_drewN ?_ _ | refine blk_drew ?_ | refine blk_alloc ?_ _)); refine blk_put (cs := #[.bool false, .int .i64 0]) ?_ 0 _ rfl; (with_reducible repeat (first | refine blk_drewN ?_ _ | refine blk_drew ?_ | refine blk_alloc ?_ _)); refine blk_far ?_ NB186_185.out _; (with_reducible repeat (first | refine blk_drewN ?_ _ | refine blk_drew ?_ | refine blk_alloc ?_ _)); refine blk_far ?_ NB186_185.out _; (with_reducible repeat (first | refine blk_drewN ?_ _ | refine blk_drew ?_ | refine blk_alloc ?_ _)); exact BK186.out⟩
 have n3_ : Aside0 (Below w.heap.size w ((((w31.setCell ⟨gb185, 0, none⟩ (.bool false)).setCell ⟨gb185, 1, none⟩ (.int .i64 x5_4)).setCell ⟨gb186, 0, none⟩ (.bool true)).setCell ⟨gb186, 1, none⟩ (.int .i64 x5_4))) := ⟨zw3 HB.out GE183.out GE185.out GE186.out⟩
 (try clear BK183)
 (try clear BK185)
 (try clear BK186)
 (try clear HB)
 generalize ((((w31.setCell ⟨gb185, 0, none⟩ (.bool false)).setCell ⟨gb185, 1, none⟩ (.int .i64 x5_4)).setCell ⟨gb186, 0, none⟩ (.bool true)).setCell ⟨gb186, 1, none⟩ (.int .i64 x5_4)) = w37 at n0_ n1_ n2_ n3_ ⊢
 have BK183 := n0_
 have BK185 := n1_
 have BK186 := n2_
 have HB := n3_
 clear n0_ n1_ n2_ n3_
 have n0_ := Aside0.mk (blk_drew BK183.out)
 have n1_ := Aside0.mk (blk_drew BK185.out)
 have n2_ := Aside0.mk (blk_drew BK186.out)
 have n3_ := Aside0.mk (below_drew1 HB.out)
 clear BK183
 clear BK185
 clear BK186
 clear HB
 have BK183 := n0_
 have BK185 := n1_
 have BK186 := n2_
 have HB := n3_
 clear n0_ n1_ n2_ n3_
 have p187 : 0 ≤ (x3_1 : Int) := zdec
 have q187 : x3_1 < (l0_1.length : Int) := zdec
 obtain ⟨ad187, e187, hx187_0, hx187_1, hx187_2, hx187_3⟩ := at_T33 HR0_1.out x3_1 p187 q187
 have hw187_3 := hx187_3
 have hw187_2 := hx187_2
 have hw187_1 := hx187_1
 have hw187_0 := hx187_0
 cases e187
 replace hx187_0 := zh HB.out hx187_0
 replace hx187_1 := zh HB.out hx187_1
 replace hx187_2 := zh HB.out hx187_2
 replace hx187_3 := zh HB.out hx187_3
 replace p187 := eq_true p187
 replace q187 := eq_true q187
 refine start_ (n := 13) (S := fun w' => w'.cell? ⟨gb185, 0, none⟩ = some (.bool false) ∧ w'.cell? ⟨gb185, 1, none⟩ = some (.int .i64 x5_4) ∧ w'.cell? ⟨gb183, 0, none⟩ = some (.slice A0_0 l0_0.length c0_0) ∧ w'.cell? ⟨gb183, 1, none⟩ = some (.slice (some ad187) l0_1.length c0_1) ∧ w'.cell? ⟨gb183, 2, none⟩ = some (.slice A0_2 l0_2.length c0_2) ∧ w'.cell? (ad187.add ((x3_1).toNat * 4)) = some (.bool ((rd_T33 l0_1 x3_1).f0)) ∧ w'.cell? ⟨(ad187.add ((x3_1).toNat * 4)).block, (ad187.add ((x3_1).toNat * 4)).off + 1, none⟩ = some (.int .i64 ((rd_T33 l0_1 x3_1).f1)) ∧ w'.cell? ⟨(ad187.add ((x3_1).toNat * 4)).block, (ad187.add ((x3_1).toNat * 4)).off + 2, none⟩ = some (.int .i64 ((rd_T33 l0_1 x3_1).f2)) ∧ w'.cell? ⟨(ad187.add ((x3_1).toNat * 4)).block, (ad187.add ((x3_1).toNat * 4)).off + 3, none⟩ = some (.int .i64 ((rd_T33 l0_1 x3_1).f3))) (ds := []) cellarlaw8_BytesBack.b0 (by kernel_rfl) rfl rfl ⟨(blk_cell BK185.out 0).trans rfl, (blk_cell BK185.out 1).trans rfl, (blk_cell BK183.out 0).trans rfl, (blk_cell BK183.out 1).trans rfl, (blk_cell BK183.out 2).trans rfl, ((HB.out.cell (World.block_lt_of_cell? w _ hw187_0)).trans hw187_0), ((HB.out.cell (World.block_lt_of_cell? w _ hw187_1)).trans hw187_1), ((HB.out.cell (World.block_lt_of_cell? w _ hw187_2)).trans hw187_2), ((HB.out.cell (World.block_lt_of_cell? w _ hw187_3)).trans hw187_3)⟩ (fun hHeld => ?_); refine with_tabW cellarlaw8_BytesBack.tab13 cellarlaw8_BytesBack.bits13 (fun HT_ HW_ => ?_)
 generalize w37.drew = w38 at BK183 BK185 BK186 HB hx187_0 hx187_1 hx187_2 hx187_3 hHeld ⊢
 refine zq 1 (some 46) HT_ ?_; refine zq 2 (some 47) HT_ ?_; refine zq 4 (some 49) HT_ ?_; refine zt 0 (some 45) HT_ HW_ hHeld ?_; refine zt 3 (some 48) HT_ HW_ hHeld ?_; refine zq 5 (some 50) HT_ ?_; refine zt 6 (some 51) HT_ HW_ hHeld ?_
 refine one_ (i := 7) (N := some 52) cellarlaw8_BytesBack.b8 rfl rfl (one_of HT_.out (by kernel_rfl)) (by decide) (fun K hK => ?_)
 refine goes_ Try.func26 (by kernel_rfl) rfl #[.agg #[.bool false, .int .i64 x5_4], .int .i64 x4_3, .agg #[.bool ((rd_T33 l0_1 x3_1).f0), .int .i64 ((rd_T33 l0_1 x3_1).f1), .int .i64 ((rd_T33 l0_1 x3_1).f2), .int .i64 ((rd_T33 l0_1 x3_1).f3)]] (by rfl) rfl rfl (by (try simp only [List.map_toArray, List.map_cons, List.map_nil]); first | done | rfl | (simp only [List.length_drop, List.length_take]; rfl)) ?_
 with_reducible refine (bytes_Put.calls k4 false x5_4 x4_3 ((rd_T33 l0_1 x3_1).f0) ((rd_T33 l0_1 x3_1).f1) ((rd_T33 l0_1 x3_1).f2) ((rd_T33 l0_1 x3_1).f3) t188 t191 _ A20.out).mono ?_
 rintro e w39 ⟨v189, rfl, ho0, hb⟩
 refine ⟨_, rfl, ?_⟩
 have n0_ := Aside0.mk (Kd.R_lower ho0 (below_size (zw3 HB.out GE183.out GE185.out GE186.out)))
 have n1_ := Aside0.mk (zbb BK183.out hb)
 have n2_ := Aside0.mk (zbb BK185.out hb)
 have n3_ := Aside0.mk (zbb BK186.out hb)
 have n4_ := Aside0.mk (below_step (zw3 HB.out GE183.out GE185.out GE186.out) hb)
 clear BK183
 clear BK185
 clear BK186
 clear HB
 have HO190 := n0_
 have BK183 := n1_
 have BK185 := n2_
 have BK186 := n3_
 have HB := n4_
 clear n0_ n1_ n2_ n3_ n4_
 (try clear hb)
 (try clear hb2)
 (try clear hk)
 (try clear hi)
 (try clear ho0)
 refine hK.out _ _ ⟨(blk_cell BK185.out 0).trans rfl, (blk_cell BK185.out 1).trans rfl, (blk_cell BK183.out 0).trans rfl, (blk_cell BK183.out 1).trans rfl, (blk_cell BK183.out 2).trans rfl, ((HB.out.cell (World.block_lt_of_cell? w _ hw187_0)).trans hw187_0), ((HB.out.cell (World.block_lt_of_cell? w _ hw187_1)).trans hw187_1), ((HB.out.cell (World.block_lt_of_cell? w _ hw187_2)).trans hw187_2), ((HB.out.cell (World.block_lt_of_cell? w _ hw187_3)).trans hw187_3)⟩ (fun hHeld => ?_)
 clear hK K
 refine norm_ (a' := ?_) ?_ ?_
 rotate_left
 ·show Act.put _ (some 52) _ = _
  simp only [Act.put, List.setIfInBounds_toArray, List.set_cons_zero, List.set_cons_succ, i64_w, i32_w]
  rfl
 refine zq 8 (some 44) HT_ ?_; refine zq 9 (some 53) HT_ ?_; refine zq 10 (some 54) HT_ ?_; refine zq 11 (some 8) HT_ ?_; refine zq 12 (some 9) HT_ ?_
 refine done_ (done_of HT_.out (by kernel_rfl)) ?_
 try go_wp2
 have n0_ := Aside0.mk (Kd.R_drew HO190.out)
 have n1_ := Aside0.mk (blk_drew BK183.out)
 have n2_ := Aside0.mk (blk_drew BK185.out)
 have n3_ := Aside0.mk (blk_drew BK186.out)
 have n4_ := Aside0.mk (below_drew1 HB.out)
 clear HO190
 clear BK183
 clear BK185
 clear BK186
 clear HB
 have HO190 := n0_
 have BK183 := n1_
 have BK185 := n2_
 have BK186 := n3_
 have HB := n4_
 clear n0_ n1_ n2_ n3_ n4_
 have p192 : 0 ≤ (x3_1 : Int) := zdec
 have q192 : x3_1 < (l0_1.length : Int) := zdec
 obtain ⟨ad192, e192, hx192_0, hx192_1, hx192_2, hx192_3⟩ := at_T33 HR0_1.out x3_1 p192 q192
 have hw192_3 := hx192_3
 have hw192_2 := hx192_2
 have hw192_1 := hx192_1
 have hw192_0 := hx192_0
 obtain rfl : ad187 = ad192 := (by injection e192)
 replace hx192_0 := zh HB.out hx192_0
 replace hx192_1 := zh HB.out hx192_1
 replace hx192_2 := zh HB.out hx192_2
 replace hx192_3 := zh HB.out hx192_3
 replace p192 := eq_true p192
 replace q192 := eq_true q192
 refine start_ (n := 13) (S := fun w' => w'.cell? ⟨gb186, 0, none⟩ = some (.bool true) ∧ w'.cell? ⟨gb186, 1, none⟩ = some (.int .i64 x5_4) ∧ w'.cell? ⟨gb183, 0, none⟩ = some (.slice A0_0 l0_0.length c0_0) ∧ w'.cell? ⟨gb183, 1, none⟩ = some (.slice (some ad187) l0_1.length c0_1) ∧ w'.cell? ⟨gb183, 2, none⟩ = some (.slice A0_2 l0_2.length c0_2) ∧ w'.cell? (ad187.add ((x3_1).toNat * 4)) = some (.bool ((rd_T33 l0_1 x3_1).f0)) ∧ w'.cell? ⟨(ad187.add ((x3_1).toNat * 4)).block, (ad187.add ((x3_1).toNat * 4)).off + 1, none⟩ = some (.int .i64 ((rd_T33 l0_1 x3_1).f1)) ∧ w'.cell? ⟨(ad187.add ((x3_1).toNat * 4)).block, (ad187.add ((x3_1).toNat * 4)).off + 2, none⟩ = some (.int .i64 ((rd_T33 l0_1 x3_1).f2)) ∧ w'.cell? ⟨(ad187.add ((x3_1).toNat * 4)).block, (ad187.add ((x3_1).toNat * 4)).off + 3, none⟩ = some (.int .i64 ((rd_T33 l0_1 x3_1).f3))) (ds := []) cellarlaw8_BytesBack.b0 (by kernel_rfl) rfl rfl ⟨(blk_cell BK186.out 0).trans rfl, (blk_cell BK186.out 1).trans rfl, (blk_cell BK183.out 0).trans rfl, (blk_cell BK183.out 1).trans rfl, (blk_cell BK183.out 2).trans rfl, ((HB.out.cell (World.block_lt_of_cell? w _ hw192_0)).trans hw192_0), ((HB.out.cell (World.block_lt_of_cell? w _ hw192_1)).trans hw192_1), ((HB.out.cell (World.block_lt_of_cell? w _ hw192_2)).trans hw192_2), ((HB.out.cell (World.block_lt_of_cell? w _ hw192_3)).trans hw192_3)⟩ (fun hHeld => ?_); refine with_tabW cellarlaw8_BytesBack.tab14 cellarlaw8_BytesBack.bits14 (fun HT_ HW_ => ?_)
 generalize w39.drew = w40 at HO190 BK183 BK185 BK186 HB hx192_0 hx192_1 hx192_2 hx192_3 hHeld ⊢
 refine zq 1 (some 57) HT_ ?_; refine zq 2 (some 58) HT_ ?_; refine zq 4 (some 60) HT_ ?_; refine zt 0 (some 56) HT_ HW_ hHeld ?_; refine zt 3 (some 59) HT_ HW_ hHeld ?_; refine zq 5 (some 61) HT_ ?_; refine zt 6 (some 62) HT_ HW_ hHeld ?_
 refine one_ (i := 7) (N := some 63) cellarlaw8_BytesBack.b8 rfl rfl (one_of HT_.out (by kernel_rfl)) (by decide) (fun K hK => ?_)
 refine goes_ Try.func26 (by kernel_rfl) rfl #[.agg #[.bool true, .int .i64 x5_4], .int .i64 x4_3, .agg #[.bool ((rd_T33 l0_1 x3_1).f0), .int .i64 ((rd_T33 l0_1 x3_1).f1), .int .i64 ((rd_T33 l0_1 x3_1).f2), .int .i64 ((rd_T33 l0_1 x3_1).f3)]] (by rfl) rfl rfl (by (try simp only [List.map_toArray, List.map_cons, List.map_nil]); first | done | rfl | (simp only [List.length_drop, List.length_take]; rfl)) ?_
 with_reducible refine (bytes_Put.calls k4 true x5_4 x4_3 ((rd_T33 l0_1 x3_1).f0) ((rd_T33 l0_1 x3_1).f1) ((rd_T33 l0_1 x3_1).f2) ((rd_T33 l0_1 x3_1).f3) t193 t196 _ A21.out).mono ?_
 rintro e w41 ⟨v194, rfl, ho0, hb⟩
 refine ⟨_, rfl, ?_⟩
 have n0_ := Aside0.mk (Kd.R_elder' (by (with_reducible repeat (first | apply Kd.R_alloc | apply Kd.R_drewN | apply Kd.R_drew)); exact HO190.out) (Kd.R_base ho0) hb)
 have n1_ := Aside0.mk (Kd.R_lower (Kd.R_new' ho0 (Kd.R_lt (by (with_reducible repeat (first | apply Kd.R_alloc | apply Kd.R_drewN | apply Kd.R_drew)); exact HO190.out))) (below_size (zw3 HB.out GE183.out GE185.out GE186.out)))
 have n2_ := Aside0.mk (zbb BK183.out hb)
 have n3_ := Aside0.mk (zbb BK185.out hb)
 have n4_ := Aside0.mk (zbb BK186.out hb)
 have n5_ := Aside0.mk (below_step (zw3 HB.out GE183.out GE185.out GE186.out) hb)
 clear HO190
 clear BK183
 clear BK185
 clear BK186
 clear HB
 have HO190 := n0_
 have HO195 := n1_
 have BK183 := n2_
 have BK185 := n3_
 have BK186 := n4_
 have HB := n5_
 clear n0_ n1_ n2_ n3_ n4_ n5_
 (try clear hb)
 (try clear hb2)
 (try clear hk)
 (try clear hi)
 (try clear ho0)
 refine hK.out _ _ ⟨(blk_cell BK186.out 0).trans rfl, (blk_cell BK186.out 1).trans rfl, (blk_cell BK183.out 0).trans rfl, (blk_cell BK183.out 1).trans rfl, (blk_cell BK183.out 2).trans rfl, ((HB.out.cell (World.block_lt_of_cell? w _ hw192_0)).trans hw192_0), ((HB.out.cell (World.block_lt_of_cell? w _ hw192_1)).trans hw192_1), ((HB.out.cell (World.block_lt_of_cell? w _ hw192_2)).trans hw192_2), ((HB.out.cell (World.block_lt_of_cell? w _ hw192_3)).trans hw192_3)⟩ (fun hHeld => ?_)
 clear hK K
 refine norm_ (a' := ?_) ?_ ?_
 rotate_left
 ·show Act.put _ (some 63) _ = _
  simp only [Act.put, List.setIfInBounds_toArray, List.set_cons_zero, List.set_cons_succ, i64_w, i32_w]
  rfl
 refine zq 8 (some 55) HT_ ?_; refine zq 9 (some 64) HT_ ?_; refine zq 10 (some 65) HT_ ?_; refine zq 11 (some 10) HT_ ?_; refine zq 12 (some 11) HT_ ?_
 refine done_ (done_of HT_.out (by kernel_rfl)) ?_
 go_upto_region 20 with (first | ((with_reducible refine gate_callee (f := 23) rfl ?_); refine zgo (some 67) Try.func23 #[.int .i64 t191] ?_; (with_reducible refine (cellarlaw8_num.calls t191 t197 _ A22.out).mono ?_); rintro e w' ⟨rfl, ⟨nd, rfl⟩⟩; refine ⟨_, rfl, ?_⟩; (try (rw [drewN_self w41]; generalize hq_ : World.drewN w41 _ = w41; have n0_ : Aside0 (Kd.R k51 51 w41 w.heap.size (fun k_ => some k_ ≠ (v194 : Value).ownBlock) v189 t188) := ⟨by rw [← hq_]; exact (by (with_reducible repeat (first | apply Kd.R_alloc | apply Kd.R_drewN | apply Kd.R_drew)); exact Kd.R_mono HO190.out (fun _ hk => hk.2))⟩; have n1_ : Aside0 (Kd.R k51 51 w41 w.heap.size (fun k_ => some k_ ≠ (v189 : Value).ownBlock) v194 t193) := ⟨by rw [← hq_]; exact (by (with_reducible repeat (first | apply Kd.R_alloc | apply Kd.R_drewN | apply Kd.R_drew)); exact Kd.R_mono HO195.out (fun _ hk => hk.2))⟩; have n2_ : Aside0 (w41.heap[gb183]? = some (.cells #[.slice A0_0 l0_0.length c0_0, .slice (some ad187) l0_1.length c0_1, .slice A0_2 l0_2.length c0_2] 26 (0, 0))) := ⟨by rw [← hq_]; exact (zb BK183.out)⟩; have n3_ : Aside0 (w41.heap[gb185]? = some (.cells #[.bool false, .int .i64 x5_4] 38 (0, 0))) := ⟨by rw [← hq_]; exact (zb BK185.out)⟩; have n4_ : Aside0 (w41.heap[gb186]? = some (.cells #[.bool true, .int .i64 x5_4] 38 (0, 0))) := ⟨by rw [← hq_]; exact (zb BK186.out)⟩; have n5_ : Aside0 (Below w.heap.size w w41) := ⟨by rw [← hq_]; exact (zw3 HB.out GE183.out GE185.out GE186.out)⟩; clear HO190 HO195 BK183 BK185 BK186 HB hq_; have HO190 := n0_; have HO195 := n1_; have BK183 := n2_; have BK185 := n3_; have BK186 := n4_; have HB := n5_; clear n0_ n1_ n2_ n3_ n4_ n5_))) | ((with_reducible refine gate_callee (f := 23) rfl ?_); refine zgo (some 69) Try.func23 #[.int .i64 t196] ?_; (with_reducible refine (cellarlaw8_num.calls t196 t198 _ A23.out).mono ?_); rintro e w' ⟨rfl, ⟨nd, rfl⟩⟩; refine ⟨_, rfl, ?_⟩; (try (rw [drewN_self w41]; generalize hq_ : World.drewN w41 _ = w41; have n0_ : Aside0 (Kd.R k51 51 w41 w.heap.size (fun k_ => some k_ ≠ (v194 : Value).ownBlock) v189 t188) := ⟨by rw [← hq_]; exact (by (with_reducible repeat (first | apply Kd.R_alloc | apply Kd.R_drewN | apply Kd.R_drew)); exact Kd.R_mono HO190.out (fun _ hk => hk.2))⟩; have n1_ : Aside0 (Kd.R k51 51 w41 w.heap.size (fun k_ => some k_ ≠ (v189 : Value).ownBlock) v194 t193) := ⟨by rw [← hq_]; exact (by (with_reducible repeat (first | apply Kd.R_alloc | apply Kd.R_drewN | apply Kd.R_drew)); exact Kd.R_mono HO195.out (fun _ hk => hk.2))⟩; have n2_ : Aside0 (w41.heap[gb183]? = some (.cells #[.slice A0_0 l0_0.length c0_0, .slice (some ad187) l0_1.length c0_1, .slice A0_2 l0_2.length c0_2] 26 (0, 0))) := ⟨by rw [← hq_]; exact (zb BK183.out)⟩; have n3_ : Aside0 (w41.heap[gb185]? = some (.cells #[.bool false, .int .i64 x5_4] 38 (0, 0))) := ⟨by rw [← hq_]; exact (zb BK185.out)⟩; have n4_ : Aside0 (w41.heap[gb186]? = some (.cells #[.bool true, .int .i64 x5_4] 38 (0, 0))) := ⟨by rw [← hq_]; exact (zb BK186.out)⟩; have n5_ : Aside0 (Below w.heap.size w w41) := ⟨by rw [← hq_]; exact (zw3 HB.out GE183.out GE185.out GE186.out)⟩; clear HO190 HO195 BK183 BK185 BK186 HB hq_; have HO190 := n0_; have HO195 := n1_; have BK183 := n2_; have BK185 := n3_; have BK186 := n4_; have HB := n5_; clear n0_ n1_ n2_ n3_ n4_ n5_))) | ((with_reducible refine gate_callee (f := 23) rfl ?_); refine zgo (some 72) Try.func23 #[.int .i64 t191] ?_; (with_reducible refine (cellarlaw8_num.calls t191 t199 _ A25.out).mono ?_); rintro e w' ⟨rfl, ⟨nd, rfl⟩⟩; refine ⟨_, rfl, ?_⟩; (try (rw [drewN_self w41]; generalize hq_ : World.drewN w41 _ = w41; have n0_ : Aside0 (Kd.R k51 51 w41 w.heap.size (fun k_ => some k_ ≠ (v194 : Value).ownBlock) v189 t188) := ⟨by rw [← hq_]; exact (by (with_reducible repeat (first | apply Kd.R_alloc | apply Kd.R_drewN | apply Kd.R_drew)); exact Kd.R_mono HO190.out (fun _ hk => hk.2))⟩; have n1_ : Aside0 (Kd.R k51 51 w41 w.heap.size (fun k_ => some k_ ≠ (v189 : Value).ownBlock) v194 t193) := ⟨by rw [← hq_]; exact (by (with_reducible repeat (first | apply Kd.R_alloc | apply Kd.R_drewN | apply Kd.R_drew)); exact Kd.R_mono HO195.out (fun _ hk => hk.2))⟩; have n2_ : Aside0 (w41.heap[gb183]? = some (.cells #[.slice A0_0 l0_0.length c0_0, .slice (some ad187) l0_1.length c0_1, .slice A0_2 l0_2.length c0_2] 26 (0, 0))) := ⟨by rw [← hq_]; exact (zb BK183.out)⟩; have n3_ : Aside0 (w41.heap[gb185]? = some (.cells #[.bool false, .int .i64 x5_4] 38 (0, 0))) := ⟨by rw [← hq_]; exact (zb BK185.out)⟩; have n4_ : Aside0 (w41.heap[gb186]? = some (.cells #[.bool true, .int .i64 x5_4] 38 (0, 0))) := ⟨by rw [← hq_]; exact (zb BK186.out)⟩; have n5_ : Aside0 (Below w.heap.size w w41) := ⟨by rw [← hq_]; exact (zw3 HB.out GE183.out GE185.out GE186.out)⟩; clear HO190 HO195 BK183 BK185 BK186 HB hq_; have HO190 := n0_; have HO195 := n1_; have BK183 := n2_; have BK185 := n3_; have BK186 := n4_; have HB := n5_; clear n0_ n1_ n2_ n3_ n4_ n5_)); have hcz42_0 := zc BK185.out 0; have hcz42_1 := zc BK185.out 1; have hfz42_0 := blk_frozen BK185.out 0; have hfz42_1 := blk_frozen BK185.out 1; obtain ⟨Ao43, co43, eo43⟩ := Kd.R_slice HO190.out; subst eo43) | ((with_reducible refine gate_callee (f := 17) rfl ?_); refine zgo (some 78) Try.func17 #[.agg #[.bool false, .int .i64 x5_4], .int .i64 x4_3, .slice Ao43 t188.length co43] ?_; (with_reducible refine (bytes_Get.calls k4 false x5_4 x4_3 _ _ t188 t200 t201 t202 t203 t204 t205 _ ?side1 ?side2 A27.out).mono ?_); (case side1 => repeat (first | exact (Kd.R_reads' HO190.out).2.2 | (with_reducible refine Kd.C_alloc ?_ _) | (with_reducible refine Kd.C_drewN ?_ _) | (with_reducible refine Kd.C_drew ?_))); (case side2 => exact (Kd.R_reads' HO190.out).2.1); rintro e w44 ⟨rfl, hb⟩; refine ⟨_, rfl, ?_⟩; have n0_ := Aside0.mk (Kd.R_below (by (with_reducible repeat (first | apply Kd.R_alloc | apply Kd.R_drewN | apply Kd.R_drew)); exact HO190.out) hb); have n1_ := Aside0.mk (Kd.R_below (by (with_reducible repeat (first | apply Kd.R_alloc | apply Kd.R_drewN | apply Kd.R_drew)); exact HO195.out) hb); have n2_ := Aside0.mk (zbb BK183.out hb); have n3_ := Aside0.mk (zbb BK185.out hb); have n4_ := Aside0.mk (zbb BK186.out hb); have n5_ := Aside0.mk (below_step (zw3 HB.out GE183.out GE185.out GE186.out) hb); clear HO190 HO195 BK183 BK185 BK186 HB; have HO190 := n0_; have HO195 := n1_; have BK183 := n2_; have BK185 := n3_; have BK186 := n4_; have HB := n5_; clear n0_ n1_ n2_ n3_ n4_ n5_; (try clear hb); (try clear hb2); (try clear hk); (try clear hi)) | ((with_reducible refine gate_dst (N := 12) rfl ?_); (try (refine gate_guard (by rfl) ?_; dsimp only)); refine zbox (N := 12) (cs := #[.bool false, .int .i64 0, .int .i64 0, .int .i64 0]) (t := 33) ?_; intro gb206 hg w45 hbox hb; have n0_ := Aside0.mk (Kd.R_below (by (with_reducible repeat (first | apply Kd.R_alloc | apply Kd.R_drewN | apply Kd.R_drew)); exact HO190.out) hb); have n1_ := Aside0.mk (Kd.R_below (by (with_reducible repeat (first | apply Kd.R_alloc | apply Kd.R_drewN | apply Kd.R_drew)); exact HO195.out) hb); have n2_ := Aside0.mk (zbb BK183.out hb); have n3_ := Aside0.mk (zbb BK185.out hb); have n4_ := Aside0.mk (zbb BK186.out hb); have n5_ := Aside0.mk (below_step (zw3 HB.out GE183.out GE185.out GE186.out) hb); have BK206 := Aside0.mk (hbox); have GW206 := Aside0.mk (zg hg (below_size (zw3 HB.out GE183.out GE185.out GE186.out))); have GE206 := GW206; have NB183_206 := Aside0.mk (zlt hg BK183.out); have NB206_183 := Aside0.mk (zgt hg BK183.out); have NB185_206 := Aside0.mk (zlt hg BK185.out); have NB206_185 := Aside0.mk (zgt hg BK185.out); have NB186_206 := Aside0.mk (zlt hg BK186.out); have NB206_186 := Aside0.mk (zgt hg BK186.out); clear HO190 HO195 BK183 BK185 BK186 HB; have HO190 := n0_; have HO195 := n1_; have BK183 := n2_; have BK185 := n3_; have BK186 := n4_; have HB := n5_; clear n0_ n1_ n2_ n3_ n4_ n5_; clear hb hbox hg; have hnb46 := NB206_183.out; have hnc46 := NB183_206.out; have hnb47 := NB206_185.out; have hnc47 := NB185_206.out; have hnb48 := NB206_186.out; have hnc48 := NB186_206.out; have hcz49_0 := zc BK206.out 0; have hcz49_1 := zc BK206.out 1; have hcz49_2 := zc BK206.out 2; have hcz49_3 := zc BK206.out 3; have hfz49_0 := blk_frozen BK206.out 0; have hfz49_1 := blk_frozen BK206.out 1; have hfz49_2 := blk_frozen BK206.out 2; have hfz49_3 := blk_frozen BK206.out 3; have hcz50_0 := zc BK186.out 0; have hcz50_1 := zc BK186.out 1; have hfz50_0 := blk_frozen BK186.out 0; have hfz50_1 := blk_frozen BK186.out 1; obtain ⟨Ao51, co51, eo51⟩ := Kd.R_slice HO195.out; subst eo51) | ((with_reducible refine gate_callee (f := 17) rfl ?_); refine zgo (some 86) Try.func17 #[.agg #[.bool true, .int .i64 x5_4], .int .i64 x4_3, .slice Ao51 t193.length co51] ?_; (with_reducible refine (bytes_Get.calls k4 true x5_4 x4_3 _ _ t193 t207 t208 t209 t210 t211 t212 _ ?side1 ?side2 A28.out).mono ?_); (case side1 => refine (Kd.R_reads' (e := 51) (base := w.heap.size) (ok := fun k_ => (some k_ ≠ (.slice Ao43 t188.length co43 : Value).ownBlock)) (n := t193.length) (c := co51) ?_).2.2; exact (by (with_reducible repeat (first | apply Kd.R_alloc | apply Kd.R_drewN | apply Kd.R_drew)); exact (Kd.R_mono (Kd.R_far (p := ⟨gb206, 3, none⟩) (Kd.R_far (p := ⟨gb206, 2, none⟩) (Kd.R_far (p := ⟨gb206, 1, none⟩) (Kd.R_far (p := ⟨gb206, 0, none⟩) (Kd.R_types HO195.out BK206.out (by decide)) (fun _ hk => hk.2) (.bool t200)) (fun _ hk => hk.2) (.int .i64 t201)) (fun _ hk => hk.2) (.int .i64 t202)) (fun _ hk => hk.2) (.int .i64 t203)) (fun _ h_ => h_.1)))); (case side2 => exact (Kd.R_reads' HO195.out).2.1); rintro e w52 ⟨rfl, hb⟩; refine ⟨_, rfl, ?_⟩; have n0_ := Aside0.mk (Kd.R_below (by (with_reducible repeat (first | apply Kd.R_alloc | apply Kd.R_drewN | apply Kd.R_drew)); exact (Kd.R_mono (Kd.R_far (p := ⟨gb206, 3, none⟩) (Kd.R_far (p := ⟨gb206, 2, none⟩) (Kd.R_far (p := ⟨gb206, 1, none⟩) (Kd.R_far (p := ⟨gb206, 0, none⟩) (Kd.R_types HO190.out BK206.out (by decide)) (fun _ hk => hk.2) (.bool t200)) (fun _ hk => hk.2) (.int .i64 t201)) (fun _ hk => hk.2) (.int .i64 t202)) (fun _ hk => hk.2) (.int .i64 t203)) (fun _ h_ => h_.1))) hb); have n1_ := Aside0.mk (Kd.R_below (by (with_reducible repeat (first | apply Kd.R_alloc | apply Kd.R_drewN | apply Kd.R_drew)); exact (Kd.R_mono (Kd.R_far (p := ⟨gb206, 3, none⟩) (Kd.R_far (p := ⟨gb206, 2, none⟩) (Kd.R_far (p := ⟨gb206, 1, none⟩) (Kd.R_far (p := ⟨gb206, 0, none⟩) (Kd.R_types HO195.out BK206.out (by decide)) (fun _ hk => hk.2) (.bool t200)) (fun _ hk => hk.2) (.int .i64 t201)) (fun _ hk => hk.2) (.int .i64 t202)) (fun _ hk => hk.2) (.int .i64 t203)) (fun _ h_ => h_.1))) hb); have n2_ := Aside0.mk (blk_below (g := gb183) (o := .cells #[.slice A0_0 l0_0.length c0_0, .slice (some ad187) l0_1.length c0_1, .slice A0_2 l0_2.length c0_2] 26 (0, 0)) (zf1 BK183.out NB183_206.out) hb); have n3_ := Aside0.mk (blk_below (g := gb185) (o := .cells #[.bool false, .int .i64 x5_4] 38 (0, 0)) (zf1 BK185.out NB185_206.out) hb); have n4_ := Aside0.mk (blk_below (g := gb186) (o := .cells #[.bool true, .int .i64 x5_4] 38 (0, 0)) (zf1 BK186.out NB186_206.out) hb); have n5_ := Aside0.mk (blk_below (g := gb206) (o := .cells #[.bool t200, .int .i64 t201, .int .i64 t202, .int .i64 t203] 33 (0, 0)) (by (with_reducible repeat (first | refine blk_drewN ?_ _ | refine blk_drew ?_ | refine blk_alloc ?_ _)); refine blk_put (cs := #[.bool t200, .int .i64 t201, .int .i64 t202, .int .i64 0]) ?_ 3 _ rfl; (with_reducible repeat (first | refine blk_drewN ?_ _ | refine blk_drew ?_ | refine blk_alloc ?_ _)); refine blk_put (cs := #[.bool t200, .int .i64 t201, .int .i64 0, .int .i64 0]) ?_ 2 _ rfl; (with_reducible repeat (first | refine blk_drewN ?_ _ | refine blk_drew ?_ | refine blk_alloc ?_ _)); refine blk_put (cs := #[.bool t200, .int .i64 0, .int .i64 0, .int .i64 0]) ?_ 1 _ rfl; (with_reducible repeat (first | refine blk_drewN ?_ _ | refine blk_drew ?_ | refine blk_alloc ?_ _)); refine blk_put (cs := #[.bool false, .int .i64 0, .int .i64 0, .int .i64 0]) ?_ 0 _ rfl; (with_reducible repeat (first | refine blk_drewN ?_ _ | refine blk_drew ?_ | refine blk_alloc ?_ _)); exact BK206.out) hb); have n6_ := Aside0.mk (below_step (zw4 HB.out GE183.out GE185.out GE186.out GE206.out) hb); clear HO190 HO195 BK183 BK185 BK186 BK206 HB; have HO190 := n0_; have HO195 := n1_; have BK183 := n2_; have BK185 := n3_; have BK186 := n4_; have BK206 := n5_; have HB := n6_; clear n0_ n1_ n2_ n3_ n4_ n5_ n6_; (try clear hb); (try clear hb2); (try clear hk); (try clear hi)) | ((with_reducible refine gate_dst (N := 15) rfl ?_); (try (refine gate_guard (by rfl) ?_; dsimp only)); refine zbox (N := 15) (cs := #[.bool false, .int .i64 0, .int .i64 0, .int .i64 0]) (t := 33) ?_; intro gb213 hg w53 hbox hb; have n0_ := Aside0.mk (Kd.R_below (by (with_reducible repeat (first | apply Kd.R_alloc | apply Kd.R_drewN | apply Kd.R_drew)); exact HO190.out) hb); have n1_ := Aside0.mk (Kd.R_below (by (with_reducible repeat (first | apply Kd.R_alloc | apply Kd.R_drewN | apply Kd.R_drew)); exact HO195.out) hb); have n2_ := Aside0.mk (zbb BK183.out hb); have n3_ := Aside0.mk (zbb BK185.out hb); have n4_ := Aside0.mk (zbb BK186.out hb); have n5_ := Aside0.mk (zbb BK206.out hb); have n6_ := Aside0.mk (below_step (zw4 HB.out GE183.out GE185.out GE186.out GE206.out) hb); have BK213 := Aside0.mk (hbox); have GW213 := Aside0.mk (zg hg (below_size (zw4 HB.out GE183.out GE185.out GE186.out GE206.out))); have GE213 := GW213; have NB183_213 := Aside0.mk (zlt hg BK183.out); have NB213_183 := Aside0.mk (zgt hg BK183.out); have NB185_213 := Aside0.mk (zlt hg BK185.out); have NB213_185 := Aside0.mk (zgt hg BK185.out); have NB186_213 := Aside0.mk (zlt hg BK186.out); have NB213_186 := Aside0.mk (zgt hg BK186.out); have NB206_213 := Aside0.mk (zlt hg BK206.out); have NB213_206 := Aside0.mk (zgt hg BK206.out); clear HO190 HO195 BK183 BK185 BK186 BK206 HB; have HO190 := n0_; have HO195 := n1_; have BK183 := n2_; have BK185 := n3_; have BK186 := n4_; have BK206 := n5_; have HB := n6_; clear n0_ n1_ n2_ n3_ n4_ n5_ n6_; clear hb hbox hg; have hnb54 := NB213_183.out; have hnc54 := NB183_213.out; have hnb55 := NB213_185.out; have hnc55 := NB185_213.out; have hnb56 := NB213_186.out; have hnc56 := NB186_213.out; have hnb57 := NB213_206.out; have hnc57 := NB206_213.out; have hcz58_0 := zc BK213.out 0; have hcz58_1 := zc BK213.out 1; have hcz58_2 := zc BK213.out 2; have hcz58_3 := zc BK213.out 3; have hfz58_0 := blk_frozen BK213.out 0; have hfz58_1 := blk_frozen BK213.out 1; have hfz58_2 := blk_frozen BK213.out 2; have hfz58_3 := blk_frozen BK213.out 3))
 (try simp only [Act.put, List.setIfInBounds_toArray, List.set_cons_zero, List.set_cons_succ])
 go_cut [135] (fun v135 wc => ∃ (kq : Nat) (x135_28 : Bool), v135 = .bool x135_28 ∧ Aside0 (cellarlaw8_BytesBack.j4 kq x3_1 x4_3 x5_4 t188 t193 x135_28 l0_0 l0_1 l0_2 false x5_4 = some r) ∧ Aside0 (kq ≤ k4) ∧ Aside0 (Kd.R k51 51 wc w.heap.size (fun k_ => some k_ ≠ ((.slice Ao51 t193.length co51) : Value).ownBlock) (.slice Ao43 t188.length co43) t188) ∧ Aside0 (Kd.R k51 51 wc w.heap.size (fun k_ => some k_ ≠ ((.slice Ao43 t188.length co43) : Value).ownBlock) (.slice Ao51 t193.length co51) t193) ∧ Aside0 (wc.heap[gb183]? = some (.cells #[(.slice A0_0 l0_0.length c0_0), (.slice (some ad187) l0_1.length c0_1), (.slice A0_2 l0_2.length c0_2)] 26 (0, 0))) ∧ Aside0 (wc.heap[gb185]? = some (.cells #[.bool false, .int .i64 x5_4] 38 (0, 0))) ∧ Aside0 (wc.heap[gb186]? = some (.cells #[.bool true, .int .i64 x5_4] 38 (0, 0))) ∧ Aside0 (wc.heap[gb206]? = some (.cells #[.bool t200, .int .i64 t201, .int .i64 t202, .int .i64 t203] 33 (0, 0))) ∧ Aside0 (wc.heap[gb213]? = some (.cells #[.bool t207, .int .i64 t208, .int .i64 t209, .int .i64 t210] 33 (0, 0))) ∧ Aside0 (Below w.heap.size w wc))
 case first =>
  rename_i q2_ q3_ q9_ q10_ _ _ q12_ q13_ q19_ q20_ q34_ q35_ q36_ q37_
  clear q2_ q3_ q9_
  revert k A0_0 c0_0 l0_0 c0_1 l0_1 A0_2 c0_2 l0_2 r w hu26 hu38 hu33 hu51 HR0_0 HC0_0 HC0_1 HR0_2 HC0_2 A2 q1_ gb183 w7 GW183 GE183 hfz8_0 hfz8_1 hfz8_2 q4_ q5_ q6_ q7_ x3_1 k1 q11_ HK1 u21 u22 u23 u24 u25 u26 u27 u28 u30 u31 kj9 HJ9 q14_ q15_ u34 u35 q16_ q17_ x4_3 k3 q21_ HK3 c15b0 q22_ q23_ u2 u18 u38 u39 u90 u91 u92 u93 u94 u95 u96 u97 u98 u99 u100 u101 u102 u103 u104 u105 u106 u107 u108 u109 u110 u111 u112 u113 u114 u115 u116 u117 u118 u119 u120 u121 u122 u123 u124 u125 u126 u127 u128 u129 u130 u131 u132 u133 u134 u135 u136 u137 u138 u139 u140 u141 u142 u143 u144 u145 u146 u147 u148 u149 u150 u151 u152 u153 u154 u155 u156 u157 u158 u159 u160 u161 u162 u163 u164 u165 u166 u167 u168 u169 u170 u171 u172 u173 u174 u175 u176 u177 u178 u179 u180 q24_ q25_ x5_4 k4 q27_ HK4 c16b0 q28_ q29_ q30_ q31_ q33_ c18b0 c19b0 t188 t191 A20 t193 t196 A21 t197 A22 t198 A23 c24b0 c24b1 t199 A25 c26b0 c26b1 t200 t201 t202 t203 t204 t205 A27 t207 t208 t209 t210 t211 t212 A28 HC29 gb185 GW185 GE185 NB183_185 NB185_183 gb186 w31 GW186 GE186 NB183_186 NB186_183 NB185_186 NB186_185 hnb32 hnc32 hnb33 hnc33 hcz34_0 hcz34_1 hfz34_0 hfz34_1 hnb35 hnc35 hcz36_0 hcz36_1 hfz36_0 hfz36_1 ad187 hw187_3 hw187_2 hw187_1 hw187_0 HR0_1 hcz8_0 hcz8_1 hcz8_2 q8_ q18_ q26_ q32_ p187 q187 w38 hx187_0 hx187_1 hx187_2 hx187_3 e192 hw192_3 hw192_2 hw192_1 hw192_0 p192 q192 HT_ HW_ w40 hx192_0 hx192_1 hx192_2 hx192_3 q10_ hHeld w41 nd hcz42_0 hcz42_1 hfz42_0 hfz42_1 Ao43 co43 gb206 w45 GW206 GE206 NB183_206 NB206_183 NB185_206 NB206_185 NB186_206 NB206_186 hnb46 hnc46 hnb47 hnc47 hnb48 hnc48 hcz49_0 hcz49_1 hcz49_2 hcz49_3 hfz49_0 hfz49_1 hfz49_2 hfz49_3 hcz50_0 hcz50_1 hfz50_0 hfz50_1 Ao51 co51 gb213 w53 BK213 GW213 GE213 NB183_213 NB213_183 NB185_213 NB213_185 NB186_213 NB213_186 NB206_213 NB213_206 HO190 HO195 BK183 BK185 BK186 BK206 HB hnb54 hnc54 hnb55 hnc55 hnb56 hnc56 hnb57 hnc57 hcz58_0 hcz58_1 hcz58_2 hcz58_3 hfz58_0 hfz58_1 hfz58_2 hfz58_3 q12_ q13_ q19_ q20_ q34_ q35_ q36_ q37_
  exact cutP1.out
 case rest =>
  rename_i q2_ q3_ q9_ q10_ _ _ q12_ q13_ q19_ q20_
  clear q2_ q3_ q9_
  revert k A0_0 c0_0 l0_0 c0_1 l0_1 A0_2 c0_2 l0_2 r w hu26 hu38 hu33 hu51 HR0_0 HC0_0 HC0_1 HR0_2 HC0_2 A2 q1_ gb183 w7 GW183 GE183 hfz8_0 hfz8_1 hfz8_2 q4_ q5_ q6_ q7_ x3_1 k1 q11_ HK1 u21 u22 u23 u24 u25 u26 u27 u28 u30 u31 kj9 HJ9 q14_ q15_ u34 u35 q16_ q17_ x4_3 k3 q21_ HK3 c15b0 q22_ q23_ wr u2 u18 q24_ q25_ x5_4 k4 q27_ HK4 c16b0 q28_ q29_ q30_ q31_ q33_ c18b0 c19b0 t188 t191 A20 t193 t196 A21 t197 A22 t198 A23 c24b0 c24b1 t199 A25 c26b0 c26b1 t200 t201 t202 t203 t204 t205 A27 t207 t208 t209 t210 t211 t212 A28 HC29 gb185 GW185 GE185 NB183_185 NB185_183 gb186 w31 GW186 GE186 NB183_186 NB186_183 NB185_186 NB186_185 hnb32 hnc32 hnb33 hnc33 hcz34_0 hcz34_1 hfz34_0 hfz34_1 hnb35 hnc35 hcz36_0 hcz36_1 hfz36_0 hfz36_1 ad187 hw187_3 hw187_2 hw187_1 hw187_0 HR0_1 hcz8_0 hcz8_1 hcz8_2 q8_ q18_ q26_ q32_ p187 q187 w38 hx187_0 hx187_1 hx187_2 hx187_3 e192 hw192_3 hw192_2 hw192_1 hw192_0 p192 q192 HT_ HW_ w40 hx192_0 hx192_1 hx192_2 hx192_3 q10_ hHeld w41 nd hcz42_0 hcz42_1 hfz42_0 hfz42_1 Ao43 co43 gb206 w45 GW206 GE206 NB183_206 NB206_183 NB185_206 NB206_185 NB186_206 NB206_186 hnb46 hnc46 hnb47 hnc47 hnb48 hnc48 hcz49_0 hcz49_1 hcz49_2 hcz49_3 hfz49_0 hfz49_1 hfz49_2 hfz49_3 hcz50_0 hcz50_1 hfz50_0 hfz50_1 Ao51 co51 gb213 w53 BK213 GW213 GE213 NB183_213 NB213_183 NB185_213 NB213_185 NB186_213 NB213_186 NB206_213 NB213_206 HO190 HO195 BK183 BK185 BK186 BK206 HB hnb54 hnc54 hnb55 hnc55 hnb56 hnc56 hnb57 hnc57 hcz58_0 hcz58_1 hcz58_2 hcz58_3 hfz58_0 hfz58_1 hfz58_2 hfz58_3 q12_ q13_ q19_ q20_ wc u36 u37 u38 u39 u40 u41 u42 u43 u44 u45 u46 u47 u48 u49 u50 u51 u52 u53 u54 u55 u56 u57 u58 u59 u60 u61 u62 u63 u64 u65 u66 u67 u68 u69 u70 u71 u72 u73 u74 u75 u76 u77 u78 u79 u80 u81 u82 u83 u84 u85 u86 u87 u88 u89 u90 u91 u92 u93 u94 u95 u96 u97 u98 u99 u100 u101 u102 u103 u104 u105 u106 u107 u108 u109 u110 u111 u112 u113 u114 u115 u116 u117 u118 u119 u120 u121 u122 u123 u124 u125 u126 u127 u128 u129 u130 u131 u132 u133 u134 u135 u136 u137 u138 u139 u140 u141 u142 u143 u144 u145 u146 u147 u148 u149 u150 u151 u152 u153 u154 u155 u156 u157 u158 u159 u160 u161 u162 u163 u164 u165 u166 u167 u168 u169 u170 u171 u172 u173 u174 u175 u176 u177 u178 u179 u180 hcut
  exact cutP2.out
end Go.Proofs.Ythhdmanpjeminaa.B
