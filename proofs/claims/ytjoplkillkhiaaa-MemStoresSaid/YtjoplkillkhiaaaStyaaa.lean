-- Written by this session's own edition of the print.
import Derived.Test.YtjoplkillkhiaaaStx0
import Derived.Test.YtjoplkillkhiaaaStx2
import Derived.Test.YtjoplkillkhiaaaStx3
import Derived.Test.YtjoplkillkhiaaaStx4
import Derived.Test.YtjoplkillkhiaaaStx7
import Derived.Test.YtjoplkillkhiaaaStx8
import Derived.Test.YtjoplkillkhiaaaStx9
import Derived.Test.YtjoplkillkhiaaaStx10
import Derived.Test.YtjoplkillkhiaaaStx13
import Derived.Test.YtjoplkillkhiaaaZSq
import Derived.Test.YtjoplkillkhiaaaZSq2
import Derived.Test.YtjoplkillkhiaaaZSq3
import Derived.Test.YtjoplkillkhiaaaStx14
import Derived.Test.YtjoplkillkhiaaaCut
import Derived.Test.YtjoplkillkhiaaaSty
import Derived.Test.YtjoplkillkhiaaaStya
import Derived.Test.YtjoplkillkhiaaaStyaa
namespace Go.Proofs.Ytjoplkillkhiaaa.St
open Go.Proofs.Ytjoplkillkhiaaa.Cuts Go.RowKit Go.Proofs.Ytjoplkillkhiaaa.Fn Go.Proofs.YtjoplkillkhiaaaW.PrintWords Go.Proofs.YtjoplkillkhiaaaW.PrintLast Go.Proofs.YtjoplkillkhiaaaW.PrintMore
set_option linter.unusedVariables false
set_option linter.unusedSimpArgs false
set_option maxHeartbeats 60000000 in
set_option maxRecDepth 100000 in
noncomputable def cellarlaw9_MemStores.cut_aaa : Cut1 (cellarlaw9_MemStores.cut_aa.P1) := by
 apply Cut1.mk
 case h =>
 intro cutP1
 intro k c0_0 l0_0 A0_1 c0_1 l0_1 A0_2 c0_2 l0_2 A0_3 c0_3 l0_3 r w hu54 hu29 hu62 HC0_0 HR0_1 HC0_1 HR0_2 HC0_2 HR0_3 HC0_3 A2 t342 A7 q1_ gb340 w8 GW340 GE340 hfz9_0 hfz9_1 hfz9_2 hfz9_3 w10 hfz11_0 hfz11_1 hfz11_2 hfz11_3 w12 v343 HO344 q2_ q3_ q4_ q5_ x4_1 k1 q7_ HK1 wc u24 u25 u26 u27 u28 u29 u30 u31 u33 u34 kj12 HJ12 c18b0 c19b0 t346 A20 t350 A21 t351 A22 H' hfz23_0 hfz23_1 hfz23_2 hfz23_3 ad345 A345_0 c345_0 HR0_0 hcz9_0 hcz9_1 hcz9_2 hcz9_3 hcz11_0 hcz11_1 hcz11_2 hcz11_3 q6_ hcz23_0 hcz23_1 hcz23_2 hcz23_3 hx345_0 HR345_0 HC345_0 p345 q345 q11_ q12_ w24 hcz25_0 hcz25_1 hcz25_2 hcz25_3 hfz25_0 hfz25_1 hfz25_2 hfz25_3 A349_0 c349_0 hx349_0 HR349_0 HC349_0 p349 q349 w26 hcz27_0 hcz27_1 hcz27_2 hcz27_3 hfz27_0 hfz27_1 hfz27_2 hfz27_3 Ao28 co28 w29 v352 HO353 HO_3 HO348 BK340 HB e349 gk wr u2 u8 u9 u10 u11 u12 u13 u14 u15 u16 u17 u18 u50 u51 u52 u53 u54 u55 u56 u57 u58 u59 u60 u61 u62 u63 u64 u65 u66 u67 u68 u69 u70 u71 u72 u73 u74 u75 u76 u77 u78 u79 u80 u81 u82 u83 u84 u85 u86 u87 u88 u89 u90 u91 u92 u93 u94 u95 u96 u97 u98 u99 u100 u101 u102 u103 u104 u105 u106 u107 u108 u109 u110 u111 u112 u113 u114 u115 u116 u117 u118 u119 u120 u121 u122 u123 u124 u125 u126 u127 u128 u129 u130 u131 u132 u133 u134 u135 u136 u137 u138 u139 u140 u141 u142 u143 u144 u145 u146 u147 u148 u149 u150 u151 u152 u153 u154 u155 u156 u157 u158 u159 u160 u161 u162 u163 u164 u165 u166 u167 u168 u169 u170 u171 u172 u173 u174 u175 u176 u177 u178 hrel q13_ q14_ q15_ q16_
 clear H'
 try clear c1; try clear c2; try clear p2; try clear c3; try clear p3; try clear q3; try clear c5; try clear c14; try clear c14b0; try clear c17; try clear c18; try clear c18b0; try clear c19; try clear c19b0; try clear c25; try clear c26; try clear c27; try clear c28; try clear c29; try clear p2; try clear p345; try clear p349; try clear q345; try clear q349
 obtain ⟨x8_3, rfl, HA, HK3, HO_3, HO_5, HO_7, BK340, HB⟩ := hrel
 cases gk with
 | zero => exact absurd HA.out (by simp [cellarlaw9_MemStores.l1])
 | succ k3 =>
 have H := HA.out
 clear HA
 simp only [cellarlaw9_MemStores.l1] at H
 by_cases c30 : x8_3 < (t351.length : Int)
 rotate_left
 ·rw [if_neg c30] at H
  have c30b0 : decide (x8_3 < (t351.length : Int)) = false := decide_eq_false c30
  clear c30
  have H' := Aside0.mk H
  clear H
  obtain ⟨Ao129, co129, eo129⟩ := Kd.R_slice HO_7.out
  subst eo129
  go_wp2
  go_roundg k3
  case measure => have := HK1.out; have := HJ12.out; have := HK3.out; omega
  case rel => exact ⟨(wrap64 (x4_1 + 1)), (zr), H', ⟨by have := HK1.out; have := HJ12.out; have := HK3.out; omega⟩, ⟨by (with_reducible repeat (first | apply Kd.R_alloc | apply Kd.R_drewN | apply Kd.R_drew)); exact HO_3.out⟩, ⟨zb BK340.out⟩, ⟨zw1 HB.out GE340.out⟩⟩
 rw [if_pos c30] at H
 have c30b0 : decide (x8_3 < (t351.length : Int)) = true := decide_eq_true c30
 clear c30
 have H' := Aside0.mk H
 clear H
 obtain ⟨Ao31, co31, eo31⟩ := Kd.R_slice HO_7.out
 subst eo31
 go_wp2
 go_loopg [9] k3 (fun kq v9 w' => ∃ (x9_4 : Int), v9 = .int .i64 x9_4 ∧ Aside0 (cellarlaw9_MemStores.l2 kq t342 x4_1 t346 t350 t351 x8_3 x9_4 l0_0 l0_1 l0_2 l0_3 = some r) ∧ Aside0 (kq ≤ k3) ∧ Aside0 (Kd.R k29 29 w' w.heap.size (fun _ => True) v343 t342) ∧ Aside0 (Kd.S k76 76 w' w.heap.size (fun _ => True) (.slice Ao28 t346.length co28) t346) ∧ Aside0 (Kd.R k62 62 w' w.heap.size (fun _ => True) (.slice Ao31 t351.length co31) t351) ∧ Aside0 (w'.heap[gb340]? = some (.cells #[(.slice (some ad345) l0_0.length c0_0), (.slice A0_1 l0_1.length c0_1), (.slice A0_2 l0_2.length c0_2), (.slice A0_3 l0_3.length c0_3)] 54 (0, 0))) ∧ Aside0 (Below w.heap.size w w'))
 case atStart => exact ⟨(0), (zr), H', ⟨Nat.le_refl _⟩, ⟨by (with_reducible repeat (first | apply Kd.R_alloc | apply Kd.R_drewN | apply Kd.R_drew)); exact HO_3.out⟩, ⟨by (with_reducible repeat (first | apply Kd.S_alloc | apply Kd.S_drewN | apply Kd.S_drew)); exact HO_5.out⟩, ⟨by (with_reducible repeat (first | apply Kd.R_alloc | apply Kd.R_drewN | apply Kd.R_drew)); exact HO_7.out⟩, ⟨zb BK340.out⟩, ⟨zw1 HB.out GE340.out⟩⟩
 case round =>
 rename_i q8_ q9_ q10_ q17_ _ _ _ _ _ _ _ _ _ _ _ _ _ _ _ _ _ _ _ _ _ _ _ _ _ _ _ _ _ _ _ _ _ _ _ _ _ _ _ _ _ _ _ _ _ _ _ _ _ _ _ _ _ _ _ _ _ _ _ _ _ _ _ _ _ _ _ _ _ _ _ _ _ _ _ _ _ _ _ _ _ _ _ _ _ _ _ _ _ _ _ _ _ _ _ _ _ _ _ _ _ _ _ _ _ _ _ _ _ _ _ _ _ _ _ _ _ _ _ _ _ _ _ _ _ _ _ _ _ _ _ _ _ _ q18_ q19_ q20_ q21_ q22_ q23_
 clear q8_ q9_ q10_
 revert k c0_0 l0_0 A0_1 c0_1 l0_1 A0_2 c0_2 l0_2 A0_3 c0_3 l0_3 r w hu54 hu29 hu62 HC0_0 HR0_1 HC0_1 HR0_2 HC0_2 HR0_3 HC0_3 A2 t342 A7 q1_ gb340 w8 GW340 GE340 hfz9_0 hfz9_1 hfz9_2 hfz9_3 w10 hfz11_0 hfz11_1 hfz11_2 hfz11_3 w12 v343 HO344 q2_ q3_ q4_ q5_ x4_1 k1 q7_ HK1 wc u24 u25 u26 u27 u28 u29 u30 u31 u33 u34 kj12 HJ12 c18b0 c19b0 t346 A20 t350 A21 t351 A22 hfz23_0 hfz23_1 hfz23_2 hfz23_3 ad345 A345_0 c345_0 HR0_0 hcz9_0 hcz9_1 hcz9_2 hcz9_3 hcz11_0 hcz11_1 hcz11_2 hcz11_3 q6_ hcz23_0 hcz23_1 hcz23_2 hcz23_3 hx345_0 HR345_0 HC345_0 p345 q345 q11_ q12_ w24 hcz25_0 hcz25_1 hcz25_2 hcz25_3 hfz25_0 hfz25_1 hfz25_2 hfz25_3 A349_0 c349_0 hx349_0 HR349_0 HC349_0 p349 q349 w26 hcz27_0 hcz27_1 hcz27_2 hcz27_3 hfz27_0 hfz27_1 hfz27_2 hfz27_3 Ao28 co28 w29 HO348 e349 q17_ u54 u55 q13_ q14_ x8_3 HO_3 HO_5 BK340 HB k3 q16_ HK3 c30b0 H' Ao31 co31 HO353 q15_ HO_7 q18_ q19_ gk wr u2 u9 u10 u11 u12 u13 u14 u15 u16 u17 u18 u56 u57 u58 u59 u60 u61 u62 u63 u64 u65 u66 u67 u68 u69 u70 u71 u72 u73 u74 u75 u76 u77 u78 u79 u80 u81 u82 u83 u84 u85 u86 u87 u88 u89 u90 u91 u92 u93 u94 u95 u96 u97 u98 u99 u100 u101 u102 u103 u104 u105 u106 u107 u108 u109 u110 u111 u112 u113 u114 u115 u116 u117 u118 u119 u120 u121 u122 u123 u124 u125 u126 u127 u128 u129 u130 u131 u132 u133 u134 u135 u136 u137 u138 u139 u140 u141 u142 u143 u144 u145 u146 u147 u148 u149 u150 u151 u152 u153 u154 u155 u156 u157 u158 u159 u160 u161 u162 u163 u164 u165 u166 u167 u168 u169 u170 u171 u172 u173 u174 u175 u176 u177 u178 hrel q20_ q21_ q22_ q23_
 exact cutP1.out
end Go.Proofs.Ytjoplkillkhiaaa.St
