-- Written by this session's own edition of the print.
import Derived.Test.YtjoplkillkhiaaaStx0
import Derived.Test.YtjoplkillkhiaaaStx2
import Derived.Test.YtjoplkillkhiaaaStx3
import Derived.Test.YtjoplkillkhiaaaStx4
import Derived.Test.YtjoplkillkhiaaaStx7
import Derived.Test.YtjoplkillkhiaaaStx8
import Derived.Test.YtjoplkillkhiaaaStx9
import Derived.Test.YtjoplkillkhiaaaStx10
import Derived.Test.YtjoplkillkhiaaaStx13
import Derived.Test.YtjoplkillkhiaaaZSq
import Derived.Test.YtjoplkillkhiaaaZSq2
import Derived.Test.YtjoplkillkhiaaaZSq3
import Derived.Test.YtjoplkillkhiaaaStx14
import Derived.Test.YtjoplkillkhiaaaCut
import Derived.Test.YtjoplkillkhiaaaSty
import Derived.Test.YtjoplkillkhiaaaStya
namespace Go.Proofs.Ytjoplkillkhiaaa.St
open Go.Proofs.Ytjoplkillkhiaaa.Cuts Go.RowKit Go.Proofs.Ytjoplkillkhiaaa.Fn Go.Proofs.YtjoplkillkhiaaaW.PrintWords Go.Proofs.YtjoplkillkhiaaaW.PrintLast Go.Proofs.YtjoplkillkhiaaaW.PrintMore
set_option linter.unusedVariables false
set_option linter.unusedSimpArgs false
set_option maxHeartbeats 60000000 in
set_option maxRecDepth 100000 in
noncomputable def cellarlaw9_MemStores.cut_aa : Cut1 (cellarlaw9_MemStores.cut_a.P1) := by
 apply Cut1.mk
 case h =>
 intro cutP1
 intro k A0_0 c0_0 l0_0 A0_1 c0_1 l0_1 A0_2 c0_2 l0_2 A0_3 c0_3 l0_3 r w hu54 hu29 hu62 HR0_0 HC0_0 HR0_1 HC0_1 HR0_2 HC0_2 HR0_3 HC0_3 A2 t342 A7 q1_ gb340 w8 GW340 GE340 hcz9_0 hcz9_1 hcz9_2 hcz9_3 hfz9_0 hfz9_1 hfz9_2 hfz9_3 w10 hcz11_0 hcz11_1 hcz11_2 hcz11_3 hfz11_0 hfz11_1 hfz11_2 hfz11_3 w12 v343 HO344 q2_ q3_ wr u2 u5 u6 u7 u8 u9 u10 u11 u12 u13 u14 u15 u16 u17 u18 q4_ q5_ q6_ x4_1 HO_3 BK340 HB k1 q7_ HK1 HC13 q10_ q11_ q12_ q13_ wc u24 u25 u26 u27 u28 u29 u30 u31 u32 u33 u34 u35 u36 u37 u38 u39 u40 u41 u42 u43 u44 u45 u46 u47 u48 u49 u50 u51 u52 u53 u54 u55 u56 u57 u58 u59 u60 u61 u62 u63 u64 u65 u66 u67 u68 u69 u70 u71 u72 u73 u74 u75 u76 u77 u78 u79 u80 u81 u82 u83 u84 u85 u86 u87 u88 u89 u90 u91 u92 u93 u94 u95 u96 u97 u98 u99 u100 u101 u102 u103 u104 u105 u106 u107 u108 u109 u110 u111 u112 u113 u114 u115 u116 u117 u118 u119 u120 u121 u122 u123 u124 u125 u126 u127 u128 u129 u130 u131 u132 u133 u134 u135 u136 u137 u138 u139 u140 u141 u142 u143 u144 u145 u146 u147 u148 u149 u150 u151 u152 u153 u154 u155 u156 u157 u158 u159 u160 u161 u162 u163 u164 u165 u166 u167 u168 u169 u170 u171 u172 u173 u174 u175 u176 u177 u178 hcut
 clear HC13
 try clear c1; try clear c2; try clear p2; try clear c3; try clear c5; try clear c14; try clear c14b0; try clear p2
 obtain ⟨kq, x32_12, rfl, HA, HJ12, HO_3, BK340, HB⟩ := hcut
 cases kq with
 | zero => exact absurd HA.out (by simp [cellarlaw9_MemStores.j1])
 | succ kj12 =>
 have H := HA.out
 clear HA
 simp only [cellarlaw9_MemStores.j1] at H
 by_cases c17 : x32_12 = true
 ·subst c17
  have H1 : (if 0 ≤ x4_1 then (if x4_1 < (l0_0.length : Int) then ((cellarref0_CopyBlocks.f kj12 (rd_L4 l0_0 x4_1)).bind fun t346 => ((cellarref7_Mem.f kj12 (rd_L4 l0_0 x4_1)).bind fun t350 => ((cellarlaw9_pointers.f kj12 l0_0 l0_1 l0_2 l0_3 t346).bind fun t351 => (cellarlaw9_MemStores.l1 kj12 t342 x4_1 t346 t350 t351 0 l0_0 l0_1 l0_2 l0_3)))) else (none)) else (none)) = some r := by rw [if_pos rfl] at H; exact H
  clear H
  have H := H1
  clear H1
  by_cases c18 : 0 ≤ x4_1
  rotate_left
  ·rw [if_neg c18] at H
   exact absurd H (by simp)
  rw [if_pos c18] at H
  have c18b0 : decide (0 ≤ x4_1) = true := decide_eq_true c18
  clear c18
  by_cases c19 : x4_1 < (l0_0.length : Int)
  rotate_left
  ·rw [if_neg c19] at H
   exact absurd H (by simp)
  rw [if_pos c19] at H
  have c19b0 : decide (x4_1 < (l0_0.length : Int)) = true := decide_eq_true c19
  clear c19
  replace H := Option.bind_eq_some_iff.mp H
  obtain ⟨t346, A200, H⟩ := H
  replace H : ((cellarref7_Mem.f kj12 (rd_L4 l0_0 x4_1)).bind fun t350 => ((cellarlaw9_pointers.f kj12 l0_0 l0_1 l0_2 l0_3 t346).bind fun t351 => (cellarlaw9_MemStores.l1 kj12 t342 x4_1 t346 t350 t351 0 l0_0 l0_1 l0_2 l0_3))) = some r := H
  have A20 := Aside0.mk A200
  clear A200
  replace H := Option.bind_eq_some_iff.mp H
  obtain ⟨t350, A210, H⟩ := H
  replace H : ((cellarlaw9_pointers.f kj12 l0_0 l0_1 l0_2 l0_3 t346).bind fun t351 => (cellarlaw9_MemStores.l1 kj12 t342 x4_1 t346 t350 t351 0 l0_0 l0_1 l0_2 l0_3)) = some r := H
  have A21 := Aside0.mk A210
  clear A210
  replace H := Option.bind_eq_some_iff.mp H
  obtain ⟨t351, A220, H⟩ := H
  replace H : (cellarlaw9_MemStores.l1 kj12 t342 x4_1 t346 t350 t351 0 l0_0 l0_1 l0_2 l0_3) = some r := H
  have A22 := Aside0.mk A220
  clear A220
  have H' := Aside0.mk H
  clear H
  have hcz23_0 := zc BK340.out 0
  have hcz23_1 := zc BK340.out 1
  have hcz23_2 := zc BK340.out 2
  have hcz23_3 := zc BK340.out 3
  have hfz23_0 := blk_frozen BK340.out 0
  have hfz23_1 := blk_frozen BK340.out 1
  have hfz23_2 := blk_frozen BK340.out 2
  have hfz23_3 := blk_frozen BK340.out 3
  have p345 : 0 ≤ (x4_1 : Int) := zdec
  have q345 : x4_1 < (l0_0.length : Int) := zdec
  obtain ⟨ad345, A345_0, c345_0, e345, hx345_0, hl345_0, hi345_0⟩ := at_L4 HR0_0.out x4_1 p345 q345
  cases e345
  replace hx345_0 := zh HB.out hx345_0
  have HR345_0 := Aside0.mk hi345_0
  have HC345_0 := Aside0.mk hl345_0
  clear hi345_0 hl345_0
  replace p345 := eq_true p345
  replace q345 := eq_true q345
  go_wp2_with (first | ((with_reducible refine gate_callee (f := 27) rfl ?_); refine zgo (some 40) Try.func27 #[.slice A345_0 (rd_L4 l0_0 x4_1).length c345_0] ?_; (with_reducible refine (cellarref0_CopyBlocks.calls kj12 _ _ (rd_L4 l0_0 x4_1) t346 _ ?side1 ?side2 A20.out).mono ?_); (case side1 => repeat (first | exact (Kd.C_below HR345_0.out HB.out) | (with_reducible refine Kd.C_alloc ?_ _) | (with_reducible refine Kd.C_drewN ?_ _) | (with_reducible refine Kd.C_drew ?_))); (case side2 => exact HC345_0.out); rintro e w24 ⟨v347, rfl, ho0, hb⟩; refine ⟨_, rfl, ?_⟩; have n0_ := Aside0.mk (Kd.R_below (by (with_reducible repeat (first | apply Kd.R_alloc | apply Kd.R_drewN | apply Kd.R_drew)); exact HO_3.out) hb); have HO348 := Aside0.mk (Kd.S_lower ho0 (below_size (zw1 HB.out GE340.out))); have n2_ := Aside0.mk (zbb BK340.out hb); have n3_ := Aside0.mk (below_step (zw1 HB.out GE340.out) hb); clear HO_3 BK340 HB; have HO_3 := n0_; have BK340 := n2_; have HB := n3_; clear n0_ n2_ n3_; (try clear hb); (try clear hb2); (try clear hk); (try clear hi); (try clear ho0); have hcz25_0 := zc BK340.out 0; have hcz25_1 := zc BK340.out 1; have hcz25_2 := zc BK340.out 2; have hcz25_3 := zc BK340.out 3; have hfz25_0 := blk_frozen BK340.out 0; have hfz25_1 := blk_frozen BK340.out 1; have hfz25_2 := blk_frozen BK340.out 2; have hfz25_3 := blk_frozen BK340.out 3; have p349 : 0 ≤ (x4_1 : Int) := zdec; have q349 : x4_1 < (l0_0.length : Int) := zdec; obtain ⟨ad349, A349_0, c349_0, e349, hx349_0, hl349_0, hi349_0⟩ := at_L4 HR0_0.out x4_1 p349 q349; obtain rfl : ad345 = ad349 := (by injection e349); replace hx349_0 := zh HB.out hx349_0; have HR349_0 := Aside0.mk hi349_0; have HC349_0 := Aside0.mk hl349_0; clear hi349_0 hl349_0; replace p349 := eq_true p349; replace q349 := eq_true q349) | ((with_reducible refine gate_callee (f := 28) rfl ?_); refine zgo (some 46) Try.func28 #[.slice A349_0 (rd_L4 l0_0 x4_1).length c349_0] ?_; (with_reducible refine (cellarref7_Mem.calls kj12 _ _ (rd_L4 l0_0 x4_1) t350 _ ?side1 ?side2 A21.out).mono ?_); (case side1 => repeat (first | exact (Kd.C_below HR349_0.out HB.out) | (with_reducible refine Kd.C_alloc ?_ _) | (with_reducible refine Kd.C_drewN ?_ _) | (with_reducible refine Kd.C_drew ?_))); (case side2 => exact HC349_0.out); rintro e w26 ⟨rfl, hb⟩; refine ⟨_, rfl, ?_⟩; have n0_ := Aside0.mk (Kd.R_below (by (with_reducible repeat (first | apply Kd.R_alloc | apply Kd.R_drewN | apply Kd.R_drew)); exact HO_3.out) hb); have n1_ := Aside0.mk (Kd.S_below (by (with_reducible repeat (first | apply Kd.S_alloc | apply Kd.S_drewN | apply Kd.S_drew)); exact HO348.out) hb); have n2_ := Aside0.mk (zbb BK340.out hb); have n3_ := Aside0.mk (below_step (zw1 HB.out GE340.out) hb); clear HO_3 HO348 BK340 HB; have HO_3 := n0_; have HO348 := n1_; have BK340 := n2_; have HB := n3_; clear n0_ n1_ n2_ n3_; (try clear hb); (try clear hb2); (try clear hk); (try clear hi); have hcz27_0 := zc BK340.out 0; have hcz27_1 := zc BK340.out 1; have hcz27_2 := zc BK340.out 2; have hcz27_3 := zc BK340.out 3; have hfz27_0 := blk_frozen BK340.out 0; have hfz27_1 := blk_frozen BK340.out 1; have hfz27_2 := blk_frozen BK340.out 2; have hfz27_3 := blk_frozen BK340.out 3; obtain ⟨Ao28, co28, eo28⟩ := Kd.S_slice HO348.out; subst eo28) | ((with_reducible refine gate_callee (f := 29) rfl ?_); refine zgo (some 49) Try.func29 #[.agg #[.slice (some ad345) l0_0.length c0_0, .slice A0_1 l0_1.length c0_1, .slice A0_2 l0_2.length c0_2, .slice A0_3 l0_3.length c0_3], .slice Ao28 t346.length co28] ?_; (with_reducible refine (cellarlaw9_pointers.calls kj12 _ _ l0_0 _ _ l0_1 _ _ l0_2 _ _ l0_3 _ _ t346 t351 _ ?side1 ?side2 ?side3 ?side4 ?side5 ?side6 ?side7 ?side8 ?side9 ?side10 A22.out).mono ?_); (case side1 => repeat (first | exact (Kd.C_below HR0_0.out HB.out) | (with_reducible refine Kd.C_alloc ?_ _) | (with_reducible refine Kd.C_drewN ?_ _) | (with_reducible refine Kd.C_drew ?_))); (case side2 => exact HC0_0.out); (case side3 => repeat (first | exact (Kd.C_below HR0_1.out HB.out) | (with_reducible refine Kd.C_alloc ?_ _) | (with_reducible refine Kd.C_drewN ?_ _) | (with_reducible refine Kd.C_drew ?_))); (case side4 => exact HC0_1.out); (case side5 => repeat (first | exact (Kd.C_below HR0_2.out HB.out) | (with_reducible refine Kd.C_alloc ?_ _) | (with_reducible refine Kd.C_drewN ?_ _) | (with_reducible refine Kd.C_drew ?_))); (case side6 => exact HC0_2.out); (case side7 => repeat (first | exact (Kd.C_below HR0_3.out HB.out) | (with_reducible refine Kd.C_alloc ?_ _) | (with_reducible refine Kd.C_drewN ?_ _) | (with_reducible refine Kd.C_drew ?_))); (case side8 => exact HC0_3.out); (case side9 => repeat (first | exact (Kd.S_reads' HO348.out).2.2 | (with_reducible refine Kd.C_alloc ?_ _) | (with_reducible refine Kd.C_drewN ?_ _) | (with_reducible refine Kd.C_drew ?_))); (case side10 => exact (Kd.S_reads' HO348.out).2.1); rintro e w29 ⟨v352, rfl, ho0, hb⟩; refine ⟨_, rfl, ?_⟩; have n0_ := Aside0.mk (Kd.R_below (by (with_reducible repeat (first | apply Kd.R_alloc | apply Kd.R_drewN | apply Kd.R_drew)); exact HO_3.out) hb); have n1_ := Aside0.mk (Kd.S_below (by (with_reducible repeat (first | apply Kd.S_alloc | apply Kd.S_drewN | apply Kd.S_drew)); exact HO348.out) hb); have HO353 := Aside0.mk (Kd.R_lower ho0 (below_size (zw1 HB.out GE340.out))); have n3_ := Aside0.mk (zbb BK340.out hb); have n4_ := Aside0.mk (below_step (zw1 HB.out GE340.out) hb); clear HO_3 HO348 BK340 HB; have HO_3 := n0_; have HO348 := n1_; have BK340 := n3_; have HB := n4_; clear n0_ n1_ n3_ n4_; (try clear hb); (try clear hb2); (try clear hk); (try clear hi); (try clear ho0)))
  go_loopg [8] kj12 (fun kq v8 w' => ∃ (x8_3 : Int), v8 = .int .i64 x8_3 ∧ Aside0 (cellarlaw9_MemStores.l1 kq t342 x4_1 t346 t350 t351 x8_3 l0_0 l0_1 l0_2 l0_3 = some r) ∧ Aside0 (kq ≤ kj12) ∧ Aside0 (Kd.R k29 29 w' w.heap.size (fun _ => True) v343 t342) ∧ Aside0 (Kd.S k76 76 w' w.heap.size (fun _ => True) (.slice Ao28 t346.length co28) t346) ∧ Aside0 (Kd.R k62 62 w' w.heap.size (fun _ => True) v352 t351) ∧ Aside0 (w'.heap[gb340]? = some (.cells #[(.slice (some ad345) l0_0.length c0_0), (.slice A0_1 l0_1.length c0_1), (.slice A0_2 l0_2.length c0_2), (.slice A0_3 l0_3.length c0_3)] 54 (0, 0))) ∧ Aside0 (Below w.heap.size w w'))
  case atStart => exact ⟨(0), (zr), H', ⟨Nat.le_refl _⟩, ⟨by (with_reducible repeat (first | apply Kd.R_alloc | apply Kd.R_drewN | apply Kd.R_drew)); exact HO_3.out⟩, ⟨by (with_reducible repeat (first | apply Kd.S_alloc | apply Kd.S_drewN | apply Kd.S_drew)); exact HO348.out⟩, ⟨by (with_reducible repeat (first | apply Kd.R_alloc | apply Kd.R_drewN | apply Kd.R_drew)); exact HO353.out⟩, ⟨zb BK340.out⟩, ⟨zw1 HB.out GE340.out⟩⟩
  case round =>
  rename_i q8_ q9_ _ _ _ _ _ _ _ _ _ _ _ _ _ _ _ _ _ _ _ _ _ _ _ _ _ _ _ _ _ _ _ _ _ _ _ _ _ _ _ _ _ _ _ _ _ _ _ _ _ _ _ _ _ _ _ _ _ _ _ _ _ _ _ _ _ _ _ _ _ _ _ _ _ _ _ _ _ _ _ _ _ _ _ _ _ _ _ _ _ _ _ _ _ _ _ _ _ _ _ _ _ _ _ _ _ _ _ _ _ _ _ _ _ _ _ _ _ _ _ _ _ _ _ _ _ _ _ _ _ q10_ q11_ q12_ q13_ q14_ q15_ q16_
  clear q8_ q9_ q10_
  revert k c0_0 l0_0 A0_1 c0_1 l0_1 A0_2 c0_2 l0_2 A0_3 c0_3 l0_3 r w hu54 hu29 hu62 HC0_0 HR0_1 HC0_1 HR0_2 HC0_2 HR0_3 HC0_3 A2 t342 A7 q1_ gb340 w8 GW340 GE340 hfz9_0 hfz9_1 hfz9_2 hfz9_3 w10 hfz11_0 hfz11_1 hfz11_2 hfz11_3 w12 v343 HO344 q2_ q3_ q4_ q5_ x4_1 k1 q7_ HK1 wc u24 u25 u26 u27 u28 u29 u30 u31 u33 u34 kj12 HJ12 c18b0 c19b0 t346 A20 t350 A21 t351 A22 H' hfz23_0 hfz23_1 hfz23_2 hfz23_3 ad345 A345_0 c345_0 HR0_0 hcz9_0 hcz9_1 hcz9_2 hcz9_3 hcz11_0 hcz11_1 hcz11_2 hcz11_3 q6_ hcz23_0 hcz23_1 hcz23_2 hcz23_3 hx345_0 HR345_0 HC345_0 p345 q345 q11_ q12_ w24 hcz25_0 hcz25_1 hcz25_2 hcz25_3 hfz25_0 hfz25_1 hfz25_2 hfz25_3 A349_0 c349_0 hx349_0 HR349_0 HC349_0 p349 q349 w26 hcz27_0 hcz27_1 hcz27_2 hcz27_3 hfz27_0 hfz27_1 hfz27_2 hfz27_3 Ao28 co28 w29 v352 HO353 HO_3 HO348 BK340 HB e349 gk wr u2 u8 u9 u10 u11 u12 u13 u14 u15 u16 u17 u18 u50 u51 u52 u53 u54 u55 u56 u57 u58 u59 u60 u61 u62 u63 u64 u65 u66 u67 u68 u69 u70 u71 u72 u73 u74 u75 u76 u77 u78 u79 u80 u81 u82 u83 u84 u85 u86 u87 u88 u89 u90 u91 u92 u93 u94 u95 u96 u97 u98 u99 u100 u101 u102 u103 u104 u105 u106 u107 u108 u109 u110 u111 u112 u113 u114 u115 u116 u117 u118 u119 u120 u121 u122 u123 u124 u125 u126 u127 u128 u129 u130 u131 u132 u133 u134 u135 u136 u137 u138 u139 u140 u141 u142 u143 u144 u145 u146 u147 u148 u149 u150 u151 u152 u153 u154 u155 u156 u157 u158 u159 u160 u161 u162 u163 u164 u165 u166 u167 u168 u169 u170 u171 u172 u173 u174 u175 u176 u177 u178 hrel q13_ q14_ q15_ q16_
  exact cutP1.out
 ·replace c17 := Bool.eq_false_iff.mpr c17
  subst c17
  have H1 : ((cellarlaw9_wakes.f kj12).bind fun t387 => (some t387)) = some r := by rw [if_neg (show ¬ (false = true) by decide)] at H; exact H
  clear H
  have H := H1
  clear H1
  replace H := Option.bind_eq_some_iff.mp H
  obtain ⟨t387, A1300, H⟩ := H
  replace H : (some t387) = some r := H
  have A130 := Aside0.mk A1300
  clear A1300
  obtain rfl := Option.some.inj H
  go_wp2_with (first | ((with_reducible refine gate_callee (f := 38) rfl ?_); refine zgo (some 179) Try.func38 #[] ?_; (with_reducible refine (cellarlaw9_wakes.calls kj12  t387 _ A130.out).mono ?_); rintro e w131 ⟨rfl, hb⟩; refine ⟨_, rfl, ?_⟩; have n0_ := Aside0.mk (Kd.R_below (by (with_reducible repeat (first | apply Kd.R_alloc | apply Kd.R_drewN | apply Kd.R_drew)); exact HO_3.out) hb); have n1_ := Aside0.mk (zbb BK340.out hb); have n2_ := Aside0.mk (below_step (zw1 HB.out GE340.out) hb); clear HO_3 BK340 HB; have HO_3 := n0_; have BK340 := n1_; have HB := n2_; clear n0_ n1_ n2_; (try clear hb); (try clear hb2); (try clear hk); (try clear hi)))
  go_ret
  exact ⟨ze, zw1 HB.out GE340.out⟩

end Go.Proofs.Ytjoplkillkhiaaa.St
