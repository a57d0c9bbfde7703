-- Written by this session's own edition of the print.
import Derived.Test.YthhdmanpjeminaaBx0
import Derived.Test.YthhdmanpjeminaaBx1
import Derived.Test.YthhdmanpjeminaaBx2
import Derived.Test.YthhdmanpjeminaaBx3
import Derived.Test.YthhdmanpjeminaaBx5
import Derived.Test.YthhdmanpjeminaaBx6
import Derived.Test.YthhdmanpjeminaaBx7
import Derived.Test.YthhdmanpjeminaaUSq
import Derived.Test.YthhdmanpjeminaaUSq2
import Derived.Test.YthhdmanpjeminaaUSq3
import Derived.Test.YthhdmanpjeminaaBx8
import Derived.Test.YthhdmanpjeminaaCut
import Derived.Test.YthhdmanpjeminaaBy
import Derived.Test.YthhdmanpjeminaaBya
namespace Go.Proofs.Ythhdmanpjeminaa.B
open Go.Proofs.Ythhdmanpjeminaa.Cuts Go.RowKit Go.Proofs.Ythhdmanpjeminaa.Fn Go.Proofs.YthhdmanpjeminaaW.PrintWords Go.Proofs.YthhdmanpjeminaaW.PrintLast Go.Proofs.YthhdmanpjeminaaW.PrintMore
set_option linter.unusedSimpArgs false in
set_option linter.unusedVariables false in
set_option maxHeartbeats 60000000 in
set_option maxRecDepth 100000 in
theorem cellarlaw8_BytesBack.part_ab : cellarlaw8_BytesBack.cut_a.P2 := by
 intro k A0_0 c0_0 l0_0 c0_1 l0_1 A0_2 c0_2 l0_2 r w hu26 hu38 hu33 hu51 HR0_0 HC0_0 HC0_1 HR0_2 HC0_2 A2 q1_ gb183 w7 GW183 GE183 hfz8_0 hfz8_1 hfz8_2 q4_ q5_ q6_ q7_ x3_1 k1 q11_ HK1 u21 u22 u23 u24 u25 u26 u27 u28 u30 u31 kj9 HJ9 q14_ q15_ u34 u35 q16_ q17_ x4_3 k3 q21_ HK3 c15b0 q22_ q23_ wr u2 u18 q24_ q25_ x5_4 k4 q27_ HK4 c16b0 q28_ q29_ q30_ q31_ q33_ c18b0 c19b0 t188 t191 A20 t193 t196 A21 t197 A22 t198 A23 c24b0 c24b1 t199 A25 c26b0 c26b1 t200 t201 t202 t203 t204 t205 A27 t207 t208 t209 t210 t211 t212 A28 HC29 gb185 GW185 GE185 NB183_185 NB185_183 gb186 w31 GW186 GE186 NB183_186 NB186_183 NB185_186 NB186_185 hnb32 hnc32 hnb33 hnc33 hcz34_0 hcz34_1 hfz34_0 hfz34_1 hnb35 hnc35 hcz36_0 hcz36_1 hfz36_0 hfz36_1 ad187 hw187_3 hw187_2 hw187_1 hw187_0 HR0_1 hcz8_0 hcz8_1 hcz8_2 q8_ q18_ q26_ q32_ p187 q187 w38 hx187_0 hx187_1 hx187_2 hx187_3 e192 hw192_3 hw192_2 hw192_1 hw192_0 p192 q192 HT_ HW_ w40 hx192_0 hx192_1 hx192_2 hx192_3 q10_ hHeld w41 nd hcz42_0 hcz42_1 hfz42_0 hfz42_1 Ao43 co43 gb206 w45 GW206 GE206 NB183_206 NB206_183 NB185_206 NB206_185 NB186_206 NB206_186 hnb46 hnc46 hnb47 hnc47 hnb48 hnc48 hcz49_0 hcz49_1 hcz49_2 hcz49_3 hfz49_0 hfz49_1 hfz49_2 hfz49_3 hcz50_0 hcz50_1 hfz50_0 hfz50_1 Ao51 co51 gb213 w53 BK213 GW213 GE213 NB183_213 NB213_183 NB185_213 NB213_185 NB186_213 NB213_186 NB206_213 NB213_206 HO190 HO195 BK183 BK185 BK186 BK206 HB hnb54 hnc54 hnb55 hnc55 hnb56 hnc56 hnb57 hnc57 hcz58_0 hcz58_1 hcz58_2 hcz58_3 hfz58_0 hfz58_1 hfz58_2 hfz58_3 q12_ q13_ q19_ q20_ wc u36 u37 u38 u39 u40 u41 u42 u43 u44 u45 u46 u47 u48 u49 u50 u51 u52 u53 u54 u55 u56 u57 u58 u59 u60 u61 u62 u63 u64 u65 u66 u67 u68 u69 u70 u71 u72 u73 u74 u75 u76 u77 u78 u79 u80 u81 u82 u83 u84 u85 u86 u87 u88 u89 u90 u91 u92 u93 u94 u95 u96 u97 u98 u99 u100 u101 u102 u103 u104 u105 u106 u107 u108 u109 u110 u111 u112 u113 u114 u115 u116 u117 u118 u119 u120 u121 u122 u123 u124 u125 u126 u127 u128 u129 u130 u131 u132 u133 u134 u135 u136 u137 u138 u139 u140 u141 u142 u143 u144 u145 u146 u147 u148 u149 u150 u151 u152 u153 u154 u155 u156 u157 u158 u159 u160 u161 u162 u163 u164 u165 u166 u167 u168 u169 u170 u171 u172 u173 u174 u175 u176 u177 u178 u179 u180 hcut
 clear HC29
 try clear c2; try clear p2; try clear c6; try clear c23; try clear c60; try clear c60b0; try clear c60b1
 obtain ⟨kq, x135_28, rfl, HA, HJ28, HO_8, HO_10, BK183, BK185, BK186, BK206, BK213, HB⟩ := hcut
 cases kq with
 | zero => exact absurd HA.out (by simp [cellarlaw8_BytesBack.j4])
 | succ kj28 =>
  have H := HA.out
  clear HA
  simp only [cellarlaw8_BytesBack.j4] at H
  by_cases c84 : x135_28 = true
  ·subst c84
   have H1 : (some false) = some r := by rw [if_pos rfl] at H; exact H
   clear H
   have H := H1
   clear H1
   obtain rfl := Option.some.inj H
   go_wp2
   go_ret
   exact ⟨ze, by repeat (first | (with_reducible first | exact HB.out | apply below_alloc | apply pw_below_drewN | apply below_drew1 | refine below_set ?_ GE183.out | refine below_set ?_ GE185.out | refine below_set ?_ GE186.out | refine below_set ?_ GE206.out | refine below_set ?_ GE213.out) | exact HB.out)⟩
  replace c84 := Bool.eq_false_iff.mpr c84
  subst c84
  have H1 : (cellarlaw8_BytesBack.l3 kj28 x3_1 x4_3 x5_4 t188 t193 0 l0_0 l0_1 l0_2 false x5_4) = some r := by rw [if_neg (show ¬ (false = true) by decide)] at H; exact H
  clear H
  have H := H1
  clear H1
  have H' := Aside0.mk H
  clear H
  go_wp2
  go_loopg [18] kj28 (fun kq v18 w' => ∃ (x18_6 : Int), v18 = .int .i64 x18_6 ∧ Aside0 (cellarlaw8_BytesBack.l3 kq x3_1 x4_3 x5_4 t188 t193 x18_6 l0_0 l0_1 l0_2 false x5_4 = some r) ∧ Aside0 (kq ≤ kj28) ∧ Aside0 (Kd.R k51 51 w' w.heap.size (fun k_ => some k_ ≠ ((.slice Ao51 t193.length co51) : Value).ownBlock) (.slice Ao43 t188.length co43) t188) ∧ Aside0 (Kd.R k51 51 w' w.heap.size (fun k_ => some k_ ≠ ((.slice Ao43 t188.length co43) : Value).ownBlock) (.slice Ao51 t193.length co51) t193) ∧ Aside0 (w'.heap[gb183]? = some (.cells #[(.slice A0_0 l0_0.length c0_0), (.slice (some ad187) l0_1.length c0_1), (.slice A0_2 l0_2.length c0_2)] 26 (0, 0))) ∧ Aside0 (w'.heap[gb185]? = some (.cells #[.bool false, .int .i64 x5_4] 38 (0, 0))) ∧ Aside0 (w'.heap[gb186]? = some (.cells #[.bool true, .int .i64 x5_4] 38 (0, 0))) ∧ Aside0 (w'.heap[gb206]? = some (.cells #[.bool t200, .int .i64 t201, .int .i64 t202, .int .i64 t203] 33 (0, 0))) ∧ Aside0 (w'.heap[gb213]? = some (.cells #[.bool t207, .int .i64 t208, .int .i64 t209, .int .i64 t210] 33 (0, 0))) ∧ Aside0 (Below w.heap.size w w'))
  case atStart => exact ⟨(0), (zr), H', ⟨Nat.le_refl _⟩, ⟨by (with_reducible repeat (first | apply Kd.R_alloc | apply Kd.R_drewN | apply Kd.R_drew)); exact HO_8.out⟩, ⟨by (with_reducible repeat (first | apply Kd.R_alloc | apply Kd.R_drewN | apply Kd.R_drew)); exact HO_10.out⟩, ⟨zb BK183.out⟩, ⟨zb BK185.out⟩, ⟨zb BK186.out⟩, ⟨zb BK206.out⟩, ⟨zb BK213.out⟩, ⟨by repeat (first | (with_reducible first | exact HB.out | apply below_alloc | apply pw_below_drewN | apply below_drew1 | refine below_set ?_ GE183.out | refine below_set ?_ GE185.out | refine below_set ?_ GE186.out | refine below_set ?_ GE206.out | refine below_set ?_ GE213.out) | exact HB.out)⟩⟩
  case round =>
   clear H'
   try clear c2; try clear p2; try clear c6; try clear c8; try clear c23; try clear c60; try clear c60b0; try clear c60b1; try clear c84; try clear p2
   obtain ⟨x18_6, rfl, HA, HK6, HO_8, HO_10, BK183, BK185, BK186, BK206, BK213, HB⟩ := hrel
   cases gk with
   | zero => exact absurd HA.out (by simp [cellarlaw8_BytesBack.l3])
   | succ k6 =>
    have H := HA.out
    clear HA
    simp only [cellarlaw8_BytesBack.l3] at H
    by_cases c85 : x18_6 < (t188.length : Int)
    ·rw [if_pos c85] at H
     have c85b0 : decide (x18_6 < (t188.length : Int)) = true := decide_eq_true c85
     clear c85
     have HC86 := Aside0.mk H
     clear H
     go_upto_block 7 with (fail)
     go_cut [] (fun wc => ∃ (kq : Nat), Aside0 (cellarlaw8_BytesBack.j6 kq x3_1 x4_3 x5_4 t188 t193 x18_6 l0_0 l0_1 l0_2 false x5_4 = some r) ∧ Aside0 (kq ≤ k6) ∧ Aside0 (Kd.R k51 51 wc w.heap.size (fun k_ => some k_ ≠ ((.slice Ao51 t193.length co51) : Value).ownBlock) (.slice Ao43 t188.length co43) t188) ∧ Aside0 (Kd.R k51 51 wc w.heap.size (fun k_ => some k_ ≠ ((.slice Ao43 t188.length co43) : Value).ownBlock) (.slice Ao51 t193.length co51) t193) ∧ Aside0 (wc.heap[gb183]? = some (.cells #[(.slice A0_0 l0_0.length c0_0), (.slice (some ad187) l0_1.length c0_1), (.slice A0_2 l0_2.length c0_2)] 26 (0, 0))) ∧ Aside0 (wc.heap[gb185]? = some (.cells #[.bool false, .int .i64 x5_4] 38 (0, 0))) ∧ Aside0 (wc.heap[gb186]? = some (.cells #[.bool true, .int .i64 x5_4] 38 (0, 0))) ∧ Aside0 (wc.heap[gb206]? = some (.cells #[.bool t200, .int .i64 t201, .int .i64 t202, .int .i64 t203] 33 (0, 0))) ∧ Aside0 (wc.heap[gb213]? = some (.cells #[.bool t207, .int .i64 t208, .int .i64 t209, .int .i64 t210] 33 (0, 0))) ∧ Aside0 (Below w.heap.size w wc))
     case first =>
      have H := HC86.out
      clear HC86
      by_cases c87 : x4_3 = 7
      ·rw [if_pos c87] at H
       have c87b0 : (x4_3 == 7) = true := beq_iff_eq.mpr c87
       have c87b1 : (x4_3 != 7) = false := bne_eq_false_iff_eq.mpr c87
       clear c87
       (first | rw [c87b0] | rw [c87b1] | (simp only [i64_w, i32_w]; rw [c87b0]) | skip)
       have H' := Aside0.mk H
       clear H
       try go_wp2
       have n0_ := Aside0.mk (Kd.R_drew HO_8.out)
       have n1_ := Aside0.mk (Kd.R_drew HO_10.out)
       have n2_ := Aside0.mk (blk_drew BK183.out)
       have n3_ := Aside0.mk (blk_drew BK185.out)
       have n4_ := Aside0.mk (blk_drew BK186.out)
       have n5_ := Aside0.mk (blk_drew BK206.out)
       have n6_ := Aside0.mk (blk_drew BK213.out)
       have n7_ := Aside0.mk (below_drew1 HB.out)
       clear HO_8
       clear HO_10
       clear BK183
       clear BK185
       clear BK186
       clear BK206
       clear BK213
       clear HB
       have HO_8 := n0_
       have HO_10 := n1_
       have BK183 := n2_
       have BK185 := n3_
       have BK186 := n4_
       have BK206 := n5_
       have BK213 := n6_
       have HB := n7_
       clear n0_ n1_ n2_ n3_ n4_ n5_ n6_ n7_
       refine start_ (n := 17) (S := fun w' => True) (ds := []) cellarlaw8_BytesBack.b67 (by kernel_rfl) rfl rfl trivial (fun hHeld => ?_); refine with_tabW cellarlaw8_BytesBack.tab25 cellarlaw8_BytesBack.bits25 (fun HT_ HW_ => ?_)
       generalize wr.drew = w88 at HO_8 HO_10 BK183 BK185 BK186 BK206 BK213 HB hHeld ⊢
       refine zq 0 (some 142) HT_ ?_; refine zq 1 (some 143) HT_ ?_; refine zq 2 (some 144) HT_ ?_; refine zu 3 (some 145) HT_ ?_; refine zu 4 (some 146) HT_ ?_; refine zu 5 (some 147) HT_ ?_; refine zu 6 (some 148) HT_ ?_; refine zu 7 (some 149) HT_ ?_; refine zu 8 (some 150) HT_ ?_; refine zu 9 (some 151) HT_ ?_; refine zu 10 (some 152) HT_ ?_; refine zu 11 (some 153) HT_ ?_; refine zu 12 (some 154) HT_ ?_; refine zu 13 (some 155) HT_ ?_; refine zu 14 (some 156) HT_ ?_; refine zu 15 (some 157) HT_ ?_; refine zq 16 (some 158) HT_ ?_
       refine done_ (done_of HT_.out (by kernel_rfl)) ?_
       try go_wp2
       go_meet
       case rel => exact ⟨_, H', ⟨by have := HK1.out; have := HJ9.out; have := HK3.out; have := HK4.out; have := HJ28.out; have := HK6.out; first | omega | exact Nat.le_refl _⟩, ⟨by (with_reducible repeat (first | apply Kd.R_alloc | apply Kd.R_drewN | apply Kd.R_drew)); exact HO_8.out⟩, ⟨by (with_reducible repeat (first | apply Kd.R_alloc | apply Kd.R_drewN | apply Kd.R_drew)); exact HO_10.out⟩, ⟨zb BK183.out⟩, ⟨zb BK185.out⟩, ⟨zb BK186.out⟩, ⟨zb BK206.out⟩, ⟨zb BK213.out⟩, ⟨by repeat (first | (with_reducible first | exact HB.out | apply below_alloc | apply pw_below_drewN | apply below_drew1 | refine below_set ?_ GE183.out | refine below_set ?_ GE185.out | refine below_set ?_ GE186.out | refine below_set ?_ GE206.out | refine below_set ?_ GE213.out) | exact HB.out)⟩⟩
      rw [if_neg c87] at H
      have c87b0 : (x4_3 == 7) = false := beq_eq_false_iff_ne.mpr c87
      have c87b1 : (x4_3 != 7) = true := bne_iff_ne.mpr c87
      (first | rw [c87b0] | rw [c87b1] | (simp only [i64_w, i32_w]; rw [c87b0]) | skip)
      by_cases c89 : 0 ≤ x18_6
      rotate_left
      ·rw [if_neg c89] at H
       exact absurd H (by simp)
      rw [if_pos c89] at H
      have c89b0 : decide (0 ≤ x18_6) = true := decide_eq_true c89
      clear c89
      obtain ⟨ji90, hji90⟩ : ∃ j_ : Int, (wrap64 ((wrap64 ((t193.length : Int) - 1)) - x18_6)) = j_ := ⟨_, rfl⟩
      replace H : (if 0 ≤ (ji90) then (if (ji90) < (t193.length : Int) then (if (!(((rd_T51 t188 x18_6).f0) == ((rd_T51 t193 (ji90)).f0)) || (!(((rd_T51 t188 x18_6).f1) == ((rd_T51 t193 (ji90)).f1)) || (!(((rd_T51 t188 x18_6).f2) == ((rd_T51 t193 (ji90)).f2)) || (!(((rd_T51 t188 x18_6).f3) == ((rd_T51 t193 (ji90)).f3)) || (!(((rd_T51 t188 x18_6).f4) == ((rd_T51 t193 (ji90)).f4))))))) = true then (some false) else (cellarlaw8_BytesBack.j6 k6 x3_1 x4_3 x5_4 t188 t193 x18_6 l0_0 l0_1 l0_2 false x5_4)) else (none)) else (none)) = some r := by first | (rw [hji90] at H; exact H) | (simp only [hji90] at H ⊢; exact H)
      have hji90w : (IntKind.i64.wrap ((wrap64 ((t193.length : Int) - 1)) - x18_6)) = ji90 := (i64_w _).trans hji90
      by_cases c91 : 0 ≤ (ji90)
      rotate_left
      ·rw [if_neg c91] at H
       exact absurd H (by simp)
      rw [if_pos c91] at H
      have c91b0 : decide (0 ≤ (ji90)) = true := decide_eq_true c91
      clear c91
      by_cases c92 : (ji90) < (t193.length : Int)
      rotate_left
      ·rw [if_neg c92] at H
       exact absurd H (by simp)
      rw [if_pos c92] at H
      have c92b0 : decide ((ji90) < (t193.length : Int)) = true := decide_eq_true c92
      clear c92
      by_cases c93 : (!(((rd_T51 t188 x18_6).f0) == ((rd_T51 t193 (ji90)).f0)) || (!(((rd_T51 t188 x18_6).f1) == ((rd_T51 t193 (ji90)).f1)) || (!(((rd_T51 t188 x18_6).f2) == ((rd_T51 t193 (ji90)).f2)) || (!(((rd_T51 t188 x18_6).f3) == ((rd_T51 t193 (ji90)).f3)) || (!(((rd_T51 t188 x18_6).f4) == ((rd_T51 t193 (ji90)).f4))))))) = true
      ·rw [if_pos c93] at H
       have c93b0 : (!(((rd_T51 t188 x18_6).f0) == ((rd_T51 t193 (ji90)).f0)) || (!(((rd_T51 t188 x18_6).f1) == ((rd_T51 t193 (ji90)).f1)) || (!(((rd_T51 t188 x18_6).f2) == ((rd_T51 t193 (ji90)).f2)) || (!(((rd_T51 t188 x18_6).f3) == ((rd_T51 t193 (ji90)).f3)) || (!(((rd_T51 t188 x18_6).f4) == ((rd_T51 t193 (ji90)).f4))))))) = true := c93
       clear c93
       obtain rfl := Option.some.inj H
       try go_wp2
       have n0_ := Aside0.mk (Kd.R_drew HO_8.out)
       have n1_ := Aside0.mk (Kd.R_drew HO_10.out)
       have n2_ := Aside0.mk (blk_drew BK183.out)
       have n3_ := Aside0.mk (blk_drew BK185.out)
       have n4_ := Aside0.mk (blk_drew BK186.out)
       have n5_ := Aside0.mk (blk_drew BK206.out)
       have n6_ := Aside0.mk (blk_drew BK213.out)
       have n7_ := Aside0.mk (below_drew1 HB.out)
       clear HO_8
       clear HO_10
       clear BK183
       clear BK185
       clear BK186
       clear BK206
       clear BK213
       clear HB
       have HO_8 := n0_
       have HO_10 := n1_
       have BK183 := n2_
       have BK185 := n3_
       have BK186 := n4_
       have BK206 := n5_
       have BK213 := n6_
       have HB := n7_
       clear n0_ n1_ n2_ n3_ n4_ n5_ n6_ n7_
       have p218 : 0 ≤ (x18_6 : Int) := zdec
       have q218 : x18_6 < (t188.length : Int) := zdec
       obtain ⟨ad218, e218, hx218_0, hx218_1, hx218_2, hx218_3, hx218_4⟩ := at_T51 (Kd.R_reads' HO_8.out).2.2 x18_6 p218 q218
       cases e218
       replace p218 := eq_true p218
       replace q218 := eq_true q218
       have p219 : 0 ≤ ((ji90) : Int) := zdec
       have q219 : (ji90) < (t193.length : Int) := zdec
       obtain ⟨ad219, e219, hx219_0, hx219_1, hx219_2, hx219_3, hx219_4⟩ := at_T51 (Kd.R_reads' HO_10.out).2.2 (ji90) p219 q219
       cases e219
       replace p219 := eq_true p219
       replace q219 := eq_true q219
       refine start_ (n := 17) (S := fun w' => w'.cell? (ad218.add ((x18_6).toNat * 5)) = some (.int .i64 ((rd_T51 t188 x18_6).f0)) ∧ w'.cell? ⟨(ad218.add ((x18_6).toNat * 5)).block, (ad218.add ((x18_6).toNat * 5)).off + 1, none⟩ = some (.int .i64 ((rd_T51 t188 x18_6).f1)) ∧ w'.cell? ⟨(ad218.add ((x18_6).toNat * 5)).block, (ad218.add ((x18_6).toNat * 5)).off + 2, none⟩ = some (.int .i64 ((rd_T51 t188 x18_6).f2)) ∧ w'.cell? ⟨(ad218.add ((x18_6).toNat * 5)).block, (ad218.add ((x18_6).toNat * 5)).off + 3, none⟩ = some (.int .i64 ((rd_T51 t188 x18_6).f3)) ∧ w'.cell? ⟨(ad218.add ((x18_6).toNat * 5)).block, (ad218.add ((x18_6).toNat * 5)).off + 4, none⟩ = some (.int .i64 ((rd_T51 t188 x18_6).f4)) ∧ w'.cell? (ad219.add (((ji90)).toNat * 5)) = some (.int .i64 ((rd_T51 t193 (ji90)).f0)) ∧ w'.cell? ⟨(ad219.add (((ji90)).toNat * 5)).block, (ad219.add (((ji90)).toNat * 5)).off + 1, none⟩ = some (.int .i64 ((rd_T51 t193 (ji90)).f1)) ∧ w'.cell? ⟨(ad219.add (((ji90)).toNat * 5)).block, (ad219.add (((ji90)).toNat * 5)).off + 2, none⟩ = some (.int .i64 ((rd_T51 t193 (ji90)).f2)) ∧ w'.cell? ⟨(ad219.add (((ji90)).toNat * 5)).block, (ad219.add (((ji90)).toNat * 5)).off + 3, none⟩ = some (.int .i64 ((rd_T51 t193 (ji90)).f3)) ∧ w'.cell? ⟨(ad219.add (((ji90)).toNat * 5)).block, (ad219.add (((ji90)).toNat * 5)).off + 4, none⟩ = some (.int .i64 ((rd_T51 t193 (ji90)).f4))) (ds := []) cellarlaw8_BytesBack.b67 (by kernel_rfl) rfl rfl ⟨hx218_0, hx218_1, hx218_2, hx218_3, hx218_4, hx219_0, hx219_1, hx219_2, hx219_3, hx219_4⟩ (fun hHeld => ?_); refine with_tabW cellarlaw8_BytesBack.tab25 cellarlaw8_BytesBack.bits25 (fun HT_ HW_ => ?_)
       generalize wr.drew = w94 at HO_8 HO_10 BK183 BK185 BK186 BK206 BK213 HB hx218_0 hx218_1 hx218_2 hx218_3 hx218_4 hx219_0 hx219_1 hx219_2 hx219_3 hx219_4 hHeld ⊢
       refine zq 0 (some 142) HT_ ?_; refine zq 1 (some 143) HT_ ?_; refine zq 2 (some 144) HT_ ?_; refine zq 3 (some 145) HT_ ?_; refine zq 4 (some 146) HT_ ?_; refine zq 5 (some 147) HT_ ?_; refine zq 7 (some 149) HT_ ?_; refine zq 8 (some 150) HT_ ?_; refine zq 9 (some 151) HT_ ?_; refine zq 10 (some 152) HT_ ?_; refine zq 11 (some 153) HT_ ?_; refine zq 12 (some 154) HT_ ?_; refine zq 13 (some 155) HT_ ?_; refine zt 6 (some 148) HT_ HW_ hHeld ?_; refine zt 14 (some 156) HT_ HW_ hHeld ?_; refine zq 15 (some 157) (v := .bool true) HT_ ?_ (hy := by (refine Or.inl ⟨by rfl, ?_⟩; intro w'; go_simp; first | exact imp5 c93b0 | exact itb5 c93b0)); refine zq 16 (some 158) HT_ ?_
       refine done_ (done_of HT_.out (by kernel_rfl)) ?_
       try go_wp2
       go_ret
       exact ⟨by first | rfl | (simp [errW_none, errW_some] <;> rfl) | (simp only [← hji90]; first | rfl | (simp [errW_none, errW_some] <;> rfl)) | (simp [*, errW_none, errW_some] <;> rfl), by repeat (first | (with_reducible first | exact HB.out | apply below_alloc | apply pw_below_drewN | apply below_drew1 | refine below_set ?_ GE183.out | refine below_set ?_ GE185.out | refine below_set ?_ GE186.out | refine below_set ?_ GE206.out | refine below_set ?_ GE213.out) | exact HB.out)⟩
      rw [if_neg c93] at H
      have c93b0 : (!(((rd_T51 t188 x18_6).f0) == ((rd_T51 t193 (ji90)).f0)) || (!(((rd_T51 t188 x18_6).f1) == ((rd_T51 t193 (ji90)).f1)) || (!(((rd_T51 t188 x18_6).f2) == ((rd_T51 t193 (ji90)).f2)) || (!(((rd_T51 t188 x18_6).f3) == ((rd_T51 t193 (ji90)).f3)) || (!(((rd_T51 t188 x18_6).f4) == ((rd_T51 t193 (ji90)).f4))))))) = false := by simpa using c93
      have c93e_ : ((rd_T51 t188 x18_6).f0) = ((rd_T51 t193 (ji90)).f0) ∧ ((rd_T51 t188 x18_6).f1) = ((rd_T51 t193 (ji90)).f1) ∧ ((rd_T51 t188 x18_6).f2) = ((rd_T51 t193 (ji90)).f2) ∧ ((rd_T51 t188 x18_6).f3) = ((rd_T51 t193 (ji90)).f3) ∧ ((rd_T51 t188 x18_6).f4) = ((rd_T51 t193 (ji90)).f4) := by simpa using c93b0
      obtain ⟨c93e0, c93e1, c93e2, c93e3, c93e4⟩ := c93e_
      replace c93e0 := eq_true c93e0
      replace c93e1 := eq_true c93e1
      replace c93e2 := eq_true c93e2
      replace c93e3 := eq_true c93e3
      replace c93e4 := eq_true c93e4
      clear c93
      have H' := Aside0.mk H
      clear H
      try go_wp2
      have n0_ := Aside0.mk (Kd.R_drew HO_8.out)
      have n1_ := Aside0.mk (Kd.R_drew HO_10.out)
      have n2_ := Aside0.mk (blk_drew BK183.out)
      have n3_ := Aside0.mk (blk_drew BK185.out)
      have n4_ := Aside0.mk (blk_drew BK186.out)
      have n5_ := Aside0.mk (blk_drew BK206.out)
      have n6_ := Aside0.mk (blk_drew BK213.out)
      have n7_ := Aside0.mk (below_drew1 HB.out)
      clear HO_8
      clear HO_10
      clear BK183
      clear BK185
      clear BK186
      clear BK206
      clear BK213
      clear HB
      have HO_8 := n0_
      have HO_10 := n1_
      have BK183 := n2_
      have BK185 := n3_
      have BK186 := n4_
      have BK206 := n5_
      have BK213 := n6_
      have HB := n7_
      clear n0_ n1_ n2_ n3_ n4_ n5_ n6_ n7_
      have p218 : 0 ≤ (x18_6 : Int) := zdec
      have q218 : x18_6 < (t188.length : Int) := zdec
      obtain ⟨ad218, e218, hx218_0, hx218_1, hx218_2, hx218_3, hx218_4⟩ := at_T51 (Kd.R_reads' HO_8.out).2.2 x18_6 p218 q218
      cases e218
      replace p218 := eq_true p218
      replace q218 := eq_true q218
      have p219 : 0 ≤ ((ji90) : Int) := zdec
      have q219 : (ji90) < (t193.length : Int) := zdec
      obtain ⟨ad219, e219, hx219_0, hx219_1, hx219_2, hx219_3, hx219_4⟩ := at_T51 (Kd.R_reads' HO_10.out).2.2 (ji90) p219 q219
      cases e219
      replace p219 := eq_true p219
      replace q219 := eq_true q219
      refine start_ (n := 17) (S := fun w' => w'.cell? (ad218.add ((x18_6).toNat * 5)) = some (.int .i64 ((rd_T51 t188 x18_6).f0)) ∧ w'.cell? ⟨(ad218.add ((x18_6).toNat * 5)).block, (ad218.add ((x18_6).toNat * 5)).off + 1, none⟩ = some (.int .i64 ((rd_T51 t188 x18_6).f1)) ∧ w'.cell? ⟨(ad218.add ((x18_6).toNat * 5)).block, (ad218.add ((x18_6).toNat * 5)).off + 2, none⟩ = some (.int .i64 ((rd_T51 t188 x18_6).f2)) ∧ w'.cell? ⟨(ad218.add ((x18_6).toNat * 5)).block, (ad218.add ((x18_6).toNat * 5)).off + 3, none⟩ = some (.int .i64 ((rd_T51 t188 x18_6).f3)) ∧ w'.cell? ⟨(ad218.add ((x18_6).toNat * 5)).block, (ad218.add ((x18_6).toNat * 5)).off + 4, none⟩ = some (.int .i64 ((rd_T51 t188 x18_6).f4)) ∧ w'.cell? (ad219.add (((ji90)).toNat * 5)) = some (.int .i64 ((rd_T51 t193 (ji90)).f0)) ∧ w'.cell? ⟨(ad219.add (((ji90)).toNat * 5)).block, (ad219.add (((ji90)).toNat * 5)).off + 1, none⟩ = some (.int .i64 ((rd_T51 t193 (ji90)).f1)) ∧ w'.cell? ⟨(ad219.add (((ji90)).toNat * 5)).block, (ad219.add (((ji90)).toNat * 5)).off + 2, none⟩ = some (.int .i64 ((rd_T51 t193 (ji90)).f2)) ∧ w'.cell? ⟨(ad219.add (((ji90)).toNat * 5)).block, (ad219.add (((ji90)).toNat * 5)).off + 3, none⟩ = some (.int .i64 ((rd_T51 t193 (ji90)).f3)) ∧ w'.cell? ⟨(ad219.add (((ji90)).toNat * 5)).block, (ad219.add (((ji90)).toNat * 5)).off + 4, none⟩ = some (.int .i64 ((rd_T51 t193 (ji90)).f4))) (ds := []) cellarlaw8_BytesBack.b67 (by kernel_rfl) rfl rfl ⟨hx218_0, hx218_1, hx218_2, hx218_3, hx218_4, hx219_0, hx219_1, hx219_2, hx219_3, hx219_4⟩ (fun hHeld => ?_); refine with_tabW cellarlaw8_BytesBack.tab25 cellarlaw8_BytesBack.bits25 (fun HT_ HW_ => ?_)
      generalize wr.drew = w95 at HO_8 HO_10 BK183 BK185 BK186 BK206 BK213 HB hx218_0 hx218_1 hx218_2 hx218_3 hx218_4 hx219_0 hx219_1 hx219_2 hx219_3 hx219_4 hHeld ⊢
      refine zq 0 (some 142) HT_ ?_; refine zq 1 (some 143) HT_ ?_; refine zq 2 (some 144) HT_ ?_; refine zq 3 (some 145) HT_ ?_; refine zq 4 (some 146) HT_ ?_; refine zq 5 (some 147) HT_ ?_; refine zq 7 (some 149) HT_ ?_; refine zq 8 (some 150) HT_ ?_; refine zq 9 (some 151) HT_ ?_; refine zq 10 (some 152) HT_ ?_; refine zq 11 (some 153) HT_ ?_; refine zq 12 (some 154) HT_ ?_; refine zq 13 (some 155) HT_ ?_; refine zt 6 (some 148) HT_ HW_ hHeld ?_; refine zt 14 (some 156) HT_ HW_ hHeld ?_; refine zq 15 (some 157) HT_ ?_; refine zq 16 (some 158) HT_ ?_
      refine done_ (done_of HT_.out (by kernel_rfl)) ?_
      try go_wp2
      go_meet
      case rel => exact ⟨_, H', ⟨by have := HK1.out; have := HJ9.out; have := HK3.out; have := HK4.out; have := HJ28.out; have := HK6.out; first | omega | exact Nat.le_refl _⟩, ⟨by (with_reducible repeat (first | apply Kd.R_alloc | apply Kd.R_drewN | apply Kd.R_drew)); exact HO_8.out⟩, ⟨by (with_reducible repeat (first | apply Kd.R_alloc | apply Kd.R_drewN | apply Kd.R_drew)); exact HO_10.out⟩, ⟨zb BK183.out⟩, ⟨zb BK185.out⟩, ⟨zb BK186.out⟩, ⟨zb BK206.out⟩, ⟨zb BK213.out⟩, ⟨by repeat (first | (with_reducible first | exact HB.out | apply below_alloc | apply pw_below_drewN | apply below_drew1 | refine below_set ?_ GE183.out | refine below_set ?_ GE185.out | refine below_set ?_ GE186.out | refine below_set ?_ GE206.out | refine below_set ?_ GE213.out) | exact HB.out)⟩⟩
     case rest =>
      clear HC86
      try clear c2; try clear p2; try clear q2; try clear c6; try clear p6; try clear c8; try clear c9; try clear p21; try clear q21; try clear c23; try clear c60; try clear c60b0; try clear c60b1; try clear p64; try clear c84; try clear c85; try clear c85b0; try clear c87; try clear c87b0; try clear c87b1; try clear c89; try clear c89b0; try clear c91; try clear c91b0; try clear c92; try clear c92b0; try clear c93; try clear c93b0; try clear p2; try clear p218; try clear p219; try clear q218; try clear q219
      obtain ⟨kq, HA, HJ85, HO_8, HO_10, BK183, BK185, BK186, BK206, BK213, HB⟩ := hcut
      cases kq with
      | zero => exact absurd HA.out (by simp [cellarlaw8_BytesBack.j6])
      | succ kj85 =>
       have H := HA.out
       clear HA
       simp only [cellarlaw8_BytesBack.j6] at H
       have H' := Aside0.mk H
       clear H
       go_wp2
       go_roundg kj85
       case measure => have := HK1.out; have := HJ9.out; have := HK3.out; have := HK4.out; have := HJ28.out; have := HK6.out; have := HJ85.out; omega
       case rel => exact ⟨(wrap64 (x18_6 + 1)), (zr), H', ⟨by have := HK1.out; have := HJ9.out; have := HK3.out; have := HK4.out; have := HJ28.out; have := HK6.out; have := HJ85.out; omega⟩, ⟨by (with_reducible repeat (first | apply Kd.R_alloc | apply Kd.R_drewN | apply Kd.R_drew)); exact HO_8.out⟩, ⟨by (with_reducible repeat (first | apply Kd.R_alloc | apply Kd.R_drewN | apply Kd.R_drew)); exact HO_10.out⟩, ⟨zb BK183.out⟩, ⟨zb BK185.out⟩, ⟨zb BK186.out⟩, ⟨zb BK206.out⟩, ⟨zb BK213.out⟩, ⟨by repeat (first | (with_reducible first | exact HB.out | apply below_alloc | apply pw_below_drewN | apply below_drew1 | refine below_set ?_ GE183.out | refine below_set ?_ GE185.out | refine below_set ?_ GE186.out | refine below_set ?_ GE206.out | refine below_set ?_ GE213.out) | exact HB.out)⟩⟩
    rw [if_neg c85] at H
    have c85b0 : decide (x18_6 < (t188.length : Int)) = false := decide_eq_false c85
    clear c85
    by_cases c96 : (t188.length : Int) = 0
    ·rw [if_pos c96] at H
     exact absurd H (by simp)
    rw [if_neg c96] at H
    have c96b0 : ((t188.length : Int) == 0) = false := beq_eq_false_iff_ne.mpr c96
    have c96b1 : ((t188.length : Int) != 0) = true := bne_iff_ne.mpr c96
    have c96b2 : ¬ (t188 = []) := fun h_ => c96 (by rw [h_]; rfl)
    obtain ⟨ji97, hji97⟩ : ∃ j_ : Int, (Int.tmod x3_1 (t188.length : Int)) = j_ := ⟨_, rfl⟩
    replace H : (if 0 ≤ (ji97) then (if (ji97) < (t188.length : Int) then ((bytes_Get.f k6 false x5_4 x4_3 (t188.set ((ji97) : Int).toNat (⟨0, 0, 0, 0, 0⟩ : S51))).bind fun bt221 => ((cellarlaw8_num.f bt221.2.2.2.2.2).bind fun t227 => (if t227 = 0 then (if bt221.2.2.2.2.1 = 7 then (cellarlaw8_BytesBack.j7 k6 x3_1 x4_3 x5_4 l0_0 l0_1 l0_2) else (some false)) else (some false)))) else (none)) else (none)) = some r := by first | (rw [hji97] at H; exact H) | (simp only [hji97] at H ⊢; exact H)
    by_cases c98 : 0 ≤ (ji97)
    rotate_left
    ·rw [if_neg c98] at H
     exact absurd H (by simp)
    rw [if_pos c98] at H
    have c98b0 : decide (0 ≤ (ji97)) = true := decide_eq_true c98
    clear c98
    by_cases c99 : (ji97) < (t188.length : Int)
    rotate_left
    ·rw [if_neg c99] at H
     exact absurd H (by simp)
    rw [if_pos c99] at H
    have c99b0 : decide ((ji97) < (t188.length : Int)) = true := decide_eq_true c99
    clear c99
    obtain ⟨y220, hy220⟩ : ∃ y_ : List (S51), y_ = (t188.set ((ji97) : Int).toNat (⟨0, 0, 0, 0, 0⟩ : S51)) := ⟨_, rfl⟩
    replace H : ((bytes_Get.f k6 false x5_4 x4_3 y220).bind fun bt221 => ((cellarlaw8_num.f bt221.2.2.2.2.2).bind fun t227 => (if t227 = 0 then (if bt221.2.2.2.2.1 = 7 then (cellarlaw8_BytesBack.j7 k6 x3_1 x4_3 x5_4 l0_0 l0_1 l0_2) else (some false)) else (some false)))) = some r := by first | (rw [hy220]; with_reducible exact H) | (have H2_ := (Option.bind_some _ _).symm.trans H; rw [hy220]; with_reducible exact H2_) | (have H2_ := (Option.bind_some _ _).symm.trans H; with_reducible exact H2_) | with_reducible exact H | (rw [hy220]; exact H) | exact H
    have Ny220 := Aside0.mk hy220
    clear hy220
    replace H := Option.bind_eq_some_iff.mp H
    obtain ⟨⟨t221, t222, t223, t224, t225, t226⟩, A1010, H⟩ := H
    replace H : ((cellarlaw8_num.f t226).bind fun t227 => (if t227 = 0 then (if t225 = 7 then (cellarlaw8_BytesBack.j7 k6 x3_1 x4_3 x5_4 l0_0 l0_1 l0_2) else (some false)) else (some false))) = some r := H
    have A101 := Aside0.mk A1010
    clear A1010
    replace H := Option.bind_eq_some_iff.mp H
    obtain ⟨t227, A1020, H⟩ := H
    replace H : (if t227 = 0 then (if t225 = 7 then (cellarlaw8_BytesBack.j7 k6 x3_1 x4_3 x5_4 l0_0 l0_1 l0_2) else (some false)) else (some false)) = some r := H
    have A102 := Aside0.mk A1020
    clear A1020
    by_cases c103 : t227 = 0
    rotate_left
    ·rw [if_neg c103] at H
     have c103b0 : (t227 == 0) = false := beq_eq_false_iff_ne.mpr c103
     have c103b1 : (t227 != 0) = true := bne_iff_ne.mpr c103
     obtain rfl := Option.some.inj H
     have p100 : 0 ≤ ((ji97) : Int) := zdec
     have q100 : ((ji97) : Int) < ((t188.length : Int) : Int) := zdec
     obtain ⟨go100, co100, eo100, gb100, gl100, cl100, HG100⟩ := Kd.R_form HO_8.out (by omega)
     (first | cases eo100 | (injection eo100 with ea_ en_ ec_; (first | subst ea_ | (injection ea_ with ea_; subst ea_)); subst ec_; clear en_))
     have GB100 := Aside0.mk gb100
     have GG100 := Aside0.mk HG100
     clear gb100 gl100 HG100
     obtain ⟨ce100, hcl100, hM100, hcc100, hfr100⟩ := Kd.R_elem HO_8.out z51 ((ji97) : Int) p100 q100
     obtain rfl := k51_openM hM100
     have hx100_0 : wr.cell? ⟨go100, ((ji97) : Int).toNat * 5, none⟩ = some (.int .i64 ((rd_T51 t188 (ji97)).f0)) := hcc100 0 _ rfl
     have hx100_1 : wr.cell? ⟨go100, ((ji97) : Int).toNat * 5 + 1, none⟩ = some (.int .i64 ((rd_T51 t188 (ji97)).f1)) := hcc100 1 _ rfl
     have hx100_2 : wr.cell? ⟨go100, ((ji97) : Int).toNat * 5 + 2, none⟩ = some (.int .i64 ((rd_T51 t188 (ji97)).f2)) := hcc100 2 _ rfl
     have hx100_3 : wr.cell? ⟨go100, ((ji97) : Int).toNat * 5 + 3, none⟩ = some (.int .i64 ((rd_T51 t188 (ji97)).f3)) := hcc100 3 _ rfl
     have hx100_4 : wr.cell? ⟨go100, ((ji97) : Int).toNat * 5 + 4, none⟩ = some (.int .i64 ((rd_T51 t188 (ji97)).f4)) := hcc100 4 _ rfl
     have hf100_0 : wr.frozen? ⟨go100, ((ji97) : Int).toNat * 5, none⟩ = false := hfr100 0
     have hf100_1 : wr.frozen? ⟨go100, ((ji97) : Int).toNat * 5 + 1, none⟩ = false := hfr100 1
     have hf100_2 : wr.frozen? ⟨go100, ((ji97) : Int).toNat * 5 + 2, none⟩ = false := hfr100 2
     have hf100_3 : wr.frozen? ⟨go100, ((ji97) : Int).toNat * 5 + 3, none⟩ = false := hfr100 3
     have hf100_4 : wr.frozen? ⟨go100, ((ji97) : Int).toNat * 5 + 4, none⟩ = false := hfr100 4
     clear hcl100 hcc100 hfr100 hM100
     replace p100 := eq_true p100
     replace q100 := eq_true q100
     have HX121 := Aside0.mk (show Kd.R k51 51 wr w.heap.size (fun k_ => some k_ ≠ (.slice Ao51 t193.length co51 : Value).ownBlock) (.slice (some ⟨go100, 0, none⟩) t188.length co43) t188 from (by (with_reducible repeat (first | apply Kd.R_alloc | apply Kd.R_drewN | apply Kd.R_drew)); exact HO_8.out))
     obtain ⟨ce121, hcl121, hM121, hcc121, hfr121⟩ := Kd.R_elem HX121.out z51 ((ji97) : Int) (zdec) (by have h_ : ((ji97) : Int) < ((t188.length : Int) : Int) := zdec; first | exact h_ | (have e_ := (Kd.R_reads' HO_8.out).1; omega) | simpa using h_)
     obtain rfl := k51_openM hM121
     have HP121 := Kd.R_seg HX121.out ((ji97) : Int) (zdec) (by have h_ : ((ji97) : Int) < ((t188.length : Int) : Int) := zdec; first | exact h_ | (have e_ := (Kd.R_reads' HO_8.out).1; omega) | simpa using h_) (seg := [.int .i64 0, .int .i64 0, .int .i64 0, .int .i64 0, .int .i64 0]) (j := 0) hcl121 hcc121 (show 5 ≤ 5 from by decide) (x' := (⟨0, 0, 0, 0, 0⟩ : S51)) (k51_mkM _ _ _ (⟨0, 0, 0, 0, 0⟩ : S51) ) (fun _ hk => hk)
     have hx121_0 := hcc121 0 _ rfl
     (try simp only [show (k51).sz = 5 from rfl, Nat.mul_one, Nat.add_zero] at hx121_0)
     have hf121_0 := hfr121 0
     (try simp only [show (k51).sz = 5 from rfl, Nat.mul_one, Nat.add_zero] at hf121_0)
     have hx121_1 := hcc121 1 _ rfl
     (try simp only [show (k51).sz = 5 from rfl, Nat.mul_one, Nat.add_zero] at hx121_1)
     have hf121_1 := hfr121 1
     (try simp only [show (k51).sz = 5 from rfl, Nat.mul_one, Nat.add_zero] at hf121_1)
     have hx121_2 := hcc121 2 _ rfl
     (try simp only [show (k51).sz = 5 from rfl, Nat.mul_one, Nat.add_zero] at hx121_2)
     have hf121_2 := hfr121 2
     (try simp only [show (k51).sz = 5 from rfl, Nat.mul_one, Nat.add_zero] at hf121_2)
     have hx121_3 := hcc121 3 _ rfl
     (try simp only [show (k51).sz = 5 from rfl, Nat.mul_one, Nat.add_zero] at hx121_3)
     have hf121_3 := hfr121 3
     (try simp only [show (k51).sz = 5 from rfl, Nat.mul_one, Nat.add_zero] at hf121_3)
     have hx121_4 := hcc121 4 _ rfl
     (try simp only [show (k51).sz = 5 from rfl, Nat.mul_one, Nat.add_zero] at hx121_4)
     have hf121_4 := hfr121 4
     (try simp only [show (k51).sz = 5 from rfl, Nat.mul_one, Nat.add_zero] at hf121_4)
     clear hcl121 hcc121 hfr121 hM121
     go_wp2_with (first | ((with_reducible refine gate_store (t := 51) (p := 165) rfl ?_); refine store_event (t := 51) (p := 165) (v := ?vo_w122) (w1 := (((((wr.setCell ⟨go100, ((ji97) : Int).toNat * 5, none⟩ (.int .i64 0)).setCell ⟨go100, ((ji97) : Int).toNat * 5 + 1, none⟩ (.int .i64 0)).setCell ⟨go100, ((ji97) : Int).toNat * 5 + 2, none⟩ (.int .i64 0)).setCell ⟨go100, ((ji97) : Int).toNat * 5 + 3, none⟩ (.int .i64 0)).setCell ⟨go100, ((ji97) : Int).toNat * 5 + 4, none⟩ (.int .i64 0))) ?hg ?ho ?hn ?hr ?_; (case ho => rfl); (case hg => rfl); (case hn => rfl); (case hr => first | (go_simp; done) | (go_simp; rfl)); intro w122 hw; have hg : wr.grownBy w122 (some go100) := (by rw [hw]; exact HP121.2); have hp_ : Kd.R k51 51 w122 w.heap.size (fun k_ => some k_ ≠ (.slice Ao51 t193.length co51 : Value).ownBlock) (.slice (some ⟨go100, 0, none⟩) t188.length co43) y220 := (by rw [hw, Ny220.out]; exact HP121.1); clear HP121; have n0_ := Aside0.mk (hp_); have n1_ := Aside0.mk (Kd.R_after (v := (.slice (some ⟨go100, 0, none⟩) t188.length co43)) (v1 := (.slice (some ⟨go100, 0, none⟩) t188.length co43)) (ok := (fun _ => True)) (by (with_reducible repeat (first | apply Kd.R_alloc | apply Kd.R_drewN | apply Kd.R_drew)); exact Kd.R_mono HO_10.out (fun _ hk => ⟨trivial, hk⟩)) hg (.inl rfl)); have n2_ := Aside0.mk (blk_grown (g := gb183) (o := .cells #[.slice A0_0 l0_0.length c0_0, .slice (some ad187) l0_1.length c0_1, .slice A0_2 l0_2.length c0_2] 26 (0, 0)) (zb BK183.out) hg (Kd.R_ne HO_8.out BK183.out (by decide))); have n3_ := Aside0.mk (blk_grown (g := gb185) (o := .cells #[.bool false, .int .i64 x5_4] 38 (0, 0)) (zb BK185.out) hg (Kd.R_ne HO_8.out BK185.out (by decide))); have n4_ := Aside0.mk (blk_grown (g := gb186) (o := .cells #[.bool true, .int .i64 x5_4] 38 (0, 0)) (zb BK186.out) hg (Kd.R_ne HO_8.out BK186.out (by decide))); have n5_ := Aside0.mk (blk_grown (g := gb206) (o := .cells #[.bool t200, .int .i64 t201, .int .i64 t202, .int .i64 t203] 33 (0, 0)) (zb BK206.out) hg (Kd.R_ne HO_8.out BK206.out (by decide))); have n6_ := Aside0.mk (blk_grown (g := gb213) (o := .cells #[.bool t207, .int .i64 t208, .int .i64 t209, .int .i64 t210] 33 (0, 0)) (zb BK213.out) hg (Kd.R_ne HO_8.out BK213.out (by decide))); have n7_ := Aside0.mk ((by rw [hw]; exact below_set (below_set (below_set (below_set (below_set (HB.out) GB100.out) GB100.out) GB100.out) GB100.out) GB100.out : Below w.heap.size w w122)); clear HO_8 HO_10 BK183 BK185 BK186 BK206 BK213 HB; have HO_8 := n0_; have HO_10 := n1_; have BK183 := n2_; have BK185 := n3_; have BK186 := n4_; have BK206 := n5_; have BK213 := n6_; have HB := n7_; clear n0_ n1_ n2_ n3_ n4_ n5_ n6_ n7_; clear hg hw hp_; have hnb123 := NB185_183.out; have hnc123 := NB183_185.out; have hnb124 := NB185_186.out; have hnc124 := NB186_185.out; have hnb125 := NB185_206.out; have hnc125 := NB206_185.out; have hnb126 := NB185_213.out; have hnc126 := NB213_185.out; have hcz127_0 := zc BK185.out 0; have hcz127_1 := zc BK185.out 1; have hfz127_0 := blk_frozen BK185.out 0; have hfz127_1 := blk_frozen BK185.out 1) | ((with_reducible refine gate_callee (f := 17) rfl ?_); refine zgo (some 170) Try.func17 #[.agg #[.bool false, .int .i64 x5_4], .int .i64 x4_3, .slice (some ⟨go100, 0, none⟩) y220.length co43] ?_ (hargs := (by (try simp only [List.map_toArray, List.map_cons, List.map_nil]); first | done | (rw [show y220.length = t188.length from (Kd.R_reads' HO_8.out).1.symm] <;> rfl) | rfl | (simp only [List.length_drop, List.length_take]; rfl))); (with_reducible refine (bytes_Get.calls k6 false x5_4 x4_3 _ _ y220 t221 t222 t223 t224 t225 t226 _ ?side1 ?side2 A101.out).mono ?_); (case side1 => repeat (first | exact (Kd.R_reads' HO_8.out).2.2 | (with_reducible refine Kd.C_alloc ?_ _) | (with_reducible refine Kd.C_drewN ?_ _) | (with_reducible refine Kd.C_drew ?_))); (case side2 => rw [show y220.length = t188.length from (Kd.R_reads' HO_8.out).1.symm]; exact (Kd.R_reads' HO_8.out).2.1); rintro e w128 ⟨rfl, hb⟩; refine ⟨_, rfl, ?_⟩; have n0_ := Aside0.mk (Kd.R_below (by (with_reducible repeat (first | apply Kd.R_alloc | apply Kd.R_drewN | apply Kd.R_drew)); exact HO_8.out) hb); have n1_ := Aside0.mk (Kd.R_below (by (with_reducible repeat (first | apply Kd.R_alloc | apply Kd.R_drewN | apply Kd.R_drew)); exact HO_10.out) hb); have n2_ := Aside0.mk (zbb BK183.out hb); have n3_ := Aside0.mk (zbb BK185.out hb); have n4_ := Aside0.mk (zbb BK186.out hb); have n5_ := Aside0.mk (zbb BK206.out hb); have n6_ := Aside0.mk (zbb BK213.out hb); have n7_ := Aside0.mk (below_step (by repeat (first | (with_reducible first | exact HB.out | apply below_alloc | apply pw_below_drewN | apply below_drew1 | refine below_set ?_ GE183.out | refine below_set ?_ GE185.out | refine below_set ?_ GE186.out | refine below_set ?_ GE206.out | refine below_set ?_ GE213.out) | exact HB.out)) hb); clear HO_8 HO_10 BK183 BK185 BK186 BK206 BK213 HB; have HO_8 := n0_; have HO_10 := n1_; have BK183 := n2_; have BK185 := n3_; have BK186 := n4_; have BK206 := n5_; have BK213 := n6_; have HB := n7_; clear n0_ n1_ n2_ n3_ n4_ n5_ n6_ n7_; (try clear hb); (try clear hb2); (try clear hk); (try clear hi)) | ((with_reducible refine gate_callee (f := 23) rfl ?_); refine zgo (some 175) Try.func23 #[.int .i64 t226] ?_; (with_reducible refine (cellarlaw8_num.calls t226 t227 _ A102.out).mono ?_); rintro e w' ⟨rfl, ⟨nd, rfl⟩⟩; refine ⟨_, rfl, ?_⟩))
     go_ret
     exact ⟨by first | rfl | (simp [errW_none, errW_some] <;> rfl) | (simp only [← hji97]; first | rfl | (simp [errW_none, errW_some] <;> rfl)) | (simp [*, errW_none, errW_some] <;> rfl), by repeat (first | (with_reducible first | exact HB.out | apply below_alloc | apply pw_below_drewN | apply below_drew1 | refine below_set ?_ GE183.out | refine below_set ?_ GE185.out | refine below_set ?_ GE186.out | refine below_set ?_ GE206.out | refine below_set ?_ GE213.out) | exact HB.out)⟩
    rw [if_pos c103] at H
    have c103b0 : (t227 == 0) = true := beq_iff_eq.mpr c103
    have c103b1 : (t227 != 0) = false := bne_eq_false_iff_eq.mpr c103
    clear c103
    by_cases c104 : t225 = 7
    rotate_left
    ·rw [if_neg c104] at H
     have c104b0 : (t225 == 7) = false := beq_eq_false_iff_ne.mpr c104
     have c104b1 : (t225 != 7) = true := bne_iff_ne.mpr c104
     obtain rfl := Option.some.inj H
     have p100 : 0 ≤ ((ji97) : Int) := zdec
     have q100 : ((ji97) : Int) < ((t188.length : Int) : Int) := zdec
     obtain ⟨go100, co100, eo100, gb100, gl100, cl100, HG100⟩ := Kd.R_form HO_8.out (by omega)
     (first | cases eo100 | (injection eo100 with ea_ en_ ec_; (first | subst ea_ | (injection ea_ with ea_; subst ea_)); subst ec_; clear en_))
     have GB100 := Aside0.mk gb100
     have GG100 := Aside0.mk HG100
     clear gb100 gl100 HG100
     obtain ⟨ce100, hcl100, hM100, hcc100, hfr100⟩ := Kd.R_elem HO_8.out z51 ((ji97) : Int) p100 q100
     obtain rfl := k51_openM hM100
     have hx100_0 : wr.cell? ⟨go100, ((ji97) : Int).toNat * 5, none⟩ = some (.int .i64 ((rd_T51 t188 (ji97)).f0)) := hcc100 0 _ rfl
     have hx100_1 : wr.cell? ⟨go100, ((ji97) : Int).toNat * 5 + 1, none⟩ = some (.int .i64 ((rd_T51 t188 (ji97)).f1)) := hcc100 1 _ rfl
     have hx100_2 : wr.cell? ⟨go100, ((ji97) : Int).toNat * 5 + 2, none⟩ = some (.int .i64 ((rd_T51 t188 (ji97)).f2)) := hcc100 2 _ rfl
     have hx100_3 : wr.cell? ⟨go100, ((ji97) : Int).toNat * 5 + 3, none⟩ = some (.int .i64 ((rd_T51 t188 (ji97)).f3)) := hcc100 3 _ rfl
     have hx100_4 : wr.cell? ⟨go100, ((ji97) : Int).toNat * 5 + 4, none⟩ = some (.int .i64 ((rd_T51 t188 (ji97)).f4)) := hcc100 4 _ rfl
     have hf100_0 : wr.frozen? ⟨go100, ((ji97) : Int).toNat * 5, none⟩ = false := hfr100 0
     have hf100_1 : wr.frozen? ⟨go100, ((ji97) : Int).toNat * 5 + 1, none⟩ = false := hfr100 1
     have hf100_2 : wr.frozen? ⟨go100, ((ji97) : Int).toNat * 5 + 2, none⟩ = false := hfr100 2
     have hf100_3 : wr.frozen? ⟨go100, ((ji97) : Int).toNat * 5 + 3, none⟩ = false := hfr100 3
     have hf100_4 : wr.frozen? ⟨go100, ((ji97) : Int).toNat * 5 + 4, none⟩ = false := hfr100 4
     clear hcl100 hcc100 hfr100 hM100
     replace p100 := eq_true p100
     replace q100 := eq_true q100
     have HX113 := Aside0.mk (show Kd.R k51 51 wr w.heap.size (fun k_ => some k_ ≠ (.slice Ao51 t193.length co51 : Value).ownBlock) (.slice (some ⟨go100, 0, none⟩) t188.length co43) t188 from (by (with_reducible repeat (first | apply Kd.R_alloc | apply Kd.R_drewN | apply Kd.R_drew)); exact HO_8.out))
     obtain ⟨ce113, hcl113, hM113, hcc113, hfr113⟩ := Kd.R_elem HX113.out z51 ((ji97) : Int) (zdec) (by have h_ : ((ji97) : Int) < ((t188.length : Int) : Int) := zdec; first | exact h_ | (have e_ := (Kd.R_reads' HO_8.out).1; omega) | simpa using h_)
     obtain rfl := k51_openM hM113
     have HP113 := Kd.R_seg HX113.out ((ji97) : Int) (zdec) (by have h_ : ((ji97) : Int) < ((t188.length : Int) : Int) := zdec; first | exact h_ | (have e_ := (Kd.R_reads' HO_8.out).1; omega) | simpa using h_) (seg := [.int .i64 0, .int .i64 0, .int .i64 0, .int .i64 0, .int .i64 0]) (j := 0) hcl113 hcc113 (show 5 ≤ 5 from by decide) (x' := (⟨0, 0, 0, 0, 0⟩ : S51)) (k51_mkM _ _ _ (⟨0, 0, 0, 0, 0⟩ : S51) ) (fun _ hk => hk)
     have hx113_0 := hcc113 0 _ rfl
     (try simp only [show (k51).sz = 5 from rfl, Nat.mul_one, Nat.add_zero] at hx113_0)
     have hf113_0 := hfr113 0
     (try simp only [show (k51).sz = 5 from rfl, Nat.mul_one, Nat.add_zero] at hf113_0)
     have hx113_1 := hcc113 1 _ rfl
     (try simp only [show (k51).sz = 5 from rfl, Nat.mul_one, Nat.add_zero] at hx113_1)
     have hf113_1 := hfr113 1
     (try simp only [show (k51).sz = 5 from rfl, Nat.mul_one, Nat.add_zero] at hf113_1)
     have hx113_2 := hcc113 2 _ rfl
     (try simp only [show (k51).sz = 5 from rfl, Nat.mul_one, Nat.add_zero] at hx113_2)
     have hf113_2 := hfr113 2
     (try simp only [show (k51).sz = 5 from rfl, Nat.mul_one, Nat.add_zero] at hf113_2)
     have hx113_3 := hcc113 3 _ rfl
     (try simp only [show (k51).sz = 5 from rfl, Nat.mul_one, Nat.add_zero] at hx113_3)
     have hf113_3 := hfr113 3
     (try simp only [show (k51).sz = 5 from rfl, Nat.mul_one, Nat.add_zero] at hf113_3)
     have hx113_4 := hcc113 4 _ rfl
     (try simp only [show (k51).sz = 5 from rfl, Nat.mul_one, Nat.add_zero] at hx113_4)
     have hf113_4 := hfr113 4
     (try simp only [show (k51).sz = 5 from rfl, Nat.mul_one, Nat.add_zero] at hf113_4)
     clear hcl113 hcc113 hfr113 hM113
     go_wp2_with (first | ((with_reducible refine gate_store (t := 51) (p := 165) rfl ?_); refine store_event (t := 51) (p := 165) (v := ?vo_w114) (w1 := (((((wr.setCell ⟨go100, ((ji97) : Int).toNat * 5, none⟩ (.int .i64 0)).setCell ⟨go100, ((ji97) : Int).toNat * 5 + 1, none⟩ (.int .i64 0)).setCell ⟨go100, ((ji97) : Int).toNat * 5 + 2, none⟩ (.int .i64 0)).setCell ⟨go100, ((ji97) : Int).toNat * 5 + 3, none⟩ (.int .i64 0)).setCell ⟨go100, ((ji97) : Int).toNat * 5 + 4, none⟩ (.int .i64 0))) ?hg ?ho ?hn ?hr ?_; (case ho => rfl); (case hg => rfl); (case hn => rfl); (case hr => first | (go_simp; done) | (go_simp; rfl)); intro w114 hw; have hg : wr.grownBy w114 (some go100) := (by rw [hw]; exact HP113.2); have hp_ : Kd.R k51 51 w114 w.heap.size (fun k_ => some k_ ≠ (.slice Ao51 t193.length co51 : Value).ownBlock) (.slice (some ⟨go100, 0, none⟩) t188.length co43) y220 := (by rw [hw, Ny220.out]; exact HP113.1); clear HP113; have n0_ := Aside0.mk (hp_); have n1_ := Aside0.mk (Kd.R_after (v := (.slice (some ⟨go100, 0, none⟩) t188.length co43)) (v1 := (.slice (some ⟨go100, 0, none⟩) t188.length co43)) (ok := (fun _ => True)) (by (with_reducible repeat (first | apply Kd.R_alloc | apply Kd.R_drewN | apply Kd.R_drew)); exact Kd.R_mono HO_10.out (fun _ hk => ⟨trivial, hk⟩)) hg (.inl rfl)); have n2_ := Aside0.mk (blk_grown (g := gb183) (o := .cells #[.slice A0_0 l0_0.length c0_0, .slice (some ad187) l0_1.length c0_1, .slice A0_2 l0_2.length c0_2] 26 (0, 0)) (zb BK183.out) hg (Kd.R_ne HO_8.out BK183.out (by decide))); have n3_ := Aside0.mk (blk_grown (g := gb185) (o := .cells #[.bool false, .int .i64 x5_4] 38 (0, 0)) (zb BK185.out) hg (Kd.R_ne HO_8.out BK185.out (by decide))); have n4_ := Aside0.mk (blk_grown (g := gb186) (o := .cells #[.bool true, .int .i64 x5_4] 38 (0, 0)) (zb BK186.out) hg (Kd.R_ne HO_8.out BK186.out (by decide))); have n5_ := Aside0.mk (blk_grown (g := gb206) (o := .cells #[.bool t200, .int .i64 t201, .int .i64 t202, .int .i64 t203] 33 (0, 0)) (zb BK206.out) hg (Kd.R_ne HO_8.out BK206.out (by decide))); have n6_ := Aside0.mk (blk_grown (g := gb213) (o := .cells #[.bool t207, .int .i64 t208, .int .i64 t209, .int .i64 t210] 33 (0, 0)) (zb BK213.out) hg (Kd.R_ne HO_8.out BK213.out (by decide))); have n7_ := Aside0.mk ((by rw [hw]; exact below_set (below_set (below_set (below_set (below_set (HB.out) GB100.out) GB100.out) GB100.out) GB100.out) GB100.out : Below w.heap.size w w114)); clear HO_8 HO_10 BK183 BK185 BK186 BK206 BK213 HB; have HO_8 := n0_; have HO_10 := n1_; have BK183 := n2_; have BK185 := n3_; have BK186 := n4_; have BK206 := n5_; have BK213 := n6_; have HB := n7_; clear n0_ n1_ n2_ n3_ n4_ n5_ n6_ n7_; clear hg hw hp_; have hnb115 := NB185_183.out; have hnc115 := NB183_185.out; have hnb116 := NB185_186.out; have hnc116 := NB186_185.out; have hnb117 := NB185_206.out; have hnc117 := NB206_185.out; have hnb118 := NB185_213.out; have hnc118 := NB213_185.out; have hcz119_0 := zc BK185.out 0; have hcz119_1 := zc BK185.out 1; have hfz119_0 := blk_frozen BK185.out 0; have hfz119_1 := blk_frozen BK185.out 1) | ((with_reducible refine gate_callee (f := 17) rfl ?_); refine zgo (some 170) Try.func17 #[.agg #[.bool false, .int .i64 x5_4], .int .i64 x4_3, .slice (some ⟨go100, 0, none⟩) y220.length co43] ?_ (hargs := (by (try simp only [List.map_toArray, List.map_cons, List.map_nil]); first | done | (rw [show y220.length = t188.length from (Kd.R_reads' HO_8.out).1.symm] <;> rfl) | rfl | (simp only [List.length_drop, List.length_take]; rfl))); (with_reducible refine (bytes_Get.calls k6 false x5_4 x4_3 _ _ y220 t221 t222 t223 t224 t225 t226 _ ?side1 ?side2 A101.out).mono ?_); (case side1 => repeat (first | exact (Kd.R_reads' HO_8.out).2.2 | (with_reducible refine Kd.C_alloc ?_ _) | (with_reducible refine Kd.C_drewN ?_ _) | (with_reducible refine Kd.C_drew ?_))); (case side2 => rw [show y220.length = t188.length from (Kd.R_reads' HO_8.out).1.symm]; exact (Kd.R_reads' HO_8.out).2.1); rintro e w120 ⟨rfl, hb⟩; refine ⟨_, rfl, ?_⟩; have n0_ := Aside0.mk (Kd.R_below (by (with_reducible repeat (first | apply Kd.R_alloc | apply Kd.R_drewN | apply Kd.R_drew)); exact HO_8.out) hb); have n1_ := Aside0.mk (Kd.R_below (by (with_reducible repeat (first | apply Kd.R_alloc | apply Kd.R_drewN | apply Kd.R_drew)); exact HO_10.out) hb); have n2_ := Aside0.mk (zbb BK183.out hb); have n3_ := Aside0.mk (zbb BK185.out hb); have n4_ := Aside0.mk (zbb BK186.out hb); have n5_ := Aside0.mk (zbb BK206.out hb); have n6_ := Aside0.mk (zbb BK213.out hb); have n7_ := Aside0.mk (below_step (by repeat (first | (with_reducible first | exact HB.out | apply below_alloc | apply pw_below_drewN | apply below_drew1 | refine below_set ?_ GE183.out | refine below_set ?_ GE185.out | refine below_set ?_ GE186.out | refine below_set ?_ GE206.out | refine below_set ?_ GE213.out) | exact HB.out)) hb); clear HO_8 HO_10 BK183 BK185 BK186 BK206 BK213 HB; have HO_8 := n0_; have HO_10 := n1_; have BK183 := n2_; have BK185 := n3_; have BK186 := n4_; have BK206 := n5_; have BK213 := n6_; have HB := n7_; clear n0_ n1_ n2_ n3_ n4_ n5_ n6_ n7_; (try clear hb); (try clear hb2); (try clear hk); (try clear hi)) | ((with_reducible refine gate_callee (f := 23) rfl ?_); refine zgo (some 175) Try.func23 #[.int .i64 t226] ?_; (with_reducible refine (cellarlaw8_num.calls t226 t227 _ A102.out).mono ?_); rintro e w' ⟨rfl, ⟨nd, rfl⟩⟩; refine ⟨_, rfl, ?_⟩))
     go_ret
     exact ⟨by first | rfl | (simp [errW_none, errW_some] <;> rfl) | (simp only [← hji97]; first | rfl | (simp [errW_none, errW_some] <;> rfl)) | (simp [*, errW_none, errW_some] <;> rfl), by repeat (first | (with_reducible first | exact HB.out | apply below_alloc | apply pw_below_drewN | apply below_drew1 | refine below_set ?_ GE183.out | refine below_set ?_ GE185.out | refine below_set ?_ GE186.out | refine below_set ?_ GE206.out | refine below_set ?_ GE213.out) | exact HB.out)⟩
    rw [if_pos c104] at H
    have c104b0 : (t225 == 7) = true := beq_iff_eq.mpr c104
    have c104b1 : (t225 != 7) = false := bne_eq_false_iff_eq.mpr c104
    clear c104
    have H' := Aside0.mk H
    clear H
    have p100 : 0 ≤ ((ji97) : Int) := zdec
    have q100 : ((ji97) : Int) < ((t188.length : Int) : Int) := zdec
    obtain ⟨go100, co100, eo100, gb100, gl100, cl100, HG100⟩ := Kd.R_form HO_8.out (by omega)
    (first | cases eo100 | (injection eo100 with ea_ en_ ec_; (first | subst ea_ | (injection ea_ with ea_; subst ea_)); subst ec_; clear en_))
    have GB100 := Aside0.mk gb100
    have GG100 := Aside0.mk HG100
    clear gb100 gl100 HG100
    obtain ⟨ce100, hcl100, hM100, hcc100, hfr100⟩ := Kd.R_elem HO_8.out z51 ((ji97) : Int) p100 q100
    obtain rfl := k51_openM hM100
    have hx100_0 : wr.cell? ⟨go100, ((ji97) : Int).toNat * 5, none⟩ = some (.int .i64 ((rd_T51 t188 (ji97)).f0)) := hcc100 0 _ rfl
    have hx100_1 : wr.cell? ⟨go100, ((ji97) : Int).toNat * 5 + 1, none⟩ = some (.int .i64 ((rd_T51 t188 (ji97)).f1)) := hcc100 1 _ rfl
    have hx100_2 : wr.cell? ⟨go100, ((ji97) : Int).toNat * 5 + 2, none⟩ = some (.int .i64 ((rd_T51 t188 (ji97)).f2)) := hcc100 2 _ rfl
    have hx100_3 : wr.cell? ⟨go100, ((ji97) : Int).toNat * 5 + 3, none⟩ = some (.int .i64 ((rd_T51 t188 (ji97)).f3)) := hcc100 3 _ rfl
    have hx100_4 : wr.cell? ⟨go100, ((ji97) : Int).toNat * 5 + 4, none⟩ = some (.int .i64 ((rd_T51 t188 (ji97)).f4)) := hcc100 4 _ rfl
    have hf100_0 : wr.frozen? ⟨go100, ((ji97) : Int).toNat * 5, none⟩ = false := hfr100 0
    have hf100_1 : wr.frozen? ⟨go100, ((ji97) : Int).toNat * 5 + 1, none⟩ = false := hfr100 1
    have hf100_2 : wr.frozen? ⟨go100, ((ji97) : Int).toNat * 5 + 2, none⟩ = false := hfr100 2
    have hf100_3 : wr.frozen? ⟨go100, ((ji97) : Int).toNat * 5 + 3, none⟩ = false := hfr100 3
    have hf100_4 : wr.frozen? ⟨go100, ((ji97) : Int).toNat * 5 + 4, none⟩ = false := hfr100 4
    clear hcl100 hcc100 hfr100 hM100
    replace p100 := eq_true p100
    replace q100 := eq_true q100
    have HX105 := Aside0.mk (show Kd.R k51 51 wr w.heap.size (fun k_ => some k_ ≠ (.slice Ao51 t193.length co51 : Value).ownBlock) (.slice (some ⟨go100, 0, none⟩) t188.length co43) t188 from (by (with_reducible repeat (first | apply Kd.R_alloc | apply Kd.R_drewN | apply Kd.R_drew)); exact HO_8.out))
    obtain ⟨ce105, hcl105, hM105, hcc105, hfr105⟩ := Kd.R_elem HX105.out z51 ((ji97) : Int) (zdec) (by have h_ : ((ji97) : Int) < ((t188.length : Int) : Int) := zdec; first | exact h_ | (have e_ := (Kd.R_reads' HO_8.out).1; omega) | simpa using h_)
    obtain rfl := k51_openM hM105
    have HP105 := Kd.R_seg HX105.out ((ji97) : Int) (zdec) (by have h_ : ((ji97) : Int) < ((t188.length : Int) : Int) := zdec; first | exact h_ | (have e_ := (Kd.R_reads' HO_8.out).1; omega) | simpa using h_) (seg := [.int .i64 0, .int .i64 0, .int .i64 0, .int .i64 0, .int .i64 0]) (j := 0) hcl105 hcc105 (show 5 ≤ 5 from by decide) (x' := (⟨0, 0, 0, 0, 0⟩ : S51)) (k51_mkM _ _ _ (⟨0, 0, 0, 0, 0⟩ : S51) ) (fun _ hk => hk)
    have hx105_0 := hcc105 0 _ rfl
    (try simp only [show (k51).sz = 5 from rfl, Nat.mul_one, Nat.add_zero] at hx105_0)
    have hf105_0 := hfr105 0
    (try simp only [show (k51).sz = 5 from rfl, Nat.mul_one, Nat.add_zero] at hf105_0)
    have hx105_1 := hcc105 1 _ rfl
    (try simp only [show (k51).sz = 5 from rfl, Nat.mul_one, Nat.add_zero] at hx105_1)
    have hf105_1 := hfr105 1
    (try simp only [show (k51).sz = 5 from rfl, Nat.mul_one, Nat.add_zero] at hf105_1)
    have hx105_2 := hcc105 2 _ rfl
    (try simp only [show (k51).sz = 5 from rfl, Nat.mul_one, Nat.add_zero] at hx105_2)
    have hf105_2 := hfr105 2
    (try simp only [show (k51).sz = 5 from rfl, Nat.mul_one, Nat.add_zero] at hf105_2)
    have hx105_3 := hcc105 3 _ rfl
    (try simp only [show (k51).sz = 5 from rfl, Nat.mul_one, Nat.add_zero] at hx105_3)
    have hf105_3 := hfr105 3
    (try simp only [show (k51).sz = 5 from rfl, Nat.mul_one, Nat.add_zero] at hf105_3)
    have hx105_4 := hcc105 4 _ rfl
    (try simp only [show (k51).sz = 5 from rfl, Nat.mul_one, Nat.add_zero] at hx105_4)
    have hf105_4 := hfr105 4
    (try simp only [show (k51).sz = 5 from rfl, Nat.mul_one, Nat.add_zero] at hf105_4)
    clear hcl105 hcc105 hfr105 hM105
    go_wp2_with (first | ((with_reducible refine gate_store (t := 51) (p := 165) rfl ?_); refine store_event (t := 51) (p := 165) (v := ?vo_w106) (w1 := (((((wr.setCell ⟨go100, ((ji97) : Int).toNat * 5, none⟩ (.int .i64 0)).setCell ⟨go100, ((ji97) : Int).toNat * 5 + 1, none⟩ (.int .i64 0)).setCell ⟨go100, ((ji97) : Int).toNat * 5 + 2, none⟩ (.int .i64 0)).setCell ⟨go100, ((ji97) : Int).toNat * 5 + 3, none⟩ (.int .i64 0)).setCell ⟨go100, ((ji97) : Int).toNat * 5 + 4, none⟩ (.int .i64 0))) ?hg ?ho ?hn ?hr ?_; (case ho => rfl); (case hg => rfl); (case hn => rfl); (case hr => first | (go_simp; done) | (go_simp; rfl)); intro w106 hw; have hg : wr.grownBy w106 (some go100) := (by rw [hw]; exact HP105.2); have hp_ : Kd.R k51 51 w106 w.heap.size (fun k_ => some k_ ≠ (.slice Ao51 t193.length co51 : Value).ownBlock) (.slice (some ⟨go100, 0, none⟩) t188.length co43) y220 := (by rw [hw, Ny220.out]; exact HP105.1); clear HP105; have n0_ := Aside0.mk (hp_); have n1_ := Aside0.mk (Kd.R_after (v := (.slice (some ⟨go100, 0, none⟩) t188.length co43)) (v1 := (.slice (some ⟨go100, 0, none⟩) t188.length co43)) (ok := (fun _ => True)) (by (with_reducible repeat (first | apply Kd.R_alloc | apply Kd.R_drewN | apply Kd.R_drew)); exact Kd.R_mono HO_10.out (fun _ hk => ⟨trivial, hk⟩)) hg (.inl rfl)); have n2_ := Aside0.mk (blk_grown (g := gb183) (o := .cells #[.slice A0_0 l0_0.length c0_0, .slice (some ad187) l0_1.length c0_1, .slice A0_2 l0_2.length c0_2] 26 (0, 0)) (zb BK183.out) hg (Kd.R_ne HO_8.out BK183.out (by decide))); have n3_ := Aside0.mk (blk_grown (g := gb185) (o := .cells #[.bool false, .int .i64 x5_4] 38 (0, 0)) (zb BK185.out) hg (Kd.R_ne HO_8.out BK185.out (by decide))); have n4_ := Aside0.mk (blk_grown (g := gb186) (o := .cells #[.bool true, .int .i64 x5_4] 38 (0, 0)) (zb BK186.out) hg (Kd.R_ne HO_8.out BK186.out (by decide))); have n5_ := Aside0.mk (blk_grown (g := gb206) (o := .cells #[.bool t200, .int .i64 t201, .int .i64 t202, .int .i64 t203] 33 (0, 0)) (zb BK206.out) hg (Kd.R_ne HO_8.out BK206.out (by decide))); have n6_ := Aside0.mk (blk_grown (g := gb213) (o := .cells #[.bool t207, .int .i64 t208, .int .i64 t209, .int .i64 t210] 33 (0, 0)) (zb BK213.out) hg (Kd.R_ne HO_8.out BK213.out (by decide))); have n7_ := Aside0.mk ((by rw [hw]; exact below_set (below_set (below_set (below_set (below_set (HB.out) GB100.out) GB100.out) GB100.out) GB100.out) GB100.out : Below w.heap.size w w106)); clear HO_8 HO_10 BK183 BK185 BK186 BK206 BK213 HB; have HO_8 := n0_; have HO_10 := n1_; have BK183 := n2_; have BK185 := n3_; have BK186 := n4_; have BK206 := n5_; have BK213 := n6_; have HB := n7_; clear n0_ n1_ n2_ n3_ n4_ n5_ n6_ n7_; clear hg hw hp_; have hnb107 := NB185_183.out; have hnc107 := NB183_185.out; have hnb108 := NB185_186.out; have hnc108 := NB186_185.out; have hnb109 := NB185_206.out; have hnc109 := NB206_185.out; have hnb110 := NB185_213.out; have hnc110 := NB213_185.out; have hcz111_0 := zc BK185.out 0; have hcz111_1 := zc BK185.out 1; have hfz111_0 := blk_frozen BK185.out 0; have hfz111_1 := blk_frozen BK185.out 1) | ((with_reducible refine gate_callee (f := 17) rfl ?_); refine zgo (some 170) Try.func17 #[.agg #[.bool false, .int .i64 x5_4], .int .i64 x4_3, .slice (some ⟨go100, 0, none⟩) y220.length co43] ?_ (hargs := (by (try simp only [List.map_toArray, List.map_cons, List.map_nil]); first | done | (rw [show y220.length = t188.length from (Kd.R_reads' HO_8.out).1.symm] <;> rfl) | rfl | (simp only [List.length_drop, List.length_take]; rfl))); (with_reducible refine (bytes_Get.calls k6 false x5_4 x4_3 _ _ y220 t221 t222 t223 t224 t225 t226 _ ?side1 ?side2 A101.out).mono ?_); (case side1 => repeat (first | exact (Kd.R_reads' HO_8.out).2.2 | (with_reducible refine Kd.C_alloc ?_ _) | (with_reducible refine Kd.C_drewN ?_ _) | (with_reducible refine Kd.C_drew ?_))); (case side2 => rw [show y220.length = t188.length from (Kd.R_reads' HO_8.out).1.symm]; exact (Kd.R_reads' HO_8.out).2.1); rintro e w112 ⟨rfl, hb⟩; refine ⟨_, rfl, ?_⟩; have n0_ := Aside0.mk (Kd.R_below (by (with_reducible repeat (first | apply Kd.R_alloc | apply Kd.R_drewN | apply Kd.R_drew)); exact HO_8.out) hb); have n1_ := Aside0.mk (Kd.R_below (by (with_reducible repeat (first | apply Kd.R_alloc | apply Kd.R_drewN | apply Kd.R_drew)); exact HO_10.out) hb); have n2_ := Aside0.mk (zbb BK183.out hb); have n3_ := Aside0.mk (zbb BK185.out hb); have n4_ := Aside0.mk (zbb BK186.out hb); have n5_ := Aside0.mk (zbb BK206.out hb); have n6_ := Aside0.mk (zbb BK213.out hb); have n7_ := Aside0.mk (below_step (by repeat (first | (with_reducible first | exact HB.out | apply below_alloc | apply pw_below_drewN | apply below_drew1 | refine below_set ?_ GE183.out | refine below_set ?_ GE185.out | refine below_set ?_ GE186.out | refine below_set ?_ GE206.out | refine below_set ?_ GE213.out) | exact HB.out)) hb); clear HO_8 HO_10 BK183 BK185 BK186 BK206 BK213 HB; have HO_8 := n0_; have HO_10 := n1_; have BK183 := n2_; have BK185 := n3_; have BK186 := n4_; have BK206 := n5_; have BK213 := n6_; have HB := n7_; clear n0_ n1_ n2_ n3_ n4_ n5_ n6_ n7_; (try clear hb); (try clear hb2); (try clear hk); (try clear hi)) | ((with_reducible refine gate_callee (f := 23) rfl ?_); refine zgo (some 175) Try.func23 #[.int .i64 t226] ?_; (with_reducible refine (cellarlaw8_num.calls t226 t227 _ A102.out).mono ?_); rintro e w' ⟨rfl, ⟨nd, rfl⟩⟩; refine ⟨_, rfl, ?_⟩))
    go_meet
    case rel => exact ⟨_, H', ⟨by have := HK1.out; have := HJ9.out; have := HK3.out; have := HK4.out; have := HJ28.out; have := HK6.out; first | omega | exact Nat.le_refl _⟩, ⟨zb BK183.out⟩, ⟨by repeat (first | (with_reducible first | exact HB.out | apply below_alloc | apply pw_below_drewN | apply below_drew1 | refine below_set ?_ GE183.out | refine below_set ?_ GE185.out | refine below_set ?_ GE186.out | refine below_set ?_ GE206.out | refine below_set ?_ GE213.out) | exact HB.out)⟩⟩
end Go.Proofs.Ythhdmanpjeminaa.B
