-- Written by this session's own edition of the print.
import Derived.Test.YtjoplkillkhiaaaStx0
import Derived.Test.YtjoplkillkhiaaaStx5
import Derived.Test.YtjoplkillkhiaaaZSq
import Derived.Test.YtjoplkillkhiaaaZSq2
import Derived.Test.YtjoplkillkhiaaaZSq3
namespace Go.Proofs.Ytjoplkillkhiaaa.St
open Go.RowKit Go.Proofs.Ytjoplkillkhiaaa.Fn Go.Proofs.YtjoplkillkhiaaaW.PrintWords Go.Proofs.YtjoplkillkhiaaaW.PrintLast Go.Proofs.YtjoplkillkhiaaaW.PrintMore
attribute [local go_sem] max2_int min2_int max_two min_two max_three min_three max_four min_four   -- for this text's walks alone
set_option linter.unusedVariables false
set_option linter.unusedSimpArgs false

/-! word_Bytes -/
def word_Bytes.f (a0_0 : Bool) (a0_1 : Int) (a1 : Int) : Option (Int) := if a1 = 7 then (some a0_1) else ((word_Of.f a1).bind fun t197 => (some (wrap64 (Int.tdiv t197 8))))
set_option maxHeartbeats 8000000 in
set_option maxRecDepth 100000 in
theorem word_Bytes.calls (a0_0 : Bool) (a0_1 : Int) (a1 : Int) (r : Int) (w : World) (h : word_Bytes.f a0_0 a0_1 a1 = some r) :
  Calls Try.prog 86 #[.agg #[.bool a0_0, .int .i64 a0_1], .int .i64 a1] w fun e w' => e = .returned (.int .i64 r) ∧ Below w.heap.size w w' := by
 have hu29 := Try.underlying29
 have HB := Aside0.mk (Below.refl w.heap.size w)
 have H : (if a1 = 7 then (some a0_1) else ((word_Of.f a1).bind fun t197 => (some (wrap64 (Int.tdiv t197 8))))) = some r := h
 clear h
 by_cases c3 : a1 = 7
 ·rw [if_pos c3] at H
  have c3b0 : (a1 == 7) = true := beq_iff_eq.mpr c3
  have c3b1 : (a1 != 7) = false := bne_eq_false_iff_eq.mpr c3
  clear c3
  obtain rfl := Option.some.inj H
  go_enter Try.func86, Try.ntmps86
  go_wp2_with (first | ((with_reducible refine gate_dst (N := 2) rfl ?_); refine zbox (N := 2) (cs := #[.bool a0_0, .int .i64 a0_1]) (t := 29) ?_; intro gb196 hg w4 hbox hb; have n0_ := Aside0.mk (below_step (zw0 HB.out) hb); have BK196 := Aside0.mk (hbox); have GW196 := Aside0.mk (zg hg (below_size (zw0 HB.out))); have GE196 := GW196; clear HB; have HB := n0_; clear n0_; clear hb hbox hg; have hcz5_0 := zc BK196.out 0; have hcz5_1 := zc BK196.out 1; have hfz5_0 := blk_frozen BK196.out 0; have hfz5_1 := blk_frozen BK196.out 1))
  go_ret
  exact ⟨ze, zw1 HB.out GE196.out⟩
 ·rw [if_neg c3] at H
  have c3b0 : (a1 == 7) = false := beq_eq_false_iff_ne.mpr c3
  have c3b1 : (a1 != 7) = true := bne_iff_ne.mpr c3
  replace H := Option.bind_eq_some_iff.mp H
  obtain ⟨t197, A60, H⟩ := H
  replace H : (some (wrap64 (Int.tdiv t197 8))) = some r := H
  have A6 := Aside0.mk A60
  clear A60
  obtain rfl := Option.some.inj H
  go_enter Try.func86, Try.ntmps86
  go_wp2_with (first | ((with_reducible refine gate_dst (N := 2) rfl ?_); refine zbox (N := 2) (cs := #[.bool a0_0, .int .i64 a0_1]) (t := 29) ?_; intro gb196 hg w7 hbox hb; have n0_ := Aside0.mk (below_step (zw0 HB.out) hb); have BK196 := Aside0.mk (hbox); have GW196 := Aside0.mk (zg hg (below_size (zw0 HB.out))); have GE196 := GW196; clear HB; have HB := n0_; clear n0_; clear hb hbox hg) | ((with_reducible refine gate_callee (f := 99) rfl ?_); refine zgo (some 10) Try.func99 #[.int .i64 a1] ?_; (with_reducible refine (word_Of.calls a1 t197 _ A6.out).mono ?_); rintro e w' ⟨rfl, ⟨nd, rfl⟩⟩; refine ⟨_, rfl, ?_⟩))
  go_ret
  exact ⟨ze, zw1 HB.out GE196.out⟩

/-! mem_Way -/
def mem_Way.f (a0_0 : Bool) (a0_1 : Int) (l1 : List (S76)) (a2_0 : Bool) (a2_1 : Int) (a2_2 : Int) (a2_3 : Int) (a3 : Int) : Option (Int) := (word_Bytes.f a0_0 a0_1 a3).bind fun t200 => (if 0 ≤ a2_2 then (if a2_2 < (l1.length : Int) then (if ((rd_T76 l1 a2_2).f0) = 1 then (if (wrap64 (a2_3 + t200)) > (((rd_T76 l1 a2_2).f1).length : Int) then (some 1) else (if t200 = 0 then (none) else (if (Int.tmod a2_3 t200) = 0 then (some 0) else (some 3)))) else (some 2)) else (none)) else (none))
set_option maxHeartbeats 8000000 in
set_option maxRecDepth 100000 in
theorem mem_Way.calls (a0_0 : Bool) (a0_1 : Int) (A1 : Option Addr) (c1 : Nat) (l1 : List (S76)) (a2_0 : Bool) (a2_1 : Int) (a2_2 : Int) (a2_3 : Int) (a3 : Int) (r : Int) (w : World) (hr1 : Kd.C k76 w A1 l1.length l1) (hc1 : l1.length ≤ c1) (h : mem_Way.f a0_0 a0_1 l1 a2_0 a2_1 a2_2 a2_3 a3 = some r) :
  Calls Try.prog 103 #[.agg #[.bool a0_0, .int .i64 a0_1], .slice A1 l1.length c1, .agg #[.bool a2_0, .int .i64 a2_1, .int .i64 a2_2, .int .i64 a2_3], .int .i64 a3] w fun e w' => e = .returned (.int .i64 r) ∧ Below w.heap.size w w' := by
 have hu29 := Try.underlying29
 have hu62 := Try.underlying62
 have HR1 := Aside0.mk hr1
 have HC1 := Aside0.mk hc1
 clear hr1 hc1
 have HB := Aside0.mk (Below.refl w.heap.size w)
 have H : ((word_Bytes.f a0_0 a0_1 a3).bind fun t200 => (if 0 ≤ a2_2 then (if a2_2 < (l1.length : Int) then (if ((rd_T76 l1 a2_2).f0) = 1 then (if (wrap64 (a2_3 + t200)) > (((rd_T76 l1 a2_2).f1).length : Int) then (some 1) else (if t200 = 0 then (none) else (if (Int.tmod a2_3 t200) = 0 then (some 0) else (some 3)))) else (some 2)) else (none)) else (none))) = some r := h
 clear h
 replace H := Option.bind_eq_some_iff.mp H
 obtain ⟨t200, A50, H⟩ := H
 replace H : (if 0 ≤ a2_2 then (if a2_2 < (l1.length : Int) then (if ((rd_T76 l1 a2_2).f0) = 1 then (if (wrap64 (a2_3 + t200)) > (((rd_T76 l1 a2_2).f1).length : Int) then (some 1) else (if t200 = 0 then (none) else (if (Int.tmod a2_3 t200) = 0 then (some 0) else (some 3)))) else (some 2)) else (none)) else (none)) = some r := H
 have A5 := Aside0.mk A50
 clear A50
 by_cases c6 : 0 ≤ a2_2
 ·rw [if_pos c6] at H
  have c6b0 : decide (0 ≤ a2_2) = true := decide_eq_true c6
  clear c6
  by_cases c7 : a2_2 < (l1.length : Int)
  rotate_left
  ·rw [if_neg c7] at H
   exact absurd H (by simp)
  rw [if_pos c7] at H
  have c7b0 : decide (a2_2 < (l1.length : Int)) = true := decide_eq_true c7
  clear c7
  by_cases c8 : ((rd_T76 l1 a2_2).f0) = 1
  rotate_left
  ·rw [if_neg c8] at H
   have c8b0 : (((rd_T76 l1 a2_2).f0) == 1) = false := beq_eq_false_iff_ne.mpr c8
   have c8b1 : (((rd_T76 l1 a2_2).f0) != 1) = true := bne_iff_ne.mpr c8
   obtain rfl := Option.some.inj H
   go_enter Try.func103, Try.ntmps103
   go_wp2_with (first | ((with_reducible refine gate_dst (N := 4) rfl ?_); refine zbox (N := 4) (cs := #[.bool a0_0, .int .i64 a0_1]) (t := 29) ?_; intro gb198 hg w30 hbox hb; have n0_ := Aside0.mk (below_step (zw0 HB.out) hb); have BK198 := Aside0.mk (hbox); have GW198 := Aside0.mk (zg hg (below_size (zw0 HB.out))); have GE198 := GW198; clear HB; have HB := n0_; clear n0_; clear hb hbox hg) | ((with_reducible refine gate_dst (N := 6) rfl ?_); refine zbox (N := 6) (cs := #[.bool a2_0, .int .i64 a2_1, .int .i64 a2_2, .int .i64 a2_3]) (t := 62) ?_; intro gb199 hg w31 hbox hb; have n0_ := Aside0.mk (zbb BK198.out hb); have n1_ := Aside0.mk (below_step (zw1 HB.out GE198.out) hb); have BK199 := Aside0.mk (hbox); have GW199 := Aside0.mk (zg hg (below_size (zw1 HB.out GE198.out))); have GE199 := GW199; have NB198_199 := Aside0.mk (zlt hg BK198.out); have NB199_198 := Aside0.mk (zgt hg BK198.out); clear BK198 HB; have BK198 := n0_; have HB := n1_; clear n0_ n1_; clear hb hbox hg; have hnb32 := NB198_199.out; have hnc32 := NB199_198.out; have hcz33_0 := zc BK198.out 0; have hcz33_1 := zc BK198.out 1; have hfz33_0 := blk_frozen BK198.out 0; have hfz33_1 := blk_frozen BK198.out 1) | (go_at_call 86; (with_reducible refine (word_Bytes.calls a0_0 a0_1 a3 t200 _ A5.out).mono ?_); rintro e w34 ⟨rfl, hb⟩; have n0_ := Aside0.mk (zbb BK198.out hb); have n1_ := Aside0.mk (zbb BK199.out hb); have n2_ := Aside0.mk (below_step (zw2 HB.out GE198.out GE199.out) hb); clear BK198 BK199 HB; have BK198 := n0_; have BK199 := n1_; have HB := n2_; clear n0_ n1_ n2_; (try clear hb); (try clear hb2); (try clear hk); (try clear hi); have hcz35_0 := zc BK199.out 0; have hcz35_1 := zc BK199.out 1; have hcz35_2 := zc BK199.out 2; have hcz35_3 := zc BK199.out 3; have hfz35_0 := blk_frozen BK199.out 0; have hfz35_1 := blk_frozen BK199.out 1; have hfz35_2 := blk_frozen BK199.out 2; have hfz35_3 := blk_frozen BK199.out 3; have p201 : 0 ≤ (a2_2 : Int) := zdec; have q201 : a2_2 < (l1.length : Int) := zdec; obtain ⟨ad201, A201_1, c201_1, e201, hx201_0, hx201_1, hl201_1, hi201_1⟩ := at_T76 HR1.out a2_2 p201 q201; cases e201; replace hx201_0 := zh HB.out hx201_0; replace hx201_1 := zh HB.out hx201_1; have HR201_1 := Aside0.mk hi201_1; have HC201_1 := Aside0.mk hl201_1; clear hi201_1 hl201_1; replace p201 := eq_true p201; replace q201 := eq_true q201))
   repeat (go_quiet (first | ((with_reducible refine gate_dst (N := 4) rfl ?_); refine zbox (N := 4) (cs := #[.bool a0_0, .int .i64 a0_1]) (t := 29) ?_; intro gb198 hg w30 hbox hb; have n0_ := Aside0.mk (below_step (zw0 HB.out) hb); have BK198 := Aside0.mk (hbox); have GW198 := Aside0.mk (zg hg (below_size (zw0 HB.out))); have GE198 := GW198; clear HB; have HB := n0_; clear n0_; clear hb hbox hg) | ((with_reducible refine gate_dst (N := 6) rfl ?_); refine zbox (N := 6) (cs := #[.bool a2_0, .int .i64 a2_1, .int .i64 a2_2, .int .i64 a2_3]) (t := 62) ?_; intro gb199 hg w31 hbox hb; have n0_ := Aside0.mk (zbb BK198.out hb); have n1_ := Aside0.mk (below_step (zw1 HB.out GE198.out) hb); have BK199 := Aside0.mk (hbox); have GW199 := Aside0.mk (zg hg (below_size (zw1 HB.out GE198.out))); have GE199 := GW199; have NB198_199 := Aside0.mk (zlt hg BK198.out); have NB199_198 := Aside0.mk (zgt hg BK198.out); clear BK198 HB; have BK198 := n0_; have HB := n1_; clear n0_ n1_; clear hb hbox hg; have hnb32 := NB198_199.out; have hnc32 := NB199_198.out; have hcz33_0 := zc BK198.out 0; have hcz33_1 := zc BK198.out 1; have hfz33_0 := blk_frozen BK198.out 0; have hfz33_1 := blk_frozen BK198.out 1) | (go_at_call 86; (with_reducible refine (word_Bytes.calls a0_0 a0_1 a3 t200 _ A5.out).mono ?_); rintro e w34 ⟨rfl, hb⟩; have n0_ := Aside0.mk (zbb BK198.out hb); have n1_ := Aside0.mk (zbb BK199.out hb); have n2_ := Aside0.mk (below_step (zw2 HB.out GE198.out GE199.out) hb); clear BK198 BK199 HB; have BK198 := n0_; have BK199 := n1_; have HB := n2_; clear n0_ n1_ n2_; (try clear hb); (try clear hb2); (try clear hk); (try clear hi); have hcz35_0 := zc BK199.out 0; have hcz35_1 := zc BK199.out 1; have hcz35_2 := zc BK199.out 2; have hcz35_3 := zc BK199.out 3; have hfz35_0 := blk_frozen BK199.out 0; have hfz35_1 := blk_frozen BK199.out 1; have hfz35_2 := blk_frozen BK199.out 2; have hfz35_3 := blk_frozen BK199.out 3; have p201 : 0 ≤ (a2_2 : Int) := zdec; have q201 : a2_2 < (l1.length : Int) := zdec; obtain ⟨ad201, A201_1, c201_1, e201, hx201_0, hx201_1, hl201_1, hi201_1⟩ := at_T76 HR1.out a2_2 p201 q201; cases e201; replace hx201_0 := zh HB.out hx201_0; replace hx201_1 := zh HB.out hx201_1; have HR201_1 := Aside0.mk hi201_1; have HC201_1 := Aside0.mk hl201_1; clear hi201_1 hl201_1; replace p201 := eq_true p201; replace q201 := eq_true q201)); try go_wp2_with (first | ((with_reducible refine gate_dst (N := 4) rfl ?_); refine zbox (N := 4) (cs := #[.bool a0_0, .int .i64 a0_1]) (t := 29) ?_; intro gb198 hg w30 hbox hb; have n0_ := Aside0.mk (below_step (zw0 HB.out) hb); have BK198 := Aside0.mk (hbox); have GW198 := Aside0.mk (zg hg (below_size (zw0 HB.out))); have GE198 := GW198; clear HB; have HB := n0_; clear n0_; clear hb hbox hg) | ((with_reducible refine gate_dst (N := 6) rfl ?_); refine zbox (N := 6) (cs := #[.bool a2_0, .int .i64 a2_1, .int .i64 a2_2, .int .i64 a2_3]) (t := 62) ?_; intro gb199 hg w31 hbox hb; have n0_ := Aside0.mk (zbb BK198.out hb); have n1_ := Aside0.mk (below_step (zw1 HB.out GE198.out) hb); have BK199 := Aside0.mk (hbox); have GW199 := Aside0.mk (zg hg (below_size (zw1 HB.out GE198.out))); have GE199 := GW199; have NB198_199 := Aside0.mk (zlt hg BK198.out); have NB199_198 := Aside0.mk (zgt hg BK198.out); clear BK198 HB; have BK198 := n0_; have HB := n1_; clear n0_ n1_; clear hb hbox hg; have hnb32 := NB198_199.out; have hnc32 := NB199_198.out; have hcz33_0 := zc BK198.out 0; have hcz33_1 := zc BK198.out 1; have hfz33_0 := blk_frozen BK198.out 0; have hfz33_1 := blk_frozen BK198.out 1) | (go_at_call 86; (with_reducible refine (word_Bytes.calls a0_0 a0_1 a3 t200 _ A5.out).mono ?_); rintro e w34 ⟨rfl, hb⟩; have n0_ := Aside0.mk (zbb BK198.out hb); have n1_ := Aside0.mk (zbb BK199.out hb); have n2_ := Aside0.mk (below_step (zw2 HB.out GE198.out GE199.out) hb); clear BK198 BK199 HB; have BK198 := n0_; have BK199 := n1_; have HB := n2_; clear n0_ n1_ n2_; (try clear hb); (try clear hb2); (try clear hk); (try clear hi); have hcz35_0 := zc BK199.out 0; have hcz35_1 := zc BK199.out 1; have hcz35_2 := zc BK199.out 2; have hcz35_3 := zc BK199.out 3; have hfz35_0 := blk_frozen BK199.out 0; have hfz35_1 := blk_frozen BK199.out 1; have hfz35_2 := blk_frozen BK199.out 2; have hfz35_3 := blk_frozen BK199.out 3; have p201 : 0 ≤ (a2_2 : Int) := zdec; have q201 : a2_2 < (l1.length : Int) := zdec; obtain ⟨ad201, A201_1, c201_1, e201, hx201_0, hx201_1, hl201_1, hi201_1⟩ := at_T76 HR1.out a2_2 p201 q201; cases e201; replace hx201_0 := zh HB.out hx201_0; replace hx201_1 := zh HB.out hx201_1; have HR201_1 := Aside0.mk hi201_1; have HC201_1 := Aside0.mk hl201_1; clear hi201_1 hl201_1; replace p201 := eq_true p201; replace q201 := eq_true q201)))
   go_ret
   exact ⟨ze, zw2 HB.out GE198.out GE199.out⟩
  rw [if_pos c8] at H
  have c8b0 : (((rd_T76 l1 a2_2).f0) == 1) = true := beq_iff_eq.mpr c8
  have c8b1 : (((rd_T76 l1 a2_2).f0) != 1) = false := bne_eq_false_iff_eq.mpr c8
  clear c8
  by_cases c9 : (wrap64 (a2_3 + t200)) > (((rd_T76 l1 a2_2).f1).length : Int)
  ·rw [if_pos c9] at H
   have c9b0 : decide ((((rd_T76 l1 a2_2).f1).length : Int) < (wrap64 (a2_3 + t200))) = true := decide_eq_true c9
   clear c9
   obtain rfl := Option.some.inj H
   go_enter Try.func103, Try.ntmps103
   go_wp2_with (first | ((with_reducible refine gate_dst (N := 4) rfl ?_); refine zbox (N := 4) (cs := #[.bool a0_0, .int .i64 a0_1]) (t := 29) ?_; intro gb198 hg w10 hbox hb; have n0_ := Aside0.mk (below_step (zw0 HB.out) hb); have BK198 := Aside0.mk (hbox); have GW198 := Aside0.mk (zg hg (below_size (zw0 HB.out))); have GE198 := GW198; clear HB; have HB := n0_; clear n0_; clear hb hbox hg) | ((with_reducible refine gate_dst (N := 6) rfl ?_); refine zbox (N := 6) (cs := #[.bool a2_0, .int .i64 a2_1, .int .i64 a2_2, .int .i64 a2_3]) (t := 62) ?_; intro gb199 hg w11 hbox hb; have n0_ := Aside0.mk (zbb BK198.out hb); have n1_ := Aside0.mk (below_step (zw1 HB.out GE198.out) hb); have BK199 := Aside0.mk (hbox); have GW199 := Aside0.mk (zg hg (below_size (zw1 HB.out GE198.out))); have GE199 := GW199; have NB198_199 := Aside0.mk (zlt hg BK198.out); have NB199_198 := Aside0.mk (zgt hg BK198.out); clear BK198 HB; have BK198 := n0_; have HB := n1_; clear n0_ n1_; clear hb hbox hg; have hnb12 := NB198_199.out; have hnc12 := NB199_198.out; have hcz13_0 := zc BK198.out 0; have hcz13_1 := zc BK198.out 1; have hfz13_0 := blk_frozen BK198.out 0; have hfz13_1 := blk_frozen BK198.out 1) | (go_at_call 86; (with_reducible refine (word_Bytes.calls a0_0 a0_1 a3 t200 _ A5.out).mono ?_); rintro e w14 ⟨rfl, hb⟩; have n0_ := Aside0.mk (zbb BK198.out hb); have n1_ := Aside0.mk (zbb BK199.out hb); have n2_ := Aside0.mk (below_step (zw2 HB.out GE198.out GE199.out) hb); clear BK198 BK199 HB; have BK198 := n0_; have BK199 := n1_; have HB := n2_; clear n0_ n1_ n2_; (try clear hb); (try clear hb2); (try clear hk); (try clear hi); have hcz15_0 := zc BK199.out 0; have hcz15_1 := zc BK199.out 1; have hcz15_2 := zc BK199.out 2; have hcz15_3 := zc BK199.out 3; have hfz15_0 := blk_frozen BK199.out 0; have hfz15_1 := blk_frozen BK199.out 1; have hfz15_2 := blk_frozen BK199.out 2; have hfz15_3 := blk_frozen BK199.out 3; have p201 : 0 ≤ (a2_2 : Int) := zdec; have q201 : a2_2 < (l1.length : Int) := zdec; obtain ⟨ad201, A201_1, c201_1, e201, hx201_0, hx201_1, hl201_1, hi201_1⟩ := at_T76 HR1.out a2_2 p201 q201; cases e201; replace hx201_0 := zh HB.out hx201_0; replace hx201_1 := zh HB.out hx201_1; have HR201_1 := Aside0.mk hi201_1; have HC201_1 := Aside0.mk hl201_1; clear hi201_1 hl201_1; replace p201 := eq_true p201; replace q201 := eq_true q201; have p202 : 0 ≤ (a2_2 : Int) := zdec; have q202 : a2_2 < (l1.length : Int) := zdec; obtain ⟨ad202, A202_1, c202_1, e202, hx202_0, hx202_1, hl202_1, hi202_1⟩ := at_T76 HR1.out a2_2 p202 q202; obtain rfl : ad201 = ad202 := (by injection e202); replace hx202_0 := zh HB.out hx202_0; replace hx202_1 := zh HB.out hx202_1; have HR202_1 := Aside0.mk hi202_1; have HC202_1 := Aside0.mk hl202_1; clear hi202_1 hl202_1; replace p202 := eq_true p202; replace q202 := eq_true q202; have ea_ := Option.some.inj (hx201_1.symm.trans hx202_1); injection ea_ with ea_ en_ ec_; subst ea_; subst ec_; clear en_))
   repeat (go_quiet (first | ((with_reducible refine gate_dst (N := 4) rfl ?_); refine zbox (N := 4) (cs := #[.bool a0_0, .int .i64 a0_1]) (t := 29) ?_; intro gb198 hg w10 hbox hb; have n0_ := Aside0.mk (below_step (zw0 HB.out) hb); have BK198 := Aside0.mk (hbox); have GW198 := Aside0.mk (zg hg (below_size (zw0 HB.out))); have GE198 := GW198; clear HB; have HB := n0_; clear n0_; clear hb hbox hg) | ((with_reducible refine gate_dst (N := 6) rfl ?_); refine zbox (N := 6) (cs := #[.bool a2_0, .int .i64 a2_1, .int .i64 a2_2, .int .i64 a2_3]) (t := 62) ?_; intro gb199 hg w11 hbox hb; have n0_ := Aside0.mk (zbb BK198.out hb); have n1_ := Aside0.mk (below_step (zw1 HB.out GE198.out) hb); have BK199 := Aside0.mk (hbox); have GW199 := Aside0.mk (zg hg (below_size (zw1 HB.out GE198.out))); have GE199 := GW199; have NB198_199 := Aside0.mk (zlt hg BK198.out); have NB199_198 := Aside0.mk (zgt hg BK198.out); clear BK198 HB; have BK198 := n0_; have HB := n1_; clear n0_ n1_; clear hb hbox hg; have hnb12 := NB198_199.out; have hnc12 := NB199_198.out; have hcz13_0 := zc BK198.out 0; have hcz13_1 := zc BK198.out 1; have hfz13_0 := blk_frozen BK198.out 0; have hfz13_1 := blk_frozen BK198.out 1) | (go_at_call 86; (with_reducible refine (word_Bytes.calls a0_0 a0_1 a3 t200 _ A5.out).mono ?_); rintro e w14 ⟨rfl, hb⟩; have n0_ := Aside0.mk (zbb BK198.out hb); have n1_ := Aside0.mk (zbb BK199.out hb); have n2_ := Aside0.mk (below_step (zw2 HB.out GE198.out GE199.out) hb); clear BK198 BK199 HB; have BK198 := n0_; have BK199 := n1_; have HB := n2_; clear n0_ n1_ n2_; (try clear hb); (try clear hb2); (try clear hk); (try clear hi); have hcz15_0 := zc BK199.out 0; have hcz15_1 := zc BK199.out 1; have hcz15_2 := zc BK199.out 2; have hcz15_3 := zc BK199.out 3; have hfz15_0 := blk_frozen BK199.out 0; have hfz15_1 := blk_frozen BK199.out 1; have hfz15_2 := blk_frozen BK199.out 2; have hfz15_3 := blk_frozen BK199.out 3; have p201 : 0 ≤ (a2_2 : Int) := zdec; have q201 : a2_2 < (l1.length : Int) := zdec; obtain ⟨ad201, A201_1, c201_1, e201, hx201_0, hx201_1, hl201_1, hi201_1⟩ := at_T76 HR1.out a2_2 p201 q201; cases e201; replace hx201_0 := zh HB.out hx201_0; replace hx201_1 := zh HB.out hx201_1; have HR201_1 := Aside0.mk hi201_1; have HC201_1 := Aside0.mk hl201_1; clear hi201_1 hl201_1; replace p201 := eq_true p201; replace q201 := eq_true q201; have p202 : 0 ≤ (a2_2 : Int) := zdec; have q202 : a2_2 < (l1.length : Int) := zdec; obtain ⟨ad202, A202_1, c202_1, e202, hx202_0, hx202_1, hl202_1, hi202_1⟩ := at_T76 HR1.out a2_2 p202 q202; obtain rfl : ad201 = ad202 := (by injection e202); replace hx202_0 := zh HB.out hx202_0; replace hx202_1 := zh HB.out hx202_1; have HR202_1 := Aside0.mk hi202_1; have HC202_1 := Aside0.mk hl202_1; clear hi202_1 hl202_1; replace p202 := eq_true p202; replace q202 := eq_true q202; have ea_ := Option.some.inj (hx201_1.symm.trans hx202_1); injection ea_ with ea_ en_ ec_; subst ea_; subst ec_; clear en_)); try go_wp2_with (first | ((with_reducible refine gate_dst (N := 4) rfl ?_); refine zbox (N := 4) (cs := #[.bool a0_0, .int .i64 a0_1]) (t := 29) ?_; intro gb198 hg w10 hbox hb; have n0_ := Aside0.mk (below_step (zw0 HB.out) hb); have BK198 := Aside0.mk (hbox); have GW198 := Aside0.mk (zg hg (below_size (zw0 HB.out))); have GE198 := GW198; clear HB; have HB := n0_; clear n0_; clear hb hbox hg) | ((with_reducible refine gate_dst (N := 6) rfl ?_); refine zbox (N := 6) (cs := #[.bool a2_0, .int .i64 a2_1, .int .i64 a2_2, .int .i64 a2_3]) (t := 62) ?_; intro gb199 hg w11 hbox hb; have n0_ := Aside0.mk (zbb BK198.out hb); have n1_ := Aside0.mk (below_step (zw1 HB.out GE198.out) hb); have BK199 := Aside0.mk (hbox); have GW199 := Aside0.mk (zg hg (below_size (zw1 HB.out GE198.out))); have GE199 := GW199; have NB198_199 := Aside0.mk (zlt hg BK198.out); have NB199_198 := Aside0.mk (zgt hg BK198.out); clear BK198 HB; have BK198 := n0_; have HB := n1_; clear n0_ n1_; clear hb hbox hg; have hnb12 := NB198_199.out; have hnc12 := NB199_198.out; have hcz13_0 := zc BK198.out 0; have hcz13_1 := zc BK198.out 1; have hfz13_0 := blk_frozen BK198.out 0; have hfz13_1 := blk_frozen BK198.out 1) | (go_at_call 86; (with_reducible refine (word_Bytes.calls a0_0 a0_1 a3 t200 _ A5.out).mono ?_); rintro e w14 ⟨rfl, hb⟩; have n0_ := Aside0.mk (zbb BK198.out hb); have n1_ := Aside0.mk (zbb BK199.out hb); have n2_ := Aside0.mk (below_step (zw2 HB.out GE198.out GE199.out) hb); clear BK198 BK199 HB; have BK198 := n0_; have BK199 := n1_; have HB := n2_; clear n0_ n1_ n2_; (try clear hb); (try clear hb2); (try clear hk); (try clear hi); have hcz15_0 := zc BK199.out 0; have hcz15_1 := zc BK199.out 1; have hcz15_2 := zc BK199.out 2; have hcz15_3 := zc BK199.out 3; have hfz15_0 := blk_frozen BK199.out 0; have hfz15_1 := blk_frozen BK199.out 1; have hfz15_2 := blk_frozen BK199.out 2; have hfz15_3 := blk_frozen BK199.out 3; have p201 : 0 ≤ (a2_2 : Int) := zdec; have q201 : a2_2 < (l1.length : Int) := zdec; obtain ⟨ad201, A201_1, c201_1, e201, hx201_0, hx201_1, hl201_1, hi201_1⟩ := at_T76 HR1.out a2_2 p201 q201; cases e201; replace hx201_0 := zh HB.out hx201_0; replace hx201_1 := zh HB.out hx201_1; have HR201_1 := Aside0.mk hi201_1; have HC201_1 := Aside0.mk hl201_1; clear hi201_1 hl201_1; replace p201 := eq_true p201; replace q201 := eq_true q201; have p202 : 0 ≤ (a2_2 : Int) := zdec; have q202 : a2_2 < (l1.length : Int) := zdec; obtain ⟨ad202, A202_1, c202_1, e202, hx202_0, hx202_1, hl202_1, hi202_1⟩ := at_T76 HR1.out a2_2 p202 q202; obtain rfl : ad201 = ad202 := (by injection e202); replace hx202_0 := zh HB.out hx202_0; replace hx202_1 := zh HB.out hx202_1; have HR202_1 := Aside0.mk hi202_1; have HC202_1 := Aside0.mk hl202_1; clear hi202_1 hl202_1; replace p202 := eq_true p202; replace q202 := eq_true q202; have ea_ := Option.some.inj (hx201_1.symm.trans hx202_1); injection ea_ with ea_ en_ ec_; subst ea_; subst ec_; clear en_)))
   go_ret
   exact ⟨ze, zw2 HB.out GE198.out GE199.out⟩
  rw [if_neg c9] at H
  have c9b0 : decide ((((rd_T76 l1 a2_2).f1).length : Int) < (wrap64 (a2_3 + t200))) = false := decide_eq_false c9
  clear c9
  by_cases c16 : t200 = 0
  ·rw [if_pos c16] at H
   exact absurd H (by simp)
  rw [if_neg c16] at H
  have c16b0 : (t200 == 0) = false := beq_eq_false_iff_ne.mpr c16
  have c16b1 : (t200 != 0) = true := bne_iff_ne.mpr c16
  by_cases c17 : (Int.tmod a2_3 t200) = 0
  rotate_left
  ·rw [if_neg c17] at H
   have c17b0 : ((Int.tmod a2_3 t200) == 0) = false := beq_eq_false_iff_ne.mpr c17
   have c17b1 : ((Int.tmod a2_3 t200) != 0) = true := bne_iff_ne.mpr c17
   obtain rfl := Option.some.inj H
   go_enter Try.func103, Try.ntmps103
   go_wp2_with (first | ((with_reducible refine gate_dst (N := 4) rfl ?_); refine zbox (N := 4) (cs := #[.bool a0_0, .int .i64 a0_1]) (t := 29) ?_; intro gb198 hg w24 hbox hb; have n0_ := Aside0.mk (below_step (zw0 HB.out) hb); have BK198 := Aside0.mk (hbox); have GW198 := Aside0.mk (zg hg (below_size (zw0 HB.out))); have GE198 := GW198; clear HB; have HB := n0_; clear n0_; clear hb hbox hg) | ((with_reducible refine gate_dst (N := 6) rfl ?_); refine zbox (N := 6) (cs := #[.bool a2_0, .int .i64 a2_1, .int .i64 a2_2, .int .i64 a2_3]) (t := 62) ?_; intro gb199 hg w25 hbox hb; have n0_ := Aside0.mk (zbb BK198.out hb); have n1_ := Aside0.mk (below_step (zw1 HB.out GE198.out) hb); have BK199 := Aside0.mk (hbox); have GW199 := Aside0.mk (zg hg (below_size (zw1 HB.out GE198.out))); have GE199 := GW199; have NB198_199 := Aside0.mk (zlt hg BK198.out); have NB199_198 := Aside0.mk (zgt hg BK198.out); clear BK198 HB; have BK198 := n0_; have HB := n1_; clear n0_ n1_; clear hb hbox hg; have hnb26 := NB198_199.out; have hnc26 := NB199_198.out; have hcz27_0 := zc BK198.out 0; have hcz27_1 := zc BK198.out 1; have hfz27_0 := blk_frozen BK198.out 0; have hfz27_1 := blk_frozen BK198.out 1) | (go_at_call 86; (with_reducible refine (word_Bytes.calls a0_0 a0_1 a3 t200 _ A5.out).mono ?_); rintro e w28 ⟨rfl, hb⟩; have n0_ := Aside0.mk (zbb BK198.out hb); have n1_ := Aside0.mk (zbb BK199.out hb); have n2_ := Aside0.mk (below_step (zw2 HB.out GE198.out GE199.out) hb); clear BK198 BK199 HB; have BK198 := n0_; have BK199 := n1_; have HB := n2_; clear n0_ n1_ n2_; (try clear hb); (try clear hb2); (try clear hk); (try clear hi); have hcz29_0 := zc BK199.out 0; have hcz29_1 := zc BK199.out 1; have hcz29_2 := zc BK199.out 2; have hcz29_3 := zc BK199.out 3; have hfz29_0 := blk_frozen BK199.out 0; have hfz29_1 := blk_frozen BK199.out 1; have hfz29_2 := blk_frozen BK199.out 2; have hfz29_3 := blk_frozen BK199.out 3; have p201 : 0 ≤ (a2_2 : Int) := zdec; have q201 : a2_2 < (l1.length : Int) := zdec; obtain ⟨ad201, A201_1, c201_1, e201, hx201_0, hx201_1, hl201_1, hi201_1⟩ := at_T76 HR1.out a2_2 p201 q201; cases e201; replace hx201_0 := zh HB.out hx201_0; replace hx201_1 := zh HB.out hx201_1; have HR201_1 := Aside0.mk hi201_1; have HC201_1 := Aside0.mk hl201_1; clear hi201_1 hl201_1; replace p201 := eq_true p201; replace q201 := eq_true q201; have p202 : 0 ≤ (a2_2 : Int) := zdec; have q202 : a2_2 < (l1.length : Int) := zdec; obtain ⟨ad202, A202_1, c202_1, e202, hx202_0, hx202_1, hl202_1, hi202_1⟩ := at_T76 HR1.out a2_2 p202 q202; obtain rfl : ad201 = ad202 := (by injection e202); replace hx202_0 := zh HB.out hx202_0; replace hx202_1 := zh HB.out hx202_1; have HR202_1 := Aside0.mk hi202_1; have HC202_1 := Aside0.mk hl202_1; clear hi202_1 hl202_1; replace p202 := eq_true p202; replace q202 := eq_true q202; have ea_ := Option.some.inj (hx201_1.symm.trans hx202_1); injection ea_ with ea_ en_ ec_; subst ea_; subst ec_; clear en_))
   repeat (go_quiet (first | ((with_reducible refine gate_dst (N := 4) rfl ?_); refine zbox (N := 4) (cs := #[.bool a0_0, .int .i64 a0_1]) (t := 29) ?_; intro gb198 hg w24 hbox hb; have n0_ := Aside0.mk (below_step (zw0 HB.out) hb); have BK198 := Aside0.mk (hbox); have GW198 := Aside0.mk (zg hg (below_size (zw0 HB.out))); have GE198 := GW198; clear HB; have HB := n0_; clear n0_; clear hb hbox hg) | ((with_reducible refine gate_dst (N := 6) rfl ?_); refine zbox (N := 6) (cs := #[.bool a2_0, .int .i64 a2_1, .int .i64 a2_2, .int .i64 a2_3]) (t := 62) ?_; intro gb199 hg w25 hbox hb; have n0_ := Aside0.mk (zbb BK198.out hb); have n1_ := Aside0.mk (below_step (zw1 HB.out GE198.out) hb); have BK199 := Aside0.mk (hbox); have GW199 := Aside0.mk (zg hg (below_size (zw1 HB.out GE198.out))); have GE199 := GW199; have NB198_199 := Aside0.mk (zlt hg BK198.out); have NB199_198 := Aside0.mk (zgt hg BK198.out); clear BK198 HB; have BK198 := n0_; have HB := n1_; clear n0_ n1_; clear hb hbox hg; have hnb26 := NB198_199.out; have hnc26 := NB199_198.out; have hcz27_0 := zc BK198.out 0; have hcz27_1 := zc BK198.out 1; have hfz27_0 := blk_frozen BK198.out 0; have hfz27_1 := blk_frozen BK198.out 1) | (go_at_call 86; (with_reducible refine (word_Bytes.calls a0_0 a0_1 a3 t200 _ A5.out).mono ?_); rintro e w28 ⟨rfl, hb⟩; have n0_ := Aside0.mk (zbb BK198.out hb); have n1_ := Aside0.mk (zbb BK199.out hb); have n2_ := Aside0.mk (below_step (zw2 HB.out GE198.out GE199.out) hb); clear BK198 BK199 HB; have BK198 := n0_; have BK199 := n1_; have HB := n2_; clear n0_ n1_ n2_; (try clear hb); (try clear hb2); (try clear hk); (try clear hi); have hcz29_0 := zc BK199.out 0; have hcz29_1 := zc BK199.out 1; have hcz29_2 := zc BK199.out 2; have hcz29_3 := zc BK199.out 3; have hfz29_0 := blk_frozen BK199.out 0; have hfz29_1 := blk_frozen BK199.out 1; have hfz29_2 := blk_frozen BK199.out 2; have hfz29_3 := blk_frozen BK199.out 3; have p201 : 0 ≤ (a2_2 : Int) := zdec; have q201 : a2_2 < (l1.length : Int) := zdec; obtain ⟨ad201, A201_1, c201_1, e201, hx201_0, hx201_1, hl201_1, hi201_1⟩ := at_T76 HR1.out a2_2 p201 q201; cases e201; replace hx201_0 := zh HB.out hx201_0; replace hx201_1 := zh HB.out hx201_1; have HR201_1 := Aside0.mk hi201_1; have HC201_1 := Aside0.mk hl201_1; clear hi201_1 hl201_1; replace p201 := eq_true p201; replace q201 := eq_true q201; have p202 : 0 ≤ (a2_2 : Int) := zdec; have q202 : a2_2 < (l1.length : Int) := zdec; obtain ⟨ad202, A202_1, c202_1, e202, hx202_0, hx202_1, hl202_1, hi202_1⟩ := at_T76 HR1.out a2_2 p202 q202; obtain rfl : ad201 = ad202 := (by injection e202); replace hx202_0 := zh HB.out hx202_0; replace hx202_1 := zh HB.out hx202_1; have HR202_1 := Aside0.mk hi202_1; have HC202_1 := Aside0.mk hl202_1; clear hi202_1 hl202_1; replace p202 := eq_true p202; replace q202 := eq_true q202; have ea_ := Option.some.inj (hx201_1.symm.trans hx202_1); injection ea_ with ea_ en_ ec_; subst ea_; subst ec_; clear en_)); try go_wp2_with (first | ((with_reducible refine gate_dst (N := 4) rfl ?_); refine zbox (N := 4) (cs := #[.bool a0_0, .int .i64 a0_1]) (t := 29) ?_; intro gb198 hg w24 hbox hb; have n0_ := Aside0.mk (below_step (zw0 HB.out) hb); have BK198 := Aside0.mk (hbox); have GW198 := Aside0.mk (zg hg (below_size (zw0 HB.out))); have GE198 := GW198; clear HB; have HB := n0_; clear n0_; clear hb hbox hg) | ((with_reducible refine gate_dst (N := 6) rfl ?_); refine zbox (N := 6) (cs := #[.bool a2_0, .int .i64 a2_1, .int .i64 a2_2, .int .i64 a2_3]) (t := 62) ?_; intro gb199 hg w25 hbox hb; have n0_ := Aside0.mk (zbb BK198.out hb); have n1_ := Aside0.mk (below_step (zw1 HB.out GE198.out) hb); have BK199 := Aside0.mk (hbox); have GW199 := Aside0.mk (zg hg (below_size (zw1 HB.out GE198.out))); have GE199 := GW199; have NB198_199 := Aside0.mk (zlt hg BK198.out); have NB199_198 := Aside0.mk (zgt hg BK198.out); clear BK198 HB; have BK198 := n0_; have HB := n1_; clear n0_ n1_; clear hb hbox hg; have hnb26 := NB198_199.out; have hnc26 := NB199_198.out; have hcz27_0 := zc BK198.out 0; have hcz27_1 := zc BK198.out 1; have hfz27_0 := blk_frozen BK198.out 0; have hfz27_1 := blk_frozen BK198.out 1) | (go_at_call 86; (with_reducible refine (word_Bytes.calls a0_0 a0_1 a3 t200 _ A5.out).mono ?_); rintro e w28 ⟨rfl, hb⟩; have n0_ := Aside0.mk (zbb BK198.out hb); have n1_ := Aside0.mk (zbb BK199.out hb); have n2_ := Aside0.mk (below_step (zw2 HB.out GE198.out GE199.out) hb); clear BK198 BK199 HB; have BK198 := n0_; have BK199 := n1_; have HB := n2_; clear n0_ n1_ n2_; (try clear hb); (try clear hb2); (try clear hk); (try clear hi); have hcz29_0 := zc BK199.out 0; have hcz29_1 := zc BK199.out 1; have hcz29_2 := zc BK199.out 2; have hcz29_3 := zc BK199.out 3; have hfz29_0 := blk_frozen BK199.out 0; have hfz29_1 := blk_frozen BK199.out 1; have hfz29_2 := blk_frozen BK199.out 2; have hfz29_3 := blk_frozen BK199.out 3; have p201 : 0 ≤ (a2_2 : Int) := zdec; have q201 : a2_2 < (l1.length : Int) := zdec; obtain ⟨ad201, A201_1, c201_1, e201, hx201_0, hx201_1, hl201_1, hi201_1⟩ := at_T76 HR1.out a2_2 p201 q201; cases e201; replace hx201_0 := zh HB.out hx201_0; replace hx201_1 := zh HB.out hx201_1; have HR201_1 := Aside0.mk hi201_1; have HC201_1 := Aside0.mk hl201_1; clear hi201_1 hl201_1; replace p201 := eq_true p201; replace q201 := eq_true q201; have p202 : 0 ≤ (a2_2 : Int) := zdec; have q202 : a2_2 < (l1.length : Int) := zdec; obtain ⟨ad202, A202_1, c202_1, e202, hx202_0, hx202_1, hl202_1, hi202_1⟩ := at_T76 HR1.out a2_2 p202 q202; obtain rfl : ad201 = ad202 := (by injection e202); replace hx202_0 := zh HB.out hx202_0; replace hx202_1 := zh HB.out hx202_1; have HR202_1 := Aside0.mk hi202_1; have HC202_1 := Aside0.mk hl202_1; clear hi202_1 hl202_1; replace p202 := eq_true p202; replace q202 := eq_true q202; have ea_ := Option.some.inj (hx201_1.symm.trans hx202_1); injection ea_ with ea_ en_ ec_; subst ea_; subst ec_; clear en_)))
   go_ret
   exact ⟨ze, zw2 HB.out GE198.out GE199.out⟩
  rw [if_pos c17] at H
  have c17b0 : ((Int.tmod a2_3 t200) == 0) = true := beq_iff_eq.mpr c17
  have c17b1 : ((Int.tmod a2_3 t200) != 0) = false := bne_eq_false_iff_eq.mpr c17
  clear c17
  obtain rfl := Option.some.inj H
  go_enter Try.func103, Try.ntmps103
  go_wp2_with (first | ((with_reducible refine gate_dst (N := 4) rfl ?_); refine zbox (N := 4) (cs := #[.bool a0_0, .int .i64 a0_1]) (t := 29) ?_; intro gb198 hg w18 hbox hb; have n0_ := Aside0.mk (below_step (zw0 HB.out) hb); have BK198 := Aside0.mk (hbox); have GW198 := Aside0.mk (zg hg (below_size (zw0 HB.out))); have GE198 := GW198; clear HB; have HB := n0_; clear n0_; clear hb hbox hg) | ((with_reducible refine gate_dst (N := 6) rfl ?_); refine zbox (N := 6) (cs := #[.bool a2_0, .int .i64 a2_1, .int .i64 a2_2, .int .i64 a2_3]) (t := 62) ?_; intro gb199 hg w19 hbox hb; have n0_ := Aside0.mk (zbb BK198.out hb); have n1_ := Aside0.mk (below_step (zw1 HB.out GE198.out) hb); have BK199 := Aside0.mk (hbox); have GW199 := Aside0.mk (zg hg (below_size (zw1 HB.out GE198.out))); have GE199 := GW199; have NB198_199 := Aside0.mk (zlt hg BK198.out); have NB199_198 := Aside0.mk (zgt hg BK198.out); clear BK198 HB; have BK198 := n0_; have HB := n1_; clear n0_ n1_; clear hb hbox hg; have hnb20 := NB198_199.out; have hnc20 := NB199_198.out; have hcz21_0 := zc BK198.out 0; have hcz21_1 := zc BK198.out 1; have hfz21_0 := blk_frozen BK198.out 0; have hfz21_1 := blk_frozen BK198.out 1) | (go_at_call 86; (with_reducible refine (word_Bytes.calls a0_0 a0_1 a3 t200 _ A5.out).mono ?_); rintro e w22 ⟨rfl, hb⟩; have n0_ := Aside0.mk (zbb BK198.out hb); have n1_ := Aside0.mk (zbb BK199.out hb); have n2_ := Aside0.mk (below_step (zw2 HB.out GE198.out GE199.out) hb); clear BK198 BK199 HB; have BK198 := n0_; have BK199 := n1_; have HB := n2_; clear n0_ n1_ n2_; (try clear hb); (try clear hb2); (try clear hk); (try clear hi); have hcz23_0 := zc BK199.out 0; have hcz23_1 := zc BK199.out 1; have hcz23_2 := zc BK199.out 2; have hcz23_3 := zc BK199.out 3; have hfz23_0 := blk_frozen BK199.out 0; have hfz23_1 := blk_frozen BK199.out 1; have hfz23_2 := blk_frozen BK199.out 2; have hfz23_3 := blk_frozen BK199.out 3; have p201 : 0 ≤ (a2_2 : Int) := zdec; have q201 : a2_2 < (l1.length : Int) := zdec; obtain ⟨ad201, A201_1, c201_1, e201, hx201_0, hx201_1, hl201_1, hi201_1⟩ := at_T76 HR1.out a2_2 p201 q201; cases e201; replace hx201_0 := zh HB.out hx201_0; replace hx201_1 := zh HB.out hx201_1; have HR201_1 := Aside0.mk hi201_1; have HC201_1 := Aside0.mk hl201_1; clear hi201_1 hl201_1; replace p201 := eq_true p201; replace q201 := eq_true q201; have p202 : 0 ≤ (a2_2 : Int) := zdec; have q202 : a2_2 < (l1.length : Int) := zdec; obtain ⟨ad202, A202_1, c202_1, e202, hx202_0, hx202_1, hl202_1, hi202_1⟩ := at_T76 HR1.out a2_2 p202 q202; obtain rfl : ad201 = ad202 := (by injection e202); replace hx202_0 := zh HB.out hx202_0; replace hx202_1 := zh HB.out hx202_1; have HR202_1 := Aside0.mk hi202_1; have HC202_1 := Aside0.mk hl202_1; clear hi202_1 hl202_1; replace p202 := eq_true p202; replace q202 := eq_true q202; have ea_ := Option.some.inj (hx201_1.symm.trans hx202_1); injection ea_ with ea_ en_ ec_; subst ea_; subst ec_; clear en_))
  repeat (go_quiet (first | ((with_reducible refine gate_dst (N := 4) rfl ?_); refine zbox (N := 4) (cs := #[.bool a0_0, .int .i64 a0_1]) (t := 29) ?_; intro gb198 hg w18 hbox hb; have n0_ := Aside0.mk (below_step (zw0 HB.out) hb); have BK198 := Aside0.mk (hbox); have GW198 := Aside0.mk (zg hg (below_size (zw0 HB.out))); have GE198 := GW198; clear HB; have HB := n0_; clear n0_; clear hb hbox hg) | ((with_reducible refine gate_dst (N := 6) rfl ?_); refine zbox (N := 6) (cs := #[.bool a2_0, .int .i64 a2_1, .int .i64 a2_2, .int .i64 a2_3]) (t := 62) ?_; intro gb199 hg w19 hbox hb; have n0_ := Aside0.mk (zbb BK198.out hb); have n1_ := Aside0.mk (below_step (zw1 HB.out GE198.out) hb); have BK199 := Aside0.mk (hbox); have GW199 := Aside0.mk (zg hg (below_size (zw1 HB.out GE198.out))); have GE199 := GW199; have NB198_199 := Aside0.mk (zlt hg BK198.out); have NB199_198 := Aside0.mk (zgt hg BK198.out); clear BK198 HB; have BK198 := n0_; have HB := n1_; clear n0_ n1_; clear hb hbox hg; have hnb20 := NB198_199.out; have hnc20 := NB199_198.out; have hcz21_0 := zc BK198.out 0; have hcz21_1 := zc BK198.out 1; have hfz21_0 := blk_frozen BK198.out 0; have hfz21_1 := blk_frozen BK198.out 1) | (go_at_call 86; (with_reducible refine (word_Bytes.calls a0_0 a0_1 a3 t200 _ A5.out).mono ?_); rintro e w22 ⟨rfl, hb⟩; have n0_ := Aside0.mk (zbb BK198.out hb); have n1_ := Aside0.mk (zbb BK199.out hb); have n2_ := Aside0.mk (below_step (zw2 HB.out GE198.out GE199.out) hb); clear BK198 BK199 HB; have BK198 := n0_; have BK199 := n1_; have HB := n2_; clear n0_ n1_ n2_; (try clear hb); (try clear hb2); (try clear hk); (try clear hi); have hcz23_0 := zc BK199.out 0; have hcz23_1 := zc BK199.out 1; have hcz23_2 := zc BK199.out 2; have hcz23_3 := zc BK199.out 3; have hfz23_0 := blk_frozen BK199.out 0; have hfz23_1 := blk_frozen BK199.out 1; have hfz23_2 := blk_frozen BK199.out 2; have hfz23_3 := blk_frozen BK199.out 3; have p201 : 0 ≤ (a2_2 : Int) := zdec; have q201 : a2_2 < (l1.length : Int) := zdec; obtain ⟨ad201, A201_1, c201_1, e201, hx201_0, hx201_1, hl201_1, hi201_1⟩ := at_T76 HR1.out a2_2 p201 q201; cases e201; replace hx201_0 := zh HB.out hx201_0; replace hx201_1 := zh HB.out hx201_1; have HR201_1 := Aside0.mk hi201_1; have HC201_1 := Aside0.mk hl201_1; clear hi201_1 hl201_1; replace p201 := eq_true p201; replace q201 := eq_true q201; have p202 : 0 ≤ (a2_2 : Int) := zdec; have q202 : a2_2 < (l1.length : Int) := zdec; obtain ⟨ad202, A202_1, c202_1, e202, hx202_0, hx202_1, hl202_1, hi202_1⟩ := at_T76 HR1.out a2_2 p202 q202; obtain rfl : ad201 = ad202 := (by injection e202); replace hx202_0 := zh HB.out hx202_0; replace hx202_1 := zh HB.out hx202_1; have HR202_1 := Aside0.mk hi202_1; have HC202_1 := Aside0.mk hl202_1; clear hi202_1 hl202_1; replace p202 := eq_true p202; replace q202 := eq_true q202; have ea_ := Option.some.inj (hx201_1.symm.trans hx202_1); injection ea_ with ea_ en_ ec_; subst ea_; subst ec_; clear en_)); try go_wp2_with (first | ((with_reducible refine gate_dst (N := 4) rfl ?_); refine zbox (N := 4) (cs := #[.bool a0_0, .int .i64 a0_1]) (t := 29) ?_; intro gb198 hg w18 hbox hb; have n0_ := Aside0.mk (below_step (zw0 HB.out) hb); have BK198 := Aside0.mk (hbox); have GW198 := Aside0.mk (zg hg (below_size (zw0 HB.out))); have GE198 := GW198; clear HB; have HB := n0_; clear n0_; clear hb hbox hg) | ((with_reducible refine gate_dst (N := 6) rfl ?_); refine zbox (N := 6) (cs := #[.bool a2_0, .int .i64 a2_1, .int .i64 a2_2, .int .i64 a2_3]) (t := 62) ?_; intro gb199 hg w19 hbox hb; have n0_ := Aside0.mk (zbb BK198.out hb); have n1_ := Aside0.mk (below_step (zw1 HB.out GE198.out) hb); have BK199 := Aside0.mk (hbox); have GW199 := Aside0.mk (zg hg (below_size (zw1 HB.out GE198.out))); have GE199 := GW199; have NB198_199 := Aside0.mk (zlt hg BK198.out); have NB199_198 := Aside0.mk (zgt hg BK198.out); clear BK198 HB; have BK198 := n0_; have HB := n1_; clear n0_ n1_; clear hb hbox hg; have hnb20 := NB198_199.out; have hnc20 := NB199_198.out; have hcz21_0 := zc BK198.out 0; have hcz21_1 := zc BK198.out 1; have hfz21_0 := blk_frozen BK198.out 0; have hfz21_1 := blk_frozen BK198.out 1) | (go_at_call 86; (with_reducible refine (word_Bytes.calls a0_0 a0_1 a3 t200 _ A5.out).mono ?_); rintro e w22 ⟨rfl, hb⟩; have n0_ := Aside0.mk (zbb BK198.out hb); have n1_ := Aside0.mk (zbb BK199.out hb); have n2_ := Aside0.mk (below_step (zw2 HB.out GE198.out GE199.out) hb); clear BK198 BK199 HB; have BK198 := n0_; have BK199 := n1_; have HB := n2_; clear n0_ n1_ n2_; (try clear hb); (try clear hb2); (try clear hk); (try clear hi); have hcz23_0 := zc BK199.out 0; have hcz23_1 := zc BK199.out 1; have hcz23_2 := zc BK199.out 2; have hcz23_3 := zc BK199.out 3; have hfz23_0 := blk_frozen BK199.out 0; have hfz23_1 := blk_frozen BK199.out 1; have hfz23_2 := blk_frozen BK199.out 2; have hfz23_3 := blk_frozen BK199.out 3; have p201 : 0 ≤ (a2_2 : Int) := zdec; have q201 : a2_2 < (l1.length : Int) := zdec; obtain ⟨ad201, A201_1, c201_1, e201, hx201_0, hx201_1, hl201_1, hi201_1⟩ := at_T76 HR1.out a2_2 p201 q201; cases e201; replace hx201_0 := zh HB.out hx201_0; replace hx201_1 := zh HB.out hx201_1; have HR201_1 := Aside0.mk hi201_1; have HC201_1 := Aside0.mk hl201_1; clear hi201_1 hl201_1; replace p201 := eq_true p201; replace q201 := eq_true q201; have p202 : 0 ≤ (a2_2 : Int) := zdec; have q202 : a2_2 < (l1.length : Int) := zdec; obtain ⟨ad202, A202_1, c202_1, e202, hx202_0, hx202_1, hl202_1, hi202_1⟩ := at_T76 HR1.out a2_2 p202 q202; obtain rfl : ad201 = ad202 := (by injection e202); replace hx202_0 := zh HB.out hx202_0; replace hx202_1 := zh HB.out hx202_1; have HR202_1 := Aside0.mk hi202_1; have HC202_1 := Aside0.mk hl202_1; clear hi202_1 hl202_1; replace p202 := eq_true p202; replace q202 := eq_true q202; have ea_ := Option.some.inj (hx201_1.symm.trans hx202_1); injection ea_ with ea_ en_ ec_; subst ea_; subst ec_; clear en_)))
  go_ret
  exact ⟨ze, zw2 HB.out GE198.out GE199.out⟩
 ·rw [if_neg c6] at H
  exact absurd H (by simp)

/-! api_Byte_118 -/
def api_Byte_118.l0 : Nat → List (S74) → Int → Int → Option ((List (S74)))
 | 0, _, _, _ => none
 | k + 1, x0, x2, x3 => if x2 < x3 then (if 0 ≤ x3 then (if x3 < (x0.length : Int) then (if 0 ≤ x2 then (if x2 < (x0.length : Int) then (api_Byte_118.l0 k ((x0.set (x2 : Int).toNat (⟨(rd_T74 x0 x3).f0, (rd_T74 x0 x3).f1, (rd_T74 x0 x3).f2, (rd_T74 x0 x3).f3, (rd_T74 x0 x3).f4⟩ : S74)).set (x3 : Int).toNat (⟨(rd_T74 x0 x2).f0, (rd_T74 x0 x2).f1, (rd_T74 x0 x2).f2, (rd_T74 x0 x2).f3, (rd_T74 x0 x2).f4⟩ : S74)) (wrap64 (x2 + 1)) (wrap64 (x3 - 1))) else (none)) else (none)) else (none)) else (none)) else (some x0)
def api_Byte_118.f (k : Nat) (l0 : List (S74)) : Option ((List (S74))) := api_Byte_118.l0 k l0 0 (wrap64 ((l0.length : Int) - 1))
theorem api_Byte_118.mono_l : ∀ k, (∀ y0 y1 y2, LeO (api_Byte_118.l0 k y0 y1 y2) (api_Byte_118.l0 (k + 1) y0 y1 y2))
 | 0 => fun _ _ _ r h => by simp [api_Byte_118.l0] at h
 | k + 1 => by
  have ih0 := api_Byte_118.mono_l k
  ·intro y0 y1 y2
   unfold api_Byte_118.l0
   repeat' first
   | (with_reducible apply ih0)
   | (with_reducible apply LeO.refl)
   | (with_reducible apply LeO.none)
   | (with_reducible refine LeO.ite ?_ ?_)
   | (with_reducible refine LeO.bind ?_ (fun _ => ?_))
theorem api_Byte_118.mono : ∀ a0 k, LeO (api_Byte_118.f k a0) (api_Byte_118.f (k + 1) a0) := by
 intro a0 k
 have ih0 := api_Byte_118.mono_l k
 unfold api_Byte_118.f
 repeat' first
   | (with_reducible apply ih0)
   | (with_reducible apply LeO.refl)
   | (with_reducible apply LeO.none)
   | (with_reducible refine LeO.ite ?_ ?_)
   | (with_reducible refine LeO.bind ?_ (fun _ => ?_))
def api_Byte_118.T3 : Bool × List (List Nat × List Nat) := (true, [([], []), ([], []), ([], []), ([], []), ([], []), ([], []), ([4, 5], [4, 5]), ([6], [6]), ([], []), ([], []), ([8, 9], [8, 9]), ([10], [10]), ([0, 1, 0, 1, 4, 5, 6, 7, 11], [0, 1]), ([12, 7, 0, 1, 4, 5, 6, 7, 11], [7, 12]), ([2, 3, 0, 1, 2, 3, 4, 5, 6, 7, 8, 9, 10, 11, 12, 13], [2, 3]), ([14, 11, 13, 0, 1, 2, 3, 4, 5, 6, 7, 8, 9, 10, 11, 12, 13], [11, 14])])
def api_Byte_118.B3 : List Nat := [0, 0, 0, 0, 0, 0, 48, 112, 0, 0, 768, 1792, 4083, 8179, 16383, 32767]
theorem api_Byte_118.tab3 : rtab .any (opsOf Try.f118 3) = api_Byte_118.T3 := by kernel_rfl
theorem api_Byte_118.bits3 : waitsOk api_Byte_118.T3.2 api_Byte_118.B3 = true := by kernel_rfl
set_option maxHeartbeats 8000000 in
set_option maxRecDepth 100000 in
theorem api_Byte_118.calls (k : Nat) (P0_ : Nat → Prop) (u9000_ : Value) (l0 : List (S74)) (r : List (S74)) (w0 w : World) (hB : Below w0.heap.size w0 w) (ho0 : Kd.R k74 74 w w0.heap.size P0_ u9000_ l0) (h : api_Byte_118.f k l0 = some r) :
  Calls Try.prog 118 #[u9000_] w fun e w' => e = .returned (.tuple #[]) ∧ Kd.R k74 74 w' w0.heap.size (fun k_ => (P0_ k_ ∨ w.heap.size ≤ k_)) u9000_ r ∧ Below w0.heap.size w0 w' ∧ Kept w w' (fun k_ => P0_ k_) := by
 have hu74 := Try.underlying74
 have HO0 := Aside0.mk (show Kd.R k74 74 w w0.heap.size (fun k_ => (P0_ k_ ∨ w.heap.size ≤ k_)) u9000_ l0 from Kd.R_mono ho0 (fun k_ hk => (.inl hk)))
 have HK := Aside0.mk (Kept.refl w (fun k_ => P0_ k_))
 have HW0 := Aside0.mk hB.size
 have HB := Aside0.mk hB
 clear hB
 have H : (api_Byte_118.l0 k l0 0 (wrap64 ((l0.length : Int) - 1))) = some r := h
 clear h
 have H' := Aside0.mk H
 clear H
 obtain ⟨Ao2, co2, eo2⟩ := Kd.R_slice HO0.out
 subst eo2
 go_enter Try.func118, Try.ntmps118
 go_wp2
 go_loopg [2, 3] k (fun kq v2 v3 w' => ∃ (x0_1 : List (S74)) (x2_1 : Int) (x3_1 : Int), v2 = .int .i64 x2_1 ∧ v3 = .int .i64 x3_1 ∧ Aside0 (api_Byte_118.l0 kq x0_1 x2_1 x3_1 = some r) ∧ Aside0 (kq ≤ k) ∧ Aside0 (Kd.R k74 74 w' w0.heap.size (fun k_ => (P0_ k_ ∨ w.heap.size ≤ k_)) (.slice Ao2 l0.length co2) x0_1) ∧ Aside0 (Kept w w' (fun k_ => P0_ k_)) ∧ Aside0 (Below w0.heap.size w0 w'))
 case atStart => exact ⟨(l0), (0), (wrap64 ((l0.length : Int) - 1)), (zr), (zr), H', ⟨Nat.le_refl _⟩, ⟨by (with_reducible repeat (first | apply Kd.R_alloc | apply Kd.R_drewN | apply Kd.R_drew)); exact HO0.out⟩, ⟨by repeat (first | (with_reducible first | exact HK.out | apply Kept.alloc | apply Kept.drewN | apply Kept.drew) | exact HK.out)⟩, ⟨zw0 HB.out⟩⟩
 case round =>
  clear H'
  try clear c1; try clear p2
  obtain ⟨x0_1, x2_1, x3_1, rfl, rfl, HA, HK1, HO_0, HK, HB⟩ := hrel
  have hl0_1 := (Kd.R_reads' HO_0.out).1
  rw [hl0_1] at HO_0
  (try simp only [hl0_1])
  cases gk with
  | zero => exact absurd HA.out (by simp [api_Byte_118.l0])
  | succ k1 =>
   have H := HA.out
   clear HA
   simp only [api_Byte_118.l0] at H
   by_cases c3 : x2_1 < x3_1
   ·rw [if_pos c3] at H
    have c3b0 : decide (x2_1 < x3_1) = true := decide_eq_true c3
    clear c3
    by_cases c4 : 0 ≤ x3_1
    rotate_left
    ·rw [if_neg c4] at H
     exact absurd H (by simp)
    rw [if_pos c4] at H
    have c4b0 : decide (0 ≤ x3_1) = true := decide_eq_true c4
    clear c4
    by_cases c5 : x3_1 < (x0_1.length : Int)
    rotate_left
    ·rw [if_neg c5] at H
     exact absurd H (by simp)
    rw [if_pos c5] at H
    have c5b0 : decide (x3_1 < (x0_1.length : Int)) = true := decide_eq_true c5
    clear c5
    by_cases c6 : 0 ≤ x2_1
    rotate_left
    ·rw [if_neg c6] at H
     exact absurd H (by simp)
    rw [if_pos c6] at H
    have c6b0 : decide (0 ≤ x2_1) = true := decide_eq_true c6
    clear c6
    by_cases c7 : x2_1 < (x0_1.length : Int)
    rotate_left
    ·rw [if_neg c7] at H
     exact absurd H (by simp)
    rw [if_pos c7] at H
    have c7b0 : decide (x2_1 < (x0_1.length : Int)) = true := decide_eq_true c7
    clear c7
    obtain ⟨y205, hy205⟩ : ∃ y_ : List (S74), y_ = (x0_1.set (x2_1 : Int).toNat (⟨(rd_T74 x0_1 x3_1).f0, (rd_T74 x0_1 x3_1).f1, (rd_T74 x0_1 x3_1).f2, (rd_T74 x0_1 x3_1).f3, (rd_T74 x0_1 x3_1).f4⟩ : S74)) := ⟨_, rfl⟩
    replace H : (api_Byte_118.l0 k1 (y205.set (x3_1 : Int).toNat (⟨(rd_T74 x0_1 x2_1).f0, (rd_T74 x0_1 x2_1).f1, (rd_T74 x0_1 x2_1).f2, (rd_T74 x0_1 x2_1).f3, (rd_T74 x0_1 x2_1).f4⟩ : S74)) (wrap64 (x2_1 + 1)) (wrap64 (x3_1 - 1))) = some r := by first | (rw [hy205]; with_reducible exact H) | (have H2_ := (Option.bind_some _ _).symm.trans H; rw [hy205]; with_reducible exact H2_) | (have H2_ := (Option.bind_some _ _).symm.trans H; with_reducible exact H2_) | with_reducible exact H | (rw [hy205]; exact H) | exact H
    have Ny205 := Aside0.mk hy205
    clear hy205
    obtain ⟨y206, hy206⟩ : ∃ y_ : List (S74), y_ = (y205.set (x3_1 : Int).toNat (⟨(rd_T74 x0_1 x2_1).f0, (rd_T74 x0_1 x2_1).f1, (rd_T74 x0_1 x2_1).f2, (rd_T74 x0_1 x2_1).f3, (rd_T74 x0_1 x2_1).f4⟩ : S74)) := ⟨_, rfl⟩
    replace H : (api_Byte_118.l0 k1 y206 (wrap64 (x2_1 + 1)) (wrap64 (x3_1 - 1))) = some r := by first | (rw [hy206]; with_reducible exact H) | (have H2_ := (Option.bind_some _ _).symm.trans H; rw [hy206]; with_reducible exact H2_) | (have H2_ := (Option.bind_some _ _).symm.trans H; with_reducible exact H2_) | with_reducible exact H | (rw [hy206]; exact H) | exact H
    have Ny206 := Aside0.mk hy206
    clear hy206
    have H' := Aside0.mk H
    clear H
    try go_wp2
    have n0_ := Aside0.mk (Kd.R_drew HO_0.out)
    have n1_ := Aside0.mk (Kept.drew HK.out)
    have n2_ := Aside0.mk (below_drew1 HB.out)
    clear HO_0
    clear HK
    clear HB
    have HO_0 := n0_
    have HK := n1_
    have HB := n2_
    clear n0_ n1_ n2_
    have p203 : 0 ≤ (x3_1 : Int) := zdec
    have q203 : x3_1 < (x0_1.length : Int) := zdec
    obtain ⟨ad203, e203, hx203_0, hx203_1, hx203_2, hx203_3, hx203_4⟩ := at_T74 (Kd.R_reads' HO_0.out).2.2 x3_1 p203 q203
    cases e203
    replace p203 := eq_true p203
    replace q203 := eq_true q203
    have p204 : 0 ≤ (x2_1 : Int) := zdec
    have q204 : x2_1 < (x0_1.length : Int) := zdec
    obtain ⟨ad204, e204, hx204_0, hx204_1, hx204_2, hx204_3, hx204_4⟩ := at_T74 (Kd.R_reads' HO_0.out).2.2 x2_1 p204 q204
    obtain rfl : ad203 = ad204 := (by injection e204)
    replace p204 := eq_true p204
    replace q204 := eq_true q204
    have p8 : 0 ≤ (x2_1 : Int) := zdec
    have q8 : (x2_1 : Int) < ((x0_1.length : Int) : Int) := zdec
    obtain ⟨go8, co8, eo8, gb8, gl8, cl8, HG8⟩ := Kd.R_form HO_0.out (by omega)
    (first | cases eo8 | (injection eo8 with ea_ en_ ec_; (first | subst ea_ | (injection ea_ with ea_; subst ea_)); subst ec_; clear en_))
    have GB8 := Aside0.mk gb8
    have GG8 := Aside0.mk HG8
    clear gb8 gl8 HG8
    have HMgo8 := Aside0.mk (show (P0_ go8 ∨ w.heap.size ≤ go8) from (HO_0.out.1 _ rfl))
    (first | simp only [add_plain] at hx203_0 | skip)
    (first | simp only [add_plain] at hx203_1 | skip)
    (first | simp only [add_plain] at hx203_2 | skip)
    (first | simp only [add_plain] at hx203_3 | skip)
    (first | simp only [add_plain] at hx203_4 | skip)
    (first | simp only [add_plain] at hx204_0 | skip)
    (first | simp only [add_plain] at hx204_1 | skip)
    (first | simp only [add_plain] at hx204_2 | skip)
    (first | simp only [add_plain] at hx204_3 | skip)
    (first | simp only [add_plain] at hx204_4 | skip)
    obtain ⟨ce8, hcl8, hM8, hcc8, hfr8⟩ := Kd.R_elem HO_0.out z74 (x2_1 : Int) p8 q8
    obtain rfl := k74_openM hM8
    have hx8_0 : World.cell? _ ⟨go8, (x2_1 : Int).toNat * 5, none⟩ = some (.int .i64 ((rd_T74 x0_1 x2_1).f0)) := hcc8 0 _ rfl
    have hx8_1 : World.cell? _ ⟨go8, (x2_1 : Int).toNat * 5 + 1, none⟩ = some (.int .i64 ((rd_T74 x0_1 x2_1).f1)) := hcc8 1 _ rfl
    have hx8_2 : World.cell? _ ⟨go8, (x2_1 : Int).toNat * 5 + 2, none⟩ = some (.int .i64 ((rd_T74 x0_1 x2_1).f2)) := hcc8 2 _ rfl
    have hx8_3 : World.cell? _ ⟨go8, (x2_1 : Int).toNat * 5 + 3, none⟩ = some (.int .i64 ((rd_T74 x0_1 x2_1).f3)) := hcc8 3 _ rfl
    have hx8_4 : World.cell? _ ⟨go8, (x2_1 : Int).toNat * 5 + 4, none⟩ = some (.int .i64 ((rd_T74 x0_1 x2_1).f4)) := hcc8 4 _ rfl
    have hf8_0 : World.frozen? _ ⟨go8, (x2_1 : Int).toNat * 5, none⟩ = false := hfr8 0
    have hf8_1 : World.frozen? _ ⟨go8, (x2_1 : Int).toNat * 5 + 1, none⟩ = false := hfr8 1
    have hf8_2 : World.frozen? _ ⟨go8, (x2_1 : Int).toNat * 5 + 2, none⟩ = false := hfr8 2
    have hf8_3 : World.frozen? _ ⟨go8, (x2_1 : Int).toNat * 5 + 3, none⟩ = false := hfr8 3
    have hf8_4 : World.frozen? _ ⟨go8, (x2_1 : Int).toNat * 5 + 4, none⟩ = false := hfr8 4
    clear hcl8 hcc8 hfr8 hM8
    replace p8 := eq_true p8
    replace q8 := eq_true q8
    obtain ⟨ce11, hcl11, hM11, hcc11, hfr11⟩ := Kd.R_elem HO_0.out z74 (x2_1 : Int) (zdec) (by have h_ : (x2_1 : Int) < ((x0_1.length : Int) : Int) := zdec; first | exact h_ | (have e_ := (Kd.R_reads' HO_0.out).1; omega) | simpa using h_)
    obtain rfl := k74_openM hM11
    have HP11 := (Kd.R_seg HO_0.out (x2_1 : Int) (zdec) (by have h_ : (x2_1 : Int) < ((x0_1.length : Int) : Int) := zdec; first | exact h_ | (have e_ := (Kd.R_reads' HO_0.out).1; omega) | simpa using h_) (seg := [.int .i64 ((rd_T74 x0_1 x3_1).f0), .int .i64 ((rd_T74 x0_1 x3_1).f1), .int .i64 ((rd_T74 x0_1 x3_1).f2), .int .i64 ((rd_T74 x0_1 x3_1).f3), .int .i64 ((rd_T74 x0_1 x3_1).f4)]) (j := 0) hcl11 hcc11 (show 5 ≤ 5 from by decide) (x' := (⟨(rd_T74 x0_1 x3_1).f0, (rd_T74 x0_1 x3_1).f1, (rd_T74 x0_1 x3_1).f2, (rd_T74 x0_1 x3_1).f3, (rd_T74 x0_1 x3_1).f4⟩ : S74)) (k74_mkM _ _ _ (⟨(rd_T74 x0_1 x3_1).f0, (rd_T74 x0_1 x3_1).f1, (rd_T74 x0_1 x3_1).f2, (rd_T74 x0_1 x3_1).f3, (rd_T74 x0_1 x3_1).f4⟩ : S74) ) (fun _ hk => hk)).1
    rw [← Ny205.out] at HP11
    have HQ11 := Aside0.mk HP11
    clear hcl11 hcc11 hfr11 hM11 HP11
    have p9 : 0 ≤ (x3_1 : Int) := zdec
    have q9 : (x3_1 : Int) < ((x0_1.length : Int) : Int) := zdec
    obtain ⟨ce9, hcl9, hM9, hcc9, hfr9⟩ := Kd.R_elem HQ11.out z74 (x3_1 : Int) p9 q9
    obtain rfl := k74_openM hM9
    have hx9_0 : World.cell? _ ⟨go8, (x3_1 : Int).toNat * 5, none⟩ = some (.int .i64 ((rd_T74 y205 x3_1).f0)) := hcc9 0 _ rfl
    have hx9_1 : World.cell? _ ⟨go8, (x3_1 : Int).toNat * 5 + 1, none⟩ = some (.int .i64 ((rd_T74 y205 x3_1).f1)) := hcc9 1 _ rfl
    have hx9_2 : World.cell? _ ⟨go8, (x3_1 : Int).toNat * 5 + 2, none⟩ = some (.int .i64 ((rd_T74 y205 x3_1).f2)) := hcc9 2 _ rfl
    have hx9_3 : World.cell? _ ⟨go8, (x3_1 : Int).toNat * 5 + 3, none⟩ = some (.int .i64 ((rd_T74 y205 x3_1).f3)) := hcc9 3 _ rfl
    have hx9_4 : World.cell? _ ⟨go8, (x3_1 : Int).toNat * 5 + 4, none⟩ = some (.int .i64 ((rd_T74 y205 x3_1).f4)) := hcc9 4 _ rfl
    have hf9_0 : World.frozen? _ ⟨go8, (x3_1 : Int).toNat * 5, none⟩ = false := hfr9 0
    have hf9_1 : World.frozen? _ ⟨go8, (x3_1 : Int).toNat * 5 + 1, none⟩ = false := hfr9 1
    have hf9_2 : World.frozen? _ ⟨go8, (x3_1 : Int).toNat * 5 + 2, none⟩ = false := hfr9 2
    have hf9_3 : World.frozen? _ ⟨go8, (x3_1 : Int).toNat * 5 + 3, none⟩ = false := hfr9 3
    have hf9_4 : World.frozen? _ ⟨go8, (x3_1 : Int).toNat * 5 + 4, none⟩ = false := hfr9 4
    clear hcl9 hcc9 hfr9 hM9
    replace p9 := eq_true p9
    replace q9 := eq_true q9
    obtain ⟨ce12, hcl12, hM12, hcc12, hfr12⟩ := Kd.R_elem HQ11.out z74 (x3_1 : Int) (zdec) (by have h_ : (x3_1 : Int) < ((x0_1.length : Int) : Int) := zdec; first | exact h_ | (have e_ := (Kd.R_reads' HO_0.out).1; omega) | simpa using h_)
    obtain rfl := k74_openM hM12
    have HP12 := (Kd.R_seg HQ11.out (x3_1 : Int) (zdec) (by have h_ : (x3_1 : Int) < ((x0_1.length : Int) : Int) := zdec; first | exact h_ | (have e_ := (Kd.R_reads' HO_0.out).1; omega) | simpa using h_) (seg := [.int .i64 ((rd_T74 x0_1 x2_1).f0), .int .i64 ((rd_T74 x0_1 x2_1).f1), .int .i64 ((rd_T74 x0_1 x2_1).f2), .int .i64 ((rd_T74 x0_1 x2_1).f3), .int .i64 ((rd_T74 x0_1 x2_1).f4)]) (j := 0) hcl12 hcc12 (show 5 ≤ 5 from by decide) (x' := (⟨(rd_T74 x0_1 x2_1).f0, (rd_T74 x0_1 x2_1).f1, (rd_T74 x0_1 x2_1).f2, (rd_T74 x0_1 x2_1).f3, (rd_T74 x0_1 x2_1).f4⟩ : S74)) (k74_mkM _ _ _ (⟨(rd_T74 x0_1 x2_1).f0, (rd_T74 x0_1 x2_1).f1, (rd_T74 x0_1 x2_1).f2, (rd_T74 x0_1 x2_1).f3, (rd_T74 x0_1 x2_1).f4⟩ : S74) ) (fun _ hk => hk)).1
    rw [← Ny206.out] at HP12
    have HQ12 := Aside0.mk HP12
    clear hcl12 hcc12 hfr12 hM12 HP12
    have zlt_ : x2_1.toNat < x3_1.toNat := sw_lt _ _ (of_decide_eq_true (c6b0 : decide (0 ≤ x2_1) = true)) (of_decide_eq_true (c3b0 : decide (x2_1 < x3_1) = true))
    have ze0_ := sw_ne _ _ zlt_
    have zf0_ := sw_ne' _ _ zlt_
    obtain ⟨za0_, zb0_, zc0_, zd0_⟩ := swn 5 _ _ 0 zlt_ (by decide)
    obtain ⟨za1_, zb1_, zc1_, zd1_⟩ := swn 5 _ _ 1 zlt_ (by decide)
    obtain ⟨za2_, zb2_, zc2_, zd2_⟩ := swn 5 _ _ 2 zlt_ (by decide)
    obtain ⟨za3_, zb3_, zc3_, zd3_⟩ := swn 5 _ _ 3 zlt_ (by decide)
    obtain ⟨za4_, zb4_, zc4_, zd4_⟩ := swn 5 _ _ 4 zlt_ (by decide)
    simp only [Nat.add_zero] at za0_ zb0_ zc0_ zd0_
    clear zlt_
    rw [World.frozen?_setCells] at hf9_0 hf9_1 hf9_2 hf9_3 hf9_4
    refine start_ (n := 16) (S := fun w' => w'.cell? ⟨go8, ((x3_1).toNat * 5), none⟩ = some (.int .i64 ((rd_T74 x0_1 x3_1).f0)) ∧ w'.cell? ⟨go8, ((x3_1).toNat * 5) + 1, none⟩ = some (.int .i64 ((rd_T74 x0_1 x3_1).f1)) ∧ w'.cell? ⟨go8, ((x3_1).toNat * 5) + 2, none⟩ = some (.int .i64 ((rd_T74 x0_1 x3_1).f2)) ∧ w'.cell? ⟨go8, ((x3_1).toNat * 5) + 3, none⟩ = some (.int .i64 ((rd_T74 x0_1 x3_1).f3)) ∧ w'.cell? ⟨go8, ((x3_1).toNat * 5) + 4, none⟩ = some (.int .i64 ((rd_T74 x0_1 x3_1).f4)) ∧ w'.cell? ⟨go8, ((x2_1).toNat * 5), none⟩ = some (.int .i64 ((rd_T74 x0_1 x2_1).f0)) ∧ w'.cell? ⟨go8, ((x2_1).toNat * 5) + 1, none⟩ = some (.int .i64 ((rd_T74 x0_1 x2_1).f1)) ∧ w'.cell? ⟨go8, ((x2_1).toNat * 5) + 2, none⟩ = some (.int .i64 ((rd_T74 x0_1 x2_1).f2)) ∧ w'.cell? ⟨go8, ((x2_1).toNat * 5) + 3, none⟩ = some (.int .i64 ((rd_T74 x0_1 x2_1).f3)) ∧ w'.cell? ⟨go8, ((x2_1).toNat * 5) + 4, none⟩ = some (.int .i64 ((rd_T74 x0_1 x2_1).f4))) (ds := [13, 15]) #[false,false,false,false,false,false,false,false,false,false,false,false,false,false,false,false] (by kernel_rfl) rfl rfl ⟨hx203_0, hx203_1, hx203_2, hx203_3, hx203_4, hx204_0, hx204_1, hx204_2, hx204_3, hx204_4⟩ (fun hHeld => ?_); refine with_tabW api_Byte_118.tab3 api_Byte_118.bits3 (fun HT_ HW_ => ?_)
    generalize wr.drew = w10 at HO_0 HK HB GG8 HQ11 HQ12 hf8_0 hf8_1 hf8_2 hf8_3 hf8_4 hf9_0 hf9_1 hf9_2 hf9_3 hf9_4 hx203_0 hx203_1 hx203_2 hx203_3 hx203_4 hx204_0 hx204_1 hx204_2 hx204_3 hx204_4 hx8_0 hx8_1 hx8_2 hx8_3 hx8_4 hx9_0 hx9_1 hx9_2 hx9_3 hx9_4 hHeld ⊢
    refine zq 0 (some 14) HT_ ?_; refine zq 1 (some 15) HT_ ?_; refine zq 2 (some 16) HT_ ?_; refine zq 3 (some 17) HT_ ?_; refine zq 4 (some 18) HT_ ?_; refine zq 5 (some 19) HT_ ?_; refine zq 6 (some 20) HT_ ?_; refine zq 8 (some 22) HT_ ?_; refine zq 9 (some 23) HT_ ?_; refine zq 10 (some 24) HT_ ?_; refine zt 7 (some 21) HT_ HW_ hHeld ?_; refine zt 11 (some 25) HT_ HW_ hHeld ?_; refine zq 12 (some 26) HT_ ?_
    refine last_ (i := 13) (N := none) #[true,true,true,true,true,true,true,true,true,true,true,true,true,true,false,false] rfl rfl (one_of HT_.out (by kernel_rfl)) (by decide) (fun K hK => ?_)
    refine skip_ (w1 := ?_) (by rfl) rfl ?_ ?_
    rotate_left
    ·go_simp
     rfl
    refine hK.out _ _ ?_
    clear hK K
    refine zq 14 (some 27) HT_ ?_
    refine last_ (i := 15) (N := none) #[true,true,true,true,true,true,true,true,true,true,true,true,true,true,true,true] rfl rfl (one_of HT_.out (by kernel_rfl)) (by decide) (fun K hK => ?_)
    refine skip_ (w1 := ?_) (by rfl) rfl ?_ ?_
    rotate_left
    ·go_simp
     rfl
    refine hK.out _ _ ?_
    clear hK K
    refine done_ (done_of HT_.out (by kernel_rfl)) ?_
    try go_wp2
    (try simp only [← hl0_1])
    go_roundg k1
    case measure => have := HK1.out; omega
    case rel => exact ⟨(y206), (wrap64 (x2_1 + 1)), (wrap64 (x3_1 - 1)), (zr), (zr), H', ⟨by have := HK1.out; omega⟩, ⟨by (try simp only [hl0_1]); (with_reducible repeat (first | apply Kd.R_alloc | apply Kd.R_drewN | apply Kd.R_drew)); exact HQ12.out⟩, ⟨by repeat (first | (with_reducible first | exact HK.out | apply Kept.alloc | apply Kept.drewN | apply Kept.drew | refine Kept.setCell ?_ HMgo8.out _ | refine Kept.setCell ?_ HMgo8.out _ | refine Kept.setCell ?_ HMgo8.out _ | refine Kept.setCell ?_ HMgo8.out _ | refine Kept.setCell ?_ HMgo8.out _ | refine Kept.setCell ?_ HMgo8.out _ | refine Kept.setCell ?_ HMgo8.out _ | refine Kept.setCell ?_ HMgo8.out _ | refine Kept.setCell ?_ HMgo8.out _ | refine Kept.setCell ?_ HMgo8.out _) | exact HK.out)⟩, ⟨by repeat (first | (with_reducible first | exact HB.out | apply below_alloc | apply pw_below_drewN | apply below_drew1 | refine below_set ?_ GB8.out | refine below_set ?_ GB8.out | refine below_set ?_ GB8.out | refine below_set ?_ GB8.out | refine below_set ?_ GB8.out | refine below_set ?_ GB8.out | refine below_set ?_ GB8.out | refine below_set ?_ GB8.out | refine below_set ?_ GB8.out | refine below_set ?_ GB8.out) | exact HB.out)⟩⟩
   ·rw [if_neg c3] at H
    have c3b0 : decide (x2_1 < x3_1) = false := decide_eq_false c3
    clear c3
    obtain rfl := Option.some.inj H
    go_wp2
    first | go_end0 | ((try simp only [Exit.inBlock, Exit.then]); refine bodyPost_ret (results_none rfl _ _ _) rfl ?_)
    exact ⟨ze, (by first | exact (by (with_reducible repeat (first | apply Kd.R_alloc | apply Kd.R_drewN | apply Kd.R_drew)); exact HO_0.out) | (simp only [hl0_1]; exact (by (with_reducible repeat (first | apply Kd.R_alloc | apply Kd.R_drewN | apply Kd.R_drew)); exact HO_0.out))), zw0 HB.out, by repeat (first | (with_reducible first | exact HK.out | apply Kept.alloc | apply Kept.drewN | apply Kept.drew) | exact HK.out)⟩

/-! bytes_Spell -/
def bytes_Spell.l0 : Nat → Int → List (S74) → Int → Int → Bool → Int → Bool → Int → Int → Int → Option ((List (S74)))
 | 0, _, _, _, _, _, _, _, _, _, _ => none
 | k + 1, x1, x7, x14, x15, x208000, x208001, x209000, x209001, x209002, x209003 => if x15 < x14 then (if x209002 > 0 then (if 0 ≤ x15 then (if x15 < (x7.length : Int) then (bytes_Spell.l0 k x1 (x7.set (x15 : Int).toNat (⟨2, 0, x209002, x209003, x15⟩ : S74)) x14 (wrap64 (x15 + 1)) x208000 x208001 x209000 x209001 x209002 x209003) else (none)) else (none)) else (if 0 ≤ (wrap64 (8 * x15)) then (if 0 ≤ x15 then (if x15 < (x7.length : Int) then (bytes_Spell.l0 k x1 (x7.set (x15 : Int).toNat (⟨1, Go.bits .and .i64 (shr .i64 x209001 (wrap64 (8 * x15))) 255, 0, 0, 0⟩ : S74)) x14 (wrap64 (x15 + 1)) x208000 x208001 x209000 x209001 x209002 x209003) else (none)) else (none)) else (none))) else (if x1 = 7 then (some x7) else (if x208000 = true then ((api_Byte_118.f k x7).bind fun t215 => (some t215)) else (some x7)))
def bytes_Spell.f (k : Nat) (a0_0 : Bool) (a0_1 : Int) (a1 : Int) (a2_0 : Bool) (a2_1 : Int) (a2_2 : Int) (a2_3 : Int) : Option ((List (S74))) := (word_Bytes.f a0_0 a0_1 a1).bind fun t209 => (if 0 ≤ t209 then (if (t209 : Int).toNat ≤ 7036874417766 then ((some (List.replicate (t209 : Int).toNat z74 : List (S74))).bind fun y210 => (bytes_Spell.l0 k a1 y210 (y210.length : Int) 0 a0_0 a0_1 a2_0 a2_1 a2_2 a2_3)) else (none)) else (none))
theorem bytes_Spell.mono_l : ∀ k, (∀ y0 y1 y2 y3 y4 y5 y6 y7 y8 y9, LeO (bytes_Spell.l0 k y0 y1 y2 y3 y4 y5 y6 y7 y8 y9) (bytes_Spell.l0 (k + 1) y0 y1 y2 y3 y4 y5 y6 y7 y8 y9))
 | 0 => fun _ _ _ _ _ _ _ _ _ _ r h => by simp [bytes_Spell.l0] at h
 | k + 1 => by
  have ih0 := bytes_Spell.mono_l k
  ·intro y0 y1 y2 y3 y4 y5 y6 y7 y8 y9
   unfold bytes_Spell.l0
   repeat' first
   | (with_reducible apply ih0)
   | (with_reducible apply api_Byte_118.mono)
   | (with_reducible apply LeO.refl)
   | (with_reducible apply LeO.none)
   | (with_reducible refine LeO.ite ?_ ?_)
   | (with_reducible refine LeO.bind ?_ (fun _ => ?_))
theorem bytes_Spell.mono : ∀ a0 a1 a2 a3 a4 a5 a6 k, LeO (bytes_Spell.f k a0 a1 a2 a3 a4 a5 a6) (bytes_Spell.f (k + 1) a0 a1 a2 a3 a4 a5 a6) := by
 intro a0 a1 a2 a3 a4 a5 a6 k
 have ih0 := bytes_Spell.mono_l k
 unfold bytes_Spell.f
 repeat' first
   | (with_reducible apply ih0)
   | (with_reducible apply api_Byte_118.mono)
   | (with_reducible apply LeO.refl)
   | (with_reducible apply LeO.none)
   | (with_reducible refine LeO.ite ?_ ?_)
   | (with_reducible refine LeO.bind ?_ (fun _ => ?_))
set_option maxHeartbeats 8000000 in
set_option maxRecDepth 100000 in
theorem bytes_Spell.calls (k : Nat) (a0_0 : Bool) (a0_1 : Int) (a1 : Int) (a2_0 : Bool) (a2_1 : Int) (a2_2 : Int) (a2_3 : Int) (r : List (S74)) (w : World) (h : bytes_Spell.f k a0_0 a0_1 a1 a2_0 a2_1 a2_2 a2_3 = some r) :
  Calls Try.prog 104 #[.agg #[.bool a0_0, .int .i64 a0_1], .int .i64 a1, .agg #[.bool a2_0, .int .i64 a2_1, .int .i64 a2_2, .int .i64 a2_3]] w fun e w' => ∃ v0_ : Value, e = .returned (v0_) ∧ Kd.R k74 74 w' w.heap.size (fun _ => True) v0_ r ∧ Below w.heap.size w w' := by
 have hu29 := Try.underlying29
 have hu62 := Try.underlying62
 have hu74 := Try.underlying74
 have HB := Aside0.mk (Below.refl w.heap.size w)
 have H : ((word_Bytes.f a0_0 a0_1 a1).bind fun t209 => (if 0 ≤ t209 then (if (t209 : Int).toNat ≤ 7036874417766 then ((some (List.replicate (t209 : Int).toNat z74 : List (S74))).bind fun y210 => (bytes_Spell.l0 k a1 y210 (y210.length : Int) 0 a0_0 a0_1 a2_0 a2_1 a2_2 a2_3)) else (none)) else (none))) = some r := h
 clear h
 replace H := Option.bind_eq_some_iff.mp H
 obtain ⟨t209, A40, H⟩ := H
 replace H : (if 0 ≤ t209 then (if (t209 : Int).toNat ≤ 7036874417766 then ((some (List.replicate (t209 : Int).toNat z74 : List (S74))).bind fun y210 => (bytes_Spell.l0 k a1 y210 (y210.length : Int) 0 a0_0 a0_1 a2_0 a2_1 a2_2 a2_3)) else (none)) else (none)) = some r := H
 have A4 := Aside0.mk A40
 clear A40
 by_cases c5 : 0 ≤ t209
 ·rw [if_pos c5] at H
  have c5b0 := eq_true c5
  have c5b1 : decide (0 ≤ t209) = true := decide_eq_true c5
  clear c5
  by_cases c6 : (t209 : Int).toNat ≤ 7036874417766
  rotate_left
  ·rw [if_neg c6] at H
   exact absurd H (by simp)
  rw [if_pos c6] at H
  have c6b0 := eq_true c6
  have c6b1 : decide ((t209 : Int).toNat ≤ 7036874417766) = true := decide_eq_true c6
  clear c6
  obtain ⟨y210, hy210⟩ : ∃ y_ : List (S74), y_ = (List.replicate (t209 : Int).toNat z74) := ⟨_, rfl⟩
  replace H : (bytes_Spell.l0 k a1 y210 (y210.length : Int) 0 a0_0 a0_1 a2_0 a2_1 a2_2 a2_3) = some r := by first | (rw [hy210]; with_reducible exact H) | (have H2_ := (Option.bind_some _ _).symm.trans H; rw [hy210]; with_reducible exact H2_) | (have H2_ := (Option.bind_some _ _).symm.trans H; with_reducible exact H2_) | with_reducible exact H | (rw [hy210]; exact H) | exact H
  have Ny210 := Aside0.mk hy210
  clear hy210
  have H' := Aside0.mk H
  clear H
  go_enter Try.func104, Try.ntmps104
  go_wp2_with (first | ((with_reducible refine gate_dst (N := 3) rfl ?_); refine zbox (N := 3) (cs := #[.bool a0_0, .int .i64 a0_1]) (t := 29) ?_; intro gb207 hg w7 hbox hb; have n0_ := Aside0.mk (below_step (zw0 HB.out) hb); have BK207 := Aside0.mk (hbox); have GW207 := Aside0.mk (zg hg (below_size (zw0 HB.out))); have GE207 := GW207; clear HB; have HB := n0_; clear n0_; clear hb hbox hg) | ((with_reducible refine gate_dst (N := 5) rfl ?_); refine zbox (N := 5) (cs := #[.bool a2_0, .int .i64 a2_1, .int .i64 a2_2, .int .i64 a2_3]) (t := 62) ?_; intro gb208 hg w8 hbox hb; have n0_ := Aside0.mk (zbb BK207.out hb); have n1_ := Aside0.mk (below_step (zw1 HB.out GE207.out) hb); have BK208 := Aside0.mk (hbox); have GW208 := Aside0.mk (zg hg (below_size (zw1 HB.out GE207.out))); have GE208 := GW208; have NB207_208 := Aside0.mk (zlt hg BK207.out); have NB208_207 := Aside0.mk (zgt hg BK207.out); clear BK207 HB; have BK207 := n0_; have HB := n1_; clear n0_ n1_; clear hb hbox hg; have hnb9 := NB207_208.out; have hnc9 := NB208_207.out; have hcz10_0 := zc BK207.out 0; have hcz10_1 := zc BK207.out 1; have hfz10_0 := blk_frozen BK207.out 0; have hfz10_1 := blk_frozen BK207.out 1) | ((with_reducible refine gate_callee (f := 86) rfl ?_); refine zgo (some 11) Try.func86 #[.agg #[.bool a0_0, .int .i64 a0_1], .int .i64 a1] ?_; (with_reducible refine (word_Bytes.calls a0_0 a0_1 a1 t209 _ A4.out).mono ?_); rintro e w11 ⟨rfl, hb⟩; refine ⟨_, rfl, ?_⟩; have n0_ := Aside0.mk (zbb BK207.out hb); have n1_ := Aside0.mk (zbb BK208.out hb); have n2_ := Aside0.mk (below_step (zw2 HB.out GE207.out GE208.out) hb); clear BK207 BK208 HB; have BK207 := n0_; have BK208 := n1_; have HB := n2_; clear n0_ n1_ n2_; (try clear hb); (try clear hb2); (try clear hk); (try clear hi)) | ((with_reducible refine gate_dst (N := 12) rfl ?_); refine Kd.R_make k74 _ 74 rfl (N := 12) rfl 72 _ _ rfl t209 rfl rfl Try.underlying72 (.agg #[(.int .i64 0), (.int .i64 0), (.int .i64 0), (.int .i64 0), (.int .i64 0)]) 40 info74 rfl (by decide) (by omega) z74 (ok := fun _ => True) (okp := fun _ => True) (k74_mkM _ _ _ z74 ) (fun _ hk => hk) trivial (zdec) (Nat.le_trans (Nat.mul_le_mul_right _ (zdec : t209.toNat ≤ 7036874417766)) (by omega)) (Below.refl _ _) (Nat.le_refl _) ?_; intro v211 w12 ho13 hb hg_ hnew_; clear hg_ hnew_; (first | rw [← Ny210.out] at ho13 | (simp only [Int.reduceToNat] at ho13; rw [← Ny210.out] at ho13)); have HO212 := Aside0.mk (Kd.R_lower ho13 (below_size (zw2 HB.out GE207.out GE208.out))); have n1_ := Aside0.mk (zbb BK207.out hb); have n2_ := Aside0.mk (zbb BK208.out hb); have n3_ := Aside0.mk (below_step (zw2 HB.out GE207.out GE208.out) hb); clear BK207 BK208 HB; have BK207 := n1_; have BK208 := n2_; have HB := n3_; clear n1_ n2_ n3_; clear hb ho13; obtain ⟨Ao14, co14, eo14⟩ := Kd.R_slice HO212.out; subst eo14))
  go_loopg [15] k (fun kq v15 w' => ∃ (x7_1 : List (S74)) (x15_1 : Int), v15 = .int .i64 x15_1 ∧ Aside0 (bytes_Spell.l0 kq a1 x7_1 (y210.length : Int) x15_1 a0_0 a0_1 a2_0 a2_1 a2_2 a2_3 = some r) ∧ Aside0 (kq ≤ k) ∧ Aside0 (Kd.R k74 74 w' w.heap.size (fun _ => True) (.slice Ao14 y210.length co14) x7_1) ∧ Aside0 (w'.heap[gb207]? = some (.cells #[.bool a0_0, .int .i64 a0_1] 29 (0, 0))) ∧ Aside0 (w'.heap[gb208]? = some (.cells #[.bool a2_0, .int .i64 a2_1, .int .i64 a2_2, .int .i64 a2_3] 62 (0, 0))) ∧ Aside0 (Below w.heap.size w w'))
  case atStart => exact ⟨(y210), (0), (zr), H', ⟨Nat.le_refl _⟩, ⟨by (with_reducible repeat (first | apply Kd.R_alloc | apply Kd.R_drewN | apply Kd.R_drew)); exact HO212.out⟩, ⟨zb BK207.out⟩, ⟨zb BK208.out⟩, ⟨zw2 HB.out GE207.out GE208.out⟩⟩
  case round =>
   clear H'
   try clear c1; try clear p2; try clear c5; try clear c5b0; try clear c5b1; try clear c6; try clear c6b0; try clear c6b1; try clear c8; try clear c9; try clear c10
   obtain ⟨x7_1, x15_1, rfl, HA, HK1, HO_7, BK207, BK208, HB⟩ := hrel
   have hl7_1 := (Kd.R_reads' HO_7.out).1
   rw [hl7_1] at HO_7
   (try simp only [hl7_1])
   (try simp only [hl7_1] at BK207)
   (try simp only [hl7_1] at BK208)
   cases gk with
   | zero => exact absurd HA.out (by simp [bytes_Spell.l0])
   | succ k1 =>
    have H := HA.out
    clear HA
    simp only [bytes_Spell.l0] at H
    by_cases c15 : x15_1 < (y210.length : Int)
    rotate_left
    ·rw [if_neg c15] at H
     have c15b0 : decide (x15_1 < (y210.length : Int)) = false := decide_eq_false c15
     try (have c15b0r := c15b0; rw [hl7_1] at c15b0r)
     clear c15
     by_cases c34 : a1 = 7
     ·rw [if_pos c34] at H
      have c34b0 : (a1 == 7) = true := beq_iff_eq.mpr c34
      have c34b1 : (a1 != 7) = false := bne_eq_false_iff_eq.mpr c34
      clear c34
      obtain rfl := Option.some.inj H
      go_wp2
      go_ret
      exact ⟨_, ze, by (with_reducible repeat (first | apply Kd.R_alloc | apply Kd.R_drewN | apply Kd.R_drew)); exact HO_7.out, zw2 HB.out GE207.out GE208.out⟩
     rw [if_neg c34] at H
     have c34b0 : (a1 == 7) = false := beq_eq_false_iff_ne.mpr c34
     have c34b1 : (a1 != 7) = true := bne_iff_ne.mpr c34
     by_cases c35 : a0_0 = true
     rotate_left
     ·replace c35 := Bool.eq_false_iff.mpr c35
      subst c35
      have H1 : (some x7_1) = some r := by rw [if_neg (show ¬ (false = true) by decide)] at H; exact H
      clear H
      have H := H1
      clear H1
      obtain rfl := Option.some.inj H
      have hnb40 := NB207_208.out
      have hnc40 := NB208_207.out
      have hcz41_0 := zc BK207.out 0
      have hcz41_1 := zc BK207.out 1
      have hfz41_0 := blk_frozen BK207.out 0
      have hfz41_1 := blk_frozen BK207.out 1
      go_wp2
      go_ret
      exact ⟨_, ze, by (with_reducible repeat (first | apply Kd.R_alloc | apply Kd.R_drewN | apply Kd.R_drew)); exact HO_7.out, zw2 HB.out GE207.out GE208.out⟩
     subst c35
     have H1 : ((api_Byte_118.f k1 x7_1).bind fun t215 => (some t215)) = some r := by rw [if_pos rfl] at H; exact H
     clear H
     have H := H1
     clear H1
     replace H := Option.bind_eq_some_iff.mp H
     obtain ⟨t215, A360, H⟩ := H
     replace H : (some t215) = some r := H
     have A36 := Aside0.mk A360
     clear A360
     obtain rfl := Option.some.inj H
     have hnb37 := NB207_208.out
     have hnc37 := NB208_207.out
     have hcz38_0 := zc BK207.out 0
     have hcz38_1 := zc BK207.out 1
     have hfz38_0 := blk_frozen BK207.out 0
     have hfz38_1 := blk_frozen BK207.out 1
     go_wp2_with (first | ((with_reducible refine gate_callee (f := 118) rfl ?_); refine zgo (some 49) Try.func118 #[.slice Ao14 x7_1.length co14] ?_; (with_reducible refine (api_Byte_118.calls k1 (fun k_ => some k_ = (.slice Ao14 x7_1.length co14 : Value).ownBlock) (.slice Ao14 x7_1.length co14) x7_1 t215 w _ ?side1 ?side2 A36.out).mono ?_); (case side1 => repeat (first | (with_reducible first | exact HB.out | apply below_alloc | apply pw_below_drewN | apply below_drew1 | refine below_set ?_ GE207.out | refine below_set ?_ GE208.out) | exact HB.out)); (case side2 => exact Kd.R_tight rfl HO_7.out); rintro e w39 ⟨rfl, hy0, hb, hkp⟩; refine ⟨_, rfl, ?_⟩; have n0_ := Aside0.mk (Kd.R_reok rfl hy0 (fun k_ e_ => HO_7.out.1 k_ e_)); have n1_ := Aside0.mk (blk_kept (zb BK207.out) hkp (fun hs_ => (fun e_ => (Kd.R_ne HO_7.out BK207.out (by decide)) e_) hs_)); have n2_ := Aside0.mk (blk_kept (zb BK208.out) hkp (fun hs_ => (fun e_ => (Kd.R_ne HO_7.out BK208.out (by decide)) e_) hs_)); have n3_ := Aside0.mk (hb); clear HO_7 BK207 BK208 HB; have HO_7 := n0_; have BK207 := n1_; have BK208 := n2_; have HB := n3_; clear n0_ n1_ n2_ n3_; (try clear hb); (try clear hkp); (try clear hy0)))
     go_ret
     exact ⟨_, ze, by (with_reducible repeat (first | apply Kd.R_alloc | apply Kd.R_drewN | apply Kd.R_drew)); exact HO_7.out, zw2 HB.out GE207.out GE208.out⟩
    rw [if_pos c15] at H
    have c15b0 : decide (x15_1 < (y210.length : Int)) = true := decide_eq_true c15
    clear c15
    by_cases c16 : a2_2 > 0
    ·rw [if_pos c16] at H
     have c16b0 : decide (0 < a2_2) = true := decide_eq_true c16
     clear c16
     by_cases c17 : 0 ≤ x15_1
     rotate_left
     ·rw [if_neg c17] at H
      exact absurd H (by simp)
     rw [if_pos c17] at H
     have c17b0 : decide (0 ≤ x15_1) = true := decide_eq_true c17
     clear c17
     by_cases c18 : x15_1 < (x7_1.length : Int)
     rotate_left
     ·rw [if_neg c18] at H
      exact absurd H (by simp)
     rw [if_pos c18] at H
     have c18b0 : decide (x15_1 < (x7_1.length : Int)) = true := decide_eq_true c18
     clear c18
     obtain ⟨y213, hy213⟩ : ∃ y_ : List (S74), y_ = (x7_1.set (x15_1 : Int).toNat (⟨2, 0, a2_2, a2_3, x15_1⟩ : S74)) := ⟨_, rfl⟩
     replace H : (bytes_Spell.l0 k1 a1 y213 (y210.length : Int) (wrap64 (x15_1 + 1)) a0_0 a0_1 a2_0 a2_1 a2_2 a2_3) = some r := by first | (rw [hy213]; with_reducible exact H) | (have H2_ := (Option.bind_some _ _).symm.trans H; rw [hy213]; with_reducible exact H2_) | (have H2_ := (Option.bind_some _ _).symm.trans H; with_reducible exact H2_) | with_reducible exact H | (rw [hy213]; exact H) | exact H
     have Ny213 := Aside0.mk hy213
     clear hy213
     have H' := Aside0.mk H
     clear H
     have hnb20 := NB208_207.out
     have hnc20 := NB207_208.out
     have hcz21_0 := zc BK208.out 0
     have hcz21_1 := zc BK208.out 1
     have hcz21_2 := zc BK208.out 2
     have hcz21_3 := zc BK208.out 3
     have hfz21_0 := blk_frozen BK208.out 0
     have hfz21_1 := blk_frozen BK208.out 1
     have hfz21_2 := blk_frozen BK208.out 2
     have hfz21_3 := blk_frozen BK208.out 3
     have p19 : 0 ≤ (x15_1 : Int) := zdec
     have q19 : (x15_1 : Int) < ((x7_1.length : Int) : Int) := zdec
     obtain ⟨go19, co19, eo19, gb19, gl19, cl19, HG19⟩ := Kd.R_form HO_7.out (by omega)
     (first | cases eo19 | (injection eo19 with ea_ en_ ec_; (first | subst ea_ | (injection ea_ with ea_; subst ea_)); subst ec_; clear en_))
     have GB19 := Aside0.mk gb19
     have GG19 := Aside0.mk HG19
     clear gb19 gl19 HG19
     obtain ⟨ce19, hcl19, hM19, hcc19, hfr19⟩ := Kd.R_elem HO_7.out z74 (x15_1 : Int) p19 q19
     obtain rfl := k74_openM hM19
     have hx19_0 : wr.cell? ⟨go19, (x15_1 : Int).toNat * 5, none⟩ = some (.int .i64 ((rd_T74 x7_1 x15_1).f0)) := hcc19 0 _ rfl
     have hx19_1 : wr.cell? ⟨go19, (x15_1 : Int).toNat * 5 + 1, none⟩ = some (.int .i64 ((rd_T74 x7_1 x15_1).f1)) := hcc19 1 _ rfl
     have hx19_2 : wr.cell? ⟨go19, (x15_1 : Int).toNat * 5 + 2, none⟩ = some (.int .i64 ((rd_T74 x7_1 x15_1).f2)) := hcc19 2 _ rfl
     have hx19_3 : wr.cell? ⟨go19, (x15_1 : Int).toNat * 5 + 3, none⟩ = some (.int .i64 ((rd_T74 x7_1 x15_1).f3)) := hcc19 3 _ rfl
     have hx19_4 : wr.cell? ⟨go19, (x15_1 : Int).toNat * 5 + 4, none⟩ = some (.int .i64 ((rd_T74 x7_1 x15_1).f4)) := hcc19 4 _ rfl
     have hf19_0 : wr.frozen? ⟨go19, (x15_1 : Int).toNat * 5, none⟩ = false := hfr19 0
     have hf19_1 : wr.frozen? ⟨go19, (x15_1 : Int).toNat * 5 + 1, none⟩ = false := hfr19 1
     have hf19_2 : wr.frozen? ⟨go19, (x15_1 : Int).toNat * 5 + 2, none⟩ = false := hfr19 2
     have hf19_3 : wr.frozen? ⟨go19, (x15_1 : Int).toNat * 5 + 3, none⟩ = false := hfr19 3
     have hf19_4 : wr.frozen? ⟨go19, (x15_1 : Int).toNat * 5 + 4, none⟩ = false := hfr19 4
     clear hcl19 hcc19 hfr19 hM19
     replace p19 := eq_true p19
     replace q19 := eq_true q19
     have HX22 := Aside0.mk (show Kd.R k74 74 wr w.heap.size (fun _ => True) (.slice (some ⟨go19, 0, none⟩) x7_1.length co14) x7_1 from (by (with_reducible repeat (first | apply Kd.R_alloc | apply Kd.R_drewN | apply Kd.R_drew)); exact HO_7.out))
     obtain ⟨ce22, hcl22, hM22, hcc22, hfr22⟩ := Kd.R_elem HX22.out z74 (x15_1 : Int) (zdec) (by have h_ : (x15_1 : Int) < ((x7_1.length : Int) : Int) := zdec; first | exact h_ | (have e_ := (Kd.R_reads' HO_7.out).1; omega) | simpa using h_)
     obtain rfl := k74_openM hM22
     have HP22 := Kd.R_seg HX22.out (x15_1 : Int) (zdec) (by have h_ : (x15_1 : Int) < ((x7_1.length : Int) : Int) := zdec; first | exact h_ | (have e_ := (Kd.R_reads' HO_7.out).1; omega) | simpa using h_) (seg := [.int .i64 2, .int .i64 0, .int .i64 a2_2, .int .i64 a2_3, .int .i64 x15_1]) (j := 0) hcl22 hcc22 (show 5 ≤ 5 from by decide) (x' := (⟨2, 0, a2_2, a2_3, x15_1⟩ : S74)) (k74_mkM _ _ _ (⟨2, 0, a2_2, a2_3, x15_1⟩ : S74) ) (fun _ hk => hk)
     have hx22_0 := hcc22 0 _ rfl
     (try simp only [show (k74).sz = 5 from rfl, Nat.mul_one, Nat.add_zero] at hx22_0)
     have hf22_0 := hfr22 0
     (try simp only [show (k74).sz = 5 from rfl, Nat.mul_one, Nat.add_zero] at hf22_0)
     have hx22_1 := hcc22 1 _ rfl
     (try simp only [show (k74).sz = 5 from rfl, Nat.mul_one, Nat.add_zero] at hx22_1)
     have hf22_1 := hfr22 1
     (try simp only [show (k74).sz = 5 from rfl, Nat.mul_one, Nat.add_zero] at hf22_1)
     have hx22_2 := hcc22 2 _ rfl
     (try simp only [show (k74).sz = 5 from rfl, Nat.mul_one, Nat.add_zero] at hx22_2)
     have hf22_2 := hfr22 2
     (try simp only [show (k74).sz = 5 from rfl, Nat.mul_one, Nat.add_zero] at hf22_2)
     have hx22_3 := hcc22 3 _ rfl
     (try simp only [show (k74).sz = 5 from rfl, Nat.mul_one, Nat.add_zero] at hx22_3)
     have hf22_3 := hfr22 3
     (try simp only [show (k74).sz = 5 from rfl, Nat.mul_one, Nat.add_zero] at hf22_3)
     have hx22_4 := hcc22 4 _ rfl
     (try simp only [show (k74).sz = 5 from rfl, Nat.mul_one, Nat.add_zero] at hx22_4)
     have hf22_4 := hfr22 4
     (try simp only [show (k74).sz = 5 from rfl, Nat.mul_one, Nat.add_zero] at hf22_4)
     clear hcl22 hcc22 hfr22 hM22
     go_wp2_with (first | ((with_reducible refine gate_store (t := 74) (p := 40) rfl ?_); refine store_event (t := 74) (p := 40) (v := ?vo_w23) (w1 := (((((wr.setCell ⟨go19, (x15_1 : Int).toNat * 5, none⟩ (.int .i64 2)).setCell ⟨go19, (x15_1 : Int).toNat * 5 + 1, none⟩ (.int .i64 0)).setCell ⟨go19, (x15_1 : Int).toNat * 5 + 2, none⟩ (.int .i64 a2_2)).setCell ⟨go19, (x15_1 : Int).toNat * 5 + 3, none⟩ (.int .i64 a2_3)).setCell ⟨go19, (x15_1 : Int).toNat * 5 + 4, none⟩ (.int .i64 x15_1))) ?hg ?ho ?hn ?hr ?_; (case ho => rfl); (case hg => rfl); (case hn => rfl); (case hr => first | (go_simp; done) | (go_simp; rfl)); intro w23 hw; have hg : wr.grownBy w23 (some go19) := (by rw [hw]; exact HP22.2); have hp_ : Kd.R k74 74 w23 w.heap.size (fun _ => True) (.slice (some ⟨go19, 0, none⟩) x7_1.length co14) y213 := (by rw [hw, Ny213.out]; exact HP22.1); clear HP22; have n0_ := Aside0.mk (hp_); have n1_ := Aside0.mk (blk_grown (g := gb207) (o := .cells #[.bool a0_0, .int .i64 a0_1] 29 (0, 0)) (zb BK207.out) hg (Kd.R_ne HO_7.out BK207.out (by decide))); have n2_ := Aside0.mk (blk_grown (g := gb208) (o := .cells #[.bool a2_0, .int .i64 a2_1, .int .i64 a2_2, .int .i64 a2_3] 62 (0, 0)) (zb BK208.out) hg (Kd.R_ne HO_7.out BK208.out (by decide))); have n3_ := Aside0.mk ((by rw [hw]; exact below_set (below_set (below_set (below_set (below_set (HB.out) GB19.out) GB19.out) GB19.out) GB19.out) GB19.out : Below w.heap.size w w23)); clear HO_7 BK207 BK208 HB; have HO_7 := n0_; have BK207 := n1_; have BK208 := n2_; have HB := n3_; clear n0_ n1_ n2_ n3_; clear hg hw hp_))
     (try simp only [← hl7_1])
     go_roundg k1
     case measure => have := HK1.out; omega
     case rel => exact ⟨(y213), (wrap64 (x15_1 + 1)), (zr), H', ⟨by have := HK1.out; omega⟩, ⟨by (try simp only [hl7_1]); (with_reducible repeat (first | apply Kd.R_alloc | apply Kd.R_drewN | apply Kd.R_drew)); exact HO_7.out⟩, ⟨by (try simp only [hl7_1]); (with_reducible repeat (first | refine blk_drewN ?_ _ | refine blk_drew ?_ | refine blk_alloc ?_ _)); exact BK207.out⟩, ⟨by (try simp only [hl7_1]); (with_reducible repeat (first | refine blk_drewN ?_ _ | refine blk_drew ?_ | refine blk_alloc ?_ _)); exact BK208.out⟩, ⟨zw2 HB.out GE207.out GE208.out⟩⟩
    rw [if_neg c16] at H
    have c16b0 : decide (0 < a2_2) = false := decide_eq_false c16
    clear c16
    obtain ⟨ji24, hji24⟩ : ∃ j_ : Int, (wrap64 (8 * x15_1)) = j_ := ⟨_, rfl⟩
    replace H : (if 0 ≤ (ji24) then (if 0 ≤ x15_1 then (if x15_1 < (x7_1.length : Int) then (bytes_Spell.l0 k1 a1 (x7_1.set (x15_1 : Int).toNat (⟨1, Go.bits .and .i64 (shr .i64 a2_1 (ji24)) 255, 0, 0, 0⟩ : S74)) (y210.length : Int) (wrap64 (x15_1 + 1)) a0_0 a0_1 a2_0 a2_1 a2_2 a2_3) else (none)) else (none)) else (none)) = some r := by first | (rw [hji24] at H; exact H) | (simp only [hji24] at H ⊢; exact H)
    have hji24w : (IntKind.i64.wrap (8 * x15_1)) = ji24 := (i64_w _).trans hji24
    by_cases c25 : 0 ≤ (ji24)
    rotate_left
    ·rw [if_neg c25] at H
     exact absurd H (by simp)
    rw [if_pos c25] at H
    have c25b0 := eq_true c25
    have c25b1 : decide (0 ≤ (ji24)) = true := decide_eq_true c25
    clear c25
    obtain ⟨ji26, hji26⟩ : ∃ j_ : Int, (shr .i64 a2_1 (ji24)) = j_ := ⟨_, rfl⟩
    replace H : (if 0 ≤ x15_1 then (if x15_1 < (x7_1.length : Int) then (bytes_Spell.l0 k1 a1 (x7_1.set (x15_1 : Int).toNat (⟨1, Go.bits .and .i64 (ji26) 255, 0, 0, 0⟩ : S74)) (y210.length : Int) (wrap64 (x15_1 + 1)) a0_0 a0_1 a2_0 a2_1 a2_2 a2_3) else (none)) else (none)) = some r := by first | (rw [hji26] at H; exact H) | (simp only [hji26] at H ⊢; exact H)
    have hji26_ : (a2_1 / 2 ^ min (ji24).toNat 64) = ji26 := hji26
    have hji26z : (ji24) ≤ 64 → (a2_1 / 2 ^ (ji24).toNat) = ji26 := shr_small hji26
    by_cases c27 : 0 ≤ x15_1
    rotate_left
    ·rw [if_neg c27] at H
     exact absurd H (by simp)
    rw [if_pos c27] at H
    have c27b0 : decide (0 ≤ x15_1) = true := decide_eq_true c27
    clear c27
    by_cases c28 : x15_1 < (x7_1.length : Int)
    rotate_left
    ·rw [if_neg c28] at H
     exact absurd H (by simp)
    rw [if_pos c28] at H
    have c28b0 : decide (x15_1 < (x7_1.length : Int)) = true := decide_eq_true c28
    clear c28
    obtain ⟨y214, hy214⟩ : ∃ y_ : List (S74), y_ = (x7_1.set (x15_1 : Int).toNat (⟨1, Go.bits .and .i64 (ji26) 255, 0, 0, 0⟩ : S74)) := ⟨_, rfl⟩
    replace H : (bytes_Spell.l0 k1 a1 y214 (y210.length : Int) (wrap64 (x15_1 + 1)) a0_0 a0_1 a2_0 a2_1 a2_2 a2_3) = some r := by first | (rw [hy214]; with_reducible exact H) | (have H2_ := (Option.bind_some _ _).symm.trans H; rw [hy214]; with_reducible exact H2_) | (have H2_ := (Option.bind_some _ _).symm.trans H; with_reducible exact H2_) | with_reducible exact H | (rw [hy214]; exact H) | exact H
    have Ny214 := Aside0.mk hy214
    clear hy214
    have H' := Aside0.mk H
    clear H
    have hnb30 := NB208_207.out
    have hnc30 := NB207_208.out
    have hcz31_0 := zc BK208.out 0
    have hcz31_1 := zc BK208.out 1
    have hcz31_2 := zc BK208.out 2
    have hcz31_3 := zc BK208.out 3
    have hfz31_0 := blk_frozen BK208.out 0
    have hfz31_1 := blk_frozen BK208.out 1
    have hfz31_2 := blk_frozen BK208.out 2
    have hfz31_3 := blk_frozen BK208.out 3
    have p29 : 0 ≤ (x15_1 : Int) := zdec
    have q29 : (x15_1 : Int) < ((x7_1.length : Int) : Int) := zdec
    obtain ⟨go29, co29, eo29, gb29, gl29, cl29, HG29⟩ := Kd.R_form HO_7.out (by omega)
    (first | cases eo29 | (injection eo29 with ea_ en_ ec_; (first | subst ea_ | (injection ea_ with ea_; subst ea_)); subst ec_; clear en_))
    have GB29 := Aside0.mk gb29
    have GG29 := Aside0.mk HG29
    clear gb29 gl29 HG29
    obtain ⟨ce29, hcl29, hM29, hcc29, hfr29⟩ := Kd.R_elem HO_7.out z74 (x15_1 : Int) p29 q29
    obtain rfl := k74_openM hM29
    have hx29_0 : wr.cell? ⟨go29, (x15_1 : Int).toNat * 5, none⟩ = some (.int .i64 ((rd_T74 x7_1 x15_1).f0)) := hcc29 0 _ rfl
    have hx29_1 : wr.cell? ⟨go29, (x15_1 : Int).toNat * 5 + 1, none⟩ = some (.int .i64 ((rd_T74 x7_1 x15_1).f1)) := hcc29 1 _ rfl
    have hx29_2 : wr.cell? ⟨go29, (x15_1 : Int).toNat * 5 + 2, none⟩ = some (.int .i64 ((rd_T74 x7_1 x15_1).f2)) := hcc29 2 _ rfl
    have hx29_3 : wr.cell? ⟨go29, (x15_1 : Int).toNat * 5 + 3, none⟩ = some (.int .i64 ((rd_T74 x7_1 x15_1).f3)) := hcc29 3 _ rfl
    have hx29_4 : wr.cell? ⟨go29, (x15_1 : Int).toNat * 5 + 4, none⟩ = some (.int .i64 ((rd_T74 x7_1 x15_1).f4)) := hcc29 4 _ rfl
    have hf29_0 : wr.frozen? ⟨go29, (x15_1 : Int).toNat * 5, none⟩ = false := hfr29 0
    have hf29_1 : wr.frozen? ⟨go29, (x15_1 : Int).toNat * 5 + 1, none⟩ = false := hfr29 1
    have hf29_2 : wr.frozen? ⟨go29, (x15_1 : Int).toNat * 5 + 2, none⟩ = false := hfr29 2
    have hf29_3 : wr.frozen? ⟨go29, (x15_1 : Int).toNat * 5 + 3, none⟩ = false := hfr29 3
    have hf29_4 : wr.frozen? ⟨go29, (x15_1 : Int).toNat * 5 + 4, none⟩ = false := hfr29 4
    clear hcl29 hcc29 hfr29 hM29
    replace p29 := eq_true p29
    replace q29 := eq_true q29
    have HX32 := Aside0.mk (show Kd.R k74 74 wr w.heap.size (fun _ => True) (.slice (some ⟨go29, 0, none⟩) x7_1.length co14) x7_1 from (by (with_reducible repeat (first | apply Kd.R_alloc | apply Kd.R_drewN | apply Kd.R_drew)); exact HO_7.out))
    obtain ⟨ce32, hcl32, hM32, hcc32, hfr32⟩ := Kd.R_elem HX32.out z74 (x15_1 : Int) (zdec) (by have h_ : (x15_1 : Int) < ((x7_1.length : Int) : Int) := zdec; first | exact h_ | (have e_ := (Kd.R_reads' HO_7.out).1; omega) | simpa using h_)
    obtain rfl := k74_openM hM32
    have HP32 := Kd.R_seg HX32.out (x15_1 : Int) (zdec) (by have h_ : (x15_1 : Int) < ((x7_1.length : Int) : Int) := zdec; first | exact h_ | (have e_ := (Kd.R_reads' HO_7.out).1; omega) | simpa using h_) (seg := [.int .i64 1, .int .i64 (Go.bits .and .i64 (ji26) 255), .int .i64 0, .int .i64 0, .int .i64 0]) (j := 0) hcl32 hcc32 (show 5 ≤ 5 from by decide) (x' := (⟨1, Go.bits .and .i64 (ji26) 255, 0, 0, 0⟩ : S74)) (k74_mkM _ _ _ (⟨1, Go.bits .and .i64 (ji26) 255, 0, 0, 0⟩ : S74) ) (fun _ hk => hk)
    have hx32_0 := hcc32 0 _ rfl
    (try simp only [show (k74).sz = 5 from rfl, Nat.mul_one, Nat.add_zero] at hx32_0)
    have hf32_0 := hfr32 0
    (try simp only [show (k74).sz = 5 from rfl, Nat.mul_one, Nat.add_zero] at hf32_0)
    have hx32_1 := hcc32 1 _ rfl
    (try simp only [show (k74).sz = 5 from rfl, Nat.mul_one, Nat.add_zero] at hx32_1)
    have hf32_1 := hfr32 1
    (try simp only [show (k74).sz = 5 from rfl, Nat.mul_one, Nat.add_zero] at hf32_1)
    have hx32_2 := hcc32 2 _ rfl
    (try simp only [show (k74).sz = 5 from rfl, Nat.mul_one, Nat.add_zero] at hx32_2)
    have hf32_2 := hfr32 2
    (try simp only [show (k74).sz = 5 from rfl, Nat.mul_one, Nat.add_zero] at hf32_2)
    have hx32_3 := hcc32 3 _ rfl
    (try simp only [show (k74).sz = 5 from rfl, Nat.mul_one, Nat.add_zero] at hx32_3)
    have hf32_3 := hfr32 3
    (try simp only [show (k74).sz = 5 from rfl, Nat.mul_one, Nat.add_zero] at hf32_3)
    have hx32_4 := hcc32 4 _ rfl
    (try simp only [show (k74).sz = 5 from rfl, Nat.mul_one, Nat.add_zero] at hx32_4)
    have hf32_4 := hfr32 4
    (try simp only [show (k74).sz = 5 from rfl, Nat.mul_one, Nat.add_zero] at hf32_4)
    clear hcl32 hcc32 hfr32 hM32
    go_wp2_with (first | ((with_reducible refine gate_store (t := 74) (p := 27) rfl ?_); refine store_event (t := 74) (p := 27) (v := ?vo_w33) (w1 := (((((wr.setCell ⟨go29, (x15_1 : Int).toNat * 5, none⟩ (.int .i64 1)).setCell ⟨go29, (x15_1 : Int).toNat * 5 + 1, none⟩ (.int .i64 (Go.bits .and .i64 (ji26) 255))).setCell ⟨go29, (x15_1 : Int).toNat * 5 + 2, none⟩ (.int .i64 0)).setCell ⟨go29, (x15_1 : Int).toNat * 5 + 3, none⟩ (.int .i64 0)).setCell ⟨go29, (x15_1 : Int).toNat * 5 + 4, none⟩ (.int .i64 0))) ?hg ?ho ?hn ?hr ?_; (case ho => rfl); (case hg => rfl); (case hn => rfl); (case hr => first | (go_simp; done) | (go_simp; rfl)); intro w33 hw; have hg : wr.grownBy w33 (some go29) := (by rw [hw]; exact HP32.2); have hp_ : Kd.R k74 74 w33 w.heap.size (fun _ => True) (.slice (some ⟨go29, 0, none⟩) x7_1.length co14) y214 := (by rw [hw, Ny214.out]; exact HP32.1); clear HP32; have n0_ := Aside0.mk (hp_); have n1_ := Aside0.mk (blk_grown (g := gb207) (o := .cells #[.bool a0_0, .int .i64 a0_1] 29 (0, 0)) (zb BK207.out) hg (Kd.R_ne HO_7.out BK207.out (by decide))); have n2_ := Aside0.mk (blk_grown (g := gb208) (o := .cells #[.bool a2_0, .int .i64 a2_1, .int .i64 a2_2, .int .i64 a2_3] 62 (0, 0)) (zb BK208.out) hg (Kd.R_ne HO_7.out BK208.out (by decide))); have n3_ := Aside0.mk ((by rw [hw]; exact below_set (below_set (below_set (below_set (below_set (HB.out) GB29.out) GB29.out) GB29.out) GB29.out) GB29.out : Below w.heap.size w w33)); clear HO_7 BK207 BK208 HB; have HO_7 := n0_; have BK207 := n1_; have BK208 := n2_; have HB := n3_; clear n0_ n1_ n2_ n3_; clear hg hw hp_))
    (try simp only [← hl7_1])
    go_roundg k1
    case measure => have := HK1.out; omega
    case rel => exact ⟨(y214), (wrap64 (x15_1 + 1)), (zr), H', ⟨by have := HK1.out; omega⟩, ⟨by (try simp only [hl7_1]); (with_reducible repeat (first | apply Kd.R_alloc | apply Kd.R_drewN | apply Kd.R_drew)); exact HO_7.out⟩, ⟨by (try simp only [hl7_1]); (with_reducible repeat (first | refine blk_drewN ?_ _ | refine blk_drew ?_ | refine blk_alloc ?_ _)); exact BK207.out⟩, ⟨by (try simp only [hl7_1]); (with_reducible repeat (first | refine blk_drewN ?_ _ | refine blk_drew ?_ | refine blk_alloc ?_ _)); exact BK208.out⟩, ⟨zw2 HB.out GE207.out GE208.out⟩⟩
 ·rw [if_neg c5] at H
  exact absurd H (by simp)

end Go.Proofs.Ytjoplkillkhiaaa.St
