-- Written by this session's own edition of the print.
import Derived.Test.YtjoplkillkhiaaaQ2x0
import Derived.Test.YtjoplkillkhiaaaQ2x2
import Derived.Test.YtjoplkillkhiaaaQ2x3
import Derived.Test.YtjoplkillkhiaaaYSq
import Derived.Test.YtjoplkillkhiaaaYSq2
namespace Go.Proofs.Ytjoplkillkhiaaa.Q2
open Go.RowKit Go.Proofs.Ytjoplkillkhiaaa.Fn Go.Proofs.YtjoplkillkhiaaaW.PrintWords Go.Proofs.YtjoplkillkhiaaaW.PrintLast Go.Proofs.YtjoplkillkhiaaaW.PrintMore
attribute [local go_sem] max2_int min2_int max_two min_two max_three min_three max_four min_four   -- for this text's walks alone
set_option linter.unusedVariables false
set_option linter.unusedSimpArgs false

attribute [local go_sem high] eqA74
/-! bytes_Is -/
def bytes_Is.f (a0_0 : Int) (a0_1 : Int) (a0_2 : Int) (a0_3 : Int) (a0_4 : Int) : Option (Bool) := if a0_0 = 0 then (some (a0_0 == 0 && (a0_1 == 0 && (a0_2 == 0 && (a0_3 == 0 && (a0_4 == 0)))))) else (if a0_0 = 1 then ((bytes_up.f a0_1 255).bind fun t123 => (if t123 = true then (some (a0_0 == 1 && (a0_2 == 0 && (a0_3 == 0 && (a0_4 == 0))))) else (some false))) else (if a0_0 = 2 then (if a0_1 = 0 then (if a0_2 ≥ 1 then (if a0_2 ≤ 32 then ((bytes_up.f a0_3 32).bind fun t124 => (if t124 = true then ((bytes_up.f a0_4 3).bind fun t125 => (some t125)) else (some false))) else (some false)) else (some false)) else (some false)) else (some false)))
set_option maxHeartbeats 8000000 in
set_option maxRecDepth 100000 in
theorem bytes_Is.calls (a0_0 : Int) (a0_1 : Int) (a0_2 : Int) (a0_3 : Int) (a0_4 : Int) (r : Bool) (w : World) (h : bytes_Is.f a0_0 a0_1 a0_2 a0_3 a0_4 = some r) :
  Calls Try.prog 124 #[.agg #[.int .i64 a0_0, .int .i64 a0_1, .int .i64 a0_2, .int .i64 a0_3, .int .i64 a0_4]] w fun e w' => e = .returned (.bool r) ∧ Below w.heap.size w w' := by
 have hu74 := Try.underlying74
 have HB := Aside0.mk (Below.refl w.heap.size w)
 have H : (if a0_0 = 0 then (some (a0_0 == 0 && (a0_1 == 0 && (a0_2 == 0 && (a0_3 == 0 && (a0_4 == 0)))))) else (if a0_0 = 1 then ((bytes_up.f a0_1 255).bind fun t123 => (if t123 = true then (some (a0_0 == 1 && (a0_2 == 0 && (a0_3 == 0 && (a0_4 == 0))))) else (some false))) else (if a0_0 = 2 then (if a0_1 = 0 then (if a0_2 ≥ 1 then (if a0_2 ≤ 32 then ((bytes_up.f a0_3 32).bind fun t124 => (if t124 = true then ((bytes_up.f a0_4 3).bind fun t125 => (some t125)) else (some false))) else (some false)) else (some false)) else (some false)) else (some false)))) = some r := h
 clear h
 by_cases c2 : a0_0 = 0
 ·rw [if_pos c2] at H
  have c2b0 : (a0_0 == 0) = true := beq_iff_eq.mpr c2
  have c2b1 : (a0_0 != 0) = false := bne_eq_false_iff_eq.mpr c2
  clear c2
  obtain rfl := Option.some.inj H
  go_enter Try.func124, Try.ntmps124
  go_wp2_with (first | ((with_reducible refine gate_dst (N := 1) rfl ?_); refine zbox (N := 1) (cs := #[.int .i64 a0_0, .int .i64 a0_1, .int .i64 a0_2, .int .i64 a0_3, .int .i64 a0_4]) (t := 74) ?_; intro gb122 hg w3 hbox hb; have n0_ := Aside0.mk (below_step (zw0 HB.out) hb); have BK122 := Aside0.mk (hbox); have GW122 := Aside0.mk (zg hg (below_size (zw0 HB.out))); have GE122 := GW122; clear HB; have HB := n0_; clear n0_; clear hb hbox hg; have hcz4_0 := zc BK122.out 0; have hcz4_1 := zc BK122.out 1; have hcz4_2 := zc BK122.out 2; have hcz4_3 := zc BK122.out 3; have hcz4_4 := zc BK122.out 4; have hfz4_0 := blk_frozen BK122.out 0; have hfz4_1 := blk_frozen BK122.out 1; have hfz4_2 := blk_frozen BK122.out 2; have hfz4_3 := blk_frozen BK122.out 3; have hfz4_4 := blk_frozen BK122.out 4))
  go_ret
  exact ⟨ze, zw1 HB.out GE122.out⟩
 ·rw [if_neg c2] at H
  have c2b0 : (a0_0 == 0) = false := beq_eq_false_iff_ne.mpr c2
  have c2b1 : (a0_0 != 0) = true := bne_iff_ne.mpr c2
  by_cases c5 : a0_0 = 1
  ·rw [if_pos c5] at H
   have c5b0 : (a0_0 == 1) = true := beq_iff_eq.mpr c5
   have c5b1 : (a0_0 != 1) = false := bne_eq_false_iff_eq.mpr c5
   clear c5
   replace H := Option.bind_eq_some_iff.mp H
   obtain ⟨t123, A60, H⟩ := H
   replace H : (if t123 = true then (some (a0_0 == 1 && (a0_2 == 0 && (a0_3 == 0 && (a0_4 == 0))))) else (some false)) = some r := H
   have A6 := Aside0.mk A60
   clear A60
   by_cases c7 : t123 = true
   ·subst c7
    have H1 : (some (a0_0 == 1 && (a0_2 == 0 && (a0_3 == 0 && (a0_4 == 0))))) = some r := by rw [if_pos rfl] at H; exact H
    clear H
    have H := H1
    clear H1
    obtain rfl := Option.some.inj H
    go_enter Try.func124, Try.ntmps124
    go_wp2_with (first | ((with_reducible refine gate_dst (N := 1) rfl ?_); refine zbox (N := 1) (cs := #[.int .i64 a0_0, .int .i64 a0_1, .int .i64 a0_2, .int .i64 a0_3, .int .i64 a0_4]) (t := 74) ?_; intro gb122 hg w8 hbox hb; have n0_ := Aside0.mk (below_step (zw0 HB.out) hb); have BK122 := Aside0.mk (hbox); have GW122 := Aside0.mk (zg hg (below_size (zw0 HB.out))); have GE122 := GW122; clear HB; have HB := n0_; clear n0_; clear hb hbox hg; have hcz9_0 := zc BK122.out 0; have hcz9_1 := zc BK122.out 1; have hcz9_2 := zc BK122.out 2; have hcz9_3 := zc BK122.out 3; have hcz9_4 := zc BK122.out 4; have hfz9_0 := blk_frozen BK122.out 0; have hfz9_1 := blk_frozen BK122.out 1; have hfz9_2 := blk_frozen BK122.out 2; have hfz9_3 := blk_frozen BK122.out 3; have hfz9_4 := blk_frozen BK122.out 4) | ((with_reducible refine gate_callee (f := 100) rfl ?_); refine zgo (some 14) Try.func100 #[.int .i64 a0_1, .int .i64 255] ?_; (with_reducible refine (bytes_up.calls a0_1 255 true _ A6.out).mono ?_); rintro e w' ⟨rfl, ⟨nd, rfl⟩⟩; refine ⟨_, rfl, ?_⟩))
    go_ret
    exact ⟨ze, zw1 HB.out GE122.out⟩
   replace c7 := Bool.eq_false_iff.mpr c7
   subst c7
   have H1 : (some false) = some r := by rw [if_neg (show ¬ (false = true) by decide)] at H; exact H
   clear H
   have H := H1
   clear H1
   obtain rfl := Option.some.inj H
   go_enter Try.func124, Try.ntmps124
   go_wp2_with (first | ((with_reducible refine gate_dst (N := 1) rfl ?_); refine zbox (N := 1) (cs := #[.int .i64 a0_0, .int .i64 a0_1, .int .i64 a0_2, .int .i64 a0_3, .int .i64 a0_4]) (t := 74) ?_; intro gb122 hg w10 hbox hb; have n0_ := Aside0.mk (below_step (zw0 HB.out) hb); have BK122 := Aside0.mk (hbox); have GW122 := Aside0.mk (zg hg (below_size (zw0 HB.out))); have GE122 := GW122; clear HB; have HB := n0_; clear n0_; clear hb hbox hg; have hcz11_0 := zc BK122.out 0; have hcz11_1 := zc BK122.out 1; have hcz11_2 := zc BK122.out 2; have hcz11_3 := zc BK122.out 3; have hcz11_4 := zc BK122.out 4; have hfz11_0 := blk_frozen BK122.out 0; have hfz11_1 := blk_frozen BK122.out 1; have hfz11_2 := blk_frozen BK122.out 2; have hfz11_3 := blk_frozen BK122.out 3; have hfz11_4 := blk_frozen BK122.out 4) | ((with_reducible refine gate_callee (f := 100) rfl ?_); refine zgo (some 14) Try.func100 #[.int .i64 a0_1, .int .i64 255] ?_; (with_reducible refine (bytes_up.calls a0_1 255 false _ A6.out).mono ?_); rintro e w' ⟨rfl, ⟨nd, rfl⟩⟩; refine ⟨_, rfl, ?_⟩))
   go_ret
   exact ⟨ze, zw1 HB.out GE122.out⟩
  ·rw [if_neg c5] at H
   have c5b0 : (a0_0 == 1) = false := beq_eq_false_iff_ne.mpr c5
   have c5b1 : (a0_0 != 1) = true := bne_iff_ne.mpr c5
   by_cases c12 : a0_0 = 2
   ·rw [if_pos c12] at H
    have c12b0 : (a0_0 == 2) = true := beq_iff_eq.mpr c12
    have c12b1 : (a0_0 != 2) = false := bne_eq_false_iff_eq.mpr c12
    clear c12
    by_cases c13 : a0_1 = 0
    rotate_left
    ·rw [if_neg c13] at H
     have c13b0 : (a0_1 == 0) = false := beq_eq_false_iff_ne.mpr c13
     have c13b1 : (a0_1 != 0) = true := bne_iff_ne.mpr c13
     obtain rfl := Option.some.inj H
     go_enter Try.func124, Try.ntmps124
     go_wp2_with (first | ((with_reducible refine gate_dst (N := 1) rfl ?_); refine zbox (N := 1) (cs := #[.int .i64 a0_0, .int .i64 a0_1, .int .i64 a0_2, .int .i64 a0_3, .int .i64 a0_4]) (t := 74) ?_; intro gb122 hg w27 hbox hb; have n0_ := Aside0.mk (below_step (zw0 HB.out) hb); have BK122 := Aside0.mk (hbox); have GW122 := Aside0.mk (zg hg (below_size (zw0 HB.out))); have GE122 := GW122; clear HB; have HB := n0_; clear n0_; clear hb hbox hg; have hcz28_0 := zc BK122.out 0; have hcz28_1 := zc BK122.out 1; have hcz28_2 := zc BK122.out 2; have hcz28_3 := zc BK122.out 3; have hcz28_4 := zc BK122.out 4; have hfz28_0 := blk_frozen BK122.out 0; have hfz28_1 := blk_frozen BK122.out 1; have hfz28_2 := blk_frozen BK122.out 2; have hfz28_3 := blk_frozen BK122.out 3; have hfz28_4 := blk_frozen BK122.out 4))
     go_ret
     exact ⟨ze, zw1 HB.out GE122.out⟩
    rw [if_pos c13] at H
    have c13b0 : (a0_1 == 0) = true := beq_iff_eq.mpr c13
    have c13b1 : (a0_1 != 0) = false := bne_eq_false_iff_eq.mpr c13
    clear c13
    by_cases c14 : a0_2 ≥ 1
    rotate_left
    ·rw [if_neg c14] at H
     have c14b0 : decide (1 ≤ a0_2) = false := decide_eq_false c14
     clear c14
     obtain rfl := Option.some.inj H
     go_enter Try.func124, Try.ntmps124
     go_wp2_with (first | ((with_reducible refine gate_dst (N := 1) rfl ?_); refine zbox (N := 1) (cs := #[.int .i64 a0_0, .int .i64 a0_1, .int .i64 a0_2, .int .i64 a0_3, .int .i64 a0_4]) (t := 74) ?_; intro gb122 hg w25 hbox hb; have n0_ := Aside0.mk (below_step (zw0 HB.out) hb); have BK122 := Aside0.mk (hbox); have GW122 := Aside0.mk (zg hg (below_size (zw0 HB.out))); have GE122 := GW122; clear HB; have HB := n0_; clear n0_; clear hb hbox hg; have hcz26_0 := zc BK122.out 0; have hcz26_1 := zc BK122.out 1; have hcz26_2 := zc BK122.out 2; have hcz26_3 := zc BK122.out 3; have hcz26_4 := zc BK122.out 4; have hfz26_0 := blk_frozen BK122.out 0; have hfz26_1 := blk_frozen BK122.out 1; have hfz26_2 := blk_frozen BK122.out 2; have hfz26_3 := blk_frozen BK122.out 3; have hfz26_4 := blk_frozen BK122.out 4))
     go_ret
     exact ⟨ze, zw1 HB.out GE122.out⟩
    rw [if_pos c14] at H
    have c14b0 : decide (1 ≤ a0_2) = true := decide_eq_true c14
    clear c14
    by_cases c15 : a0_2 ≤ 32
    rotate_left
    ·rw [if_neg c15] at H
     have c15b0 : decide (a0_2 ≤ 32) = false := decide_eq_false c15
     clear c15
     obtain rfl := Option.some.inj H
     go_enter Try.func124, Try.ntmps124
     go_wp2_with (first | ((with_reducible refine gate_dst (N := 1) rfl ?_); refine zbox (N := 1) (cs := #[.int .i64 a0_0, .int .i64 a0_1, .int .i64 a0_2, .int .i64 a0_3, .int .i64 a0_4]) (t := 74) ?_; intro gb122 hg w23 hbox hb; have n0_ := Aside0.mk (below_step (zw0 HB.out) hb); have BK122 := Aside0.mk (hbox); have GW122 := Aside0.mk (zg hg (below_size (zw0 HB.out))); have GE122 := GW122; clear HB; have HB := n0_; clear n0_; clear hb hbox hg; have hcz24_0 := zc BK122.out 0; have hcz24_1 := zc BK122.out 1; have hcz24_2 := zc BK122.out 2; have hcz24_3 := zc BK122.out 3; have hcz24_4 := zc BK122.out 4; have hfz24_0 := blk_frozen BK122.out 0; have hfz24_1 := blk_frozen BK122.out 1; have hfz24_2 := blk_frozen BK122.out 2; have hfz24_3 := blk_frozen BK122.out 3; have hfz24_4 := blk_frozen BK122.out 4))
     go_ret
     exact ⟨ze, zw1 HB.out GE122.out⟩
    rw [if_pos c15] at H
    have c15b0 : decide (a0_2 ≤ 32) = true := decide_eq_true c15
    clear c15
    replace H := Option.bind_eq_some_iff.mp H
    obtain ⟨t124, A160, H⟩ := H
    replace H : (if t124 = true then ((bytes_up.f a0_4 3).bind fun t125 => (some t125)) else (some false)) = some r := H
    have A16 := Aside0.mk A160
    clear A160
    by_cases c17 : t124 = true
    rotate_left
    ·replace c17 := Bool.eq_false_iff.mpr c17
     subst c17
     have H1 : (some false) = some r := by rw [if_neg (show ¬ (false = true) by decide)] at H; exact H
     clear H
     have H := H1
     clear H1
     obtain rfl := Option.some.inj H
     go_enter Try.func124, Try.ntmps124
     go_wp2_with (first | ((with_reducible refine gate_dst (N := 1) rfl ?_); refine zbox (N := 1) (cs := #[.int .i64 a0_0, .int .i64 a0_1, .int .i64 a0_2, .int .i64 a0_3, .int .i64 a0_4]) (t := 74) ?_; intro gb122 hg w21 hbox hb; have n0_ := Aside0.mk (below_step (zw0 HB.out) hb); have BK122 := Aside0.mk (hbox); have GW122 := Aside0.mk (zg hg (below_size (zw0 HB.out))); have GE122 := GW122; clear HB; have HB := n0_; clear n0_; clear hb hbox hg; have hcz22_0 := zc BK122.out 0; have hcz22_1 := zc BK122.out 1; have hcz22_2 := zc BK122.out 2; have hcz22_3 := zc BK122.out 3; have hcz22_4 := zc BK122.out 4; have hfz22_0 := blk_frozen BK122.out 0; have hfz22_1 := blk_frozen BK122.out 1; have hfz22_2 := blk_frozen BK122.out 2; have hfz22_3 := blk_frozen BK122.out 3; have hfz22_4 := blk_frozen BK122.out 4) | (go_at_call 100; (with_reducible refine (bytes_up.calls a0_3 32 false _ A16.out).mono ?_); rintro e w' ⟨rfl, ⟨nd, rfl⟩⟩))
     go_ret
     exact ⟨ze, zw1 HB.out GE122.out⟩
    subst c17
    have H1 : ((bytes_up.f a0_4 3).bind fun t125 => (some t125)) = some r := by rw [if_pos rfl] at H; exact H
    clear H
    have H := H1
    clear H1
    replace H := Option.bind_eq_some_iff.mp H
    obtain ⟨t125, A180, H⟩ := H
    replace H : (some t125) = some r := H
    have A18 := Aside0.mk A180
    clear A180
    obtain rfl := Option.some.inj H
    go_enter Try.func124, Try.ntmps124
    go_wp2_with (first | ((with_reducible refine gate_dst (N := 1) rfl ?_); refine zbox (N := 1) (cs := #[.int .i64 a0_0, .int .i64 a0_1, .int .i64 a0_2, .int .i64 a0_3, .int .i64 a0_4]) (t := 74) ?_; intro gb122 hg w19 hbox hb; have n0_ := Aside0.mk (below_step (zw0 HB.out) hb); have BK122 := Aside0.mk (hbox); have GW122 := Aside0.mk (zg hg (below_size (zw0 HB.out))); have GE122 := GW122; clear HB; have HB := n0_; clear n0_; clear hb hbox hg; have hcz20_0 := zc BK122.out 0; have hcz20_1 := zc BK122.out 1; have hcz20_2 := zc BK122.out 2; have hcz20_3 := zc BK122.out 3; have hcz20_4 := zc BK122.out 4; have hfz20_0 := blk_frozen BK122.out 0; have hfz20_1 := blk_frozen BK122.out 1; have hfz20_2 := blk_frozen BK122.out 2; have hfz20_3 := blk_frozen BK122.out 3; have hfz20_4 := blk_frozen BK122.out 4) | (go_at_call 100; (with_reducible refine (bytes_up.calls a0_3 32 true _ A16.out).mono ?_); rintro e w' ⟨rfl, ⟨nd, rfl⟩⟩) | (go_at_call 100; (with_reducible refine (bytes_up.calls a0_4 3 t125 _ A18.out).mono ?_); rintro e w' ⟨rfl, ⟨nd, rfl⟩⟩))
    go_ret
    exact ⟨ze, zw1 HB.out GE122.out⟩
   ·rw [if_neg c12] at H
    have c12b0 : (a0_0 == 2) = false := beq_eq_false_iff_ne.mpr c12
    have c12b1 : (a0_0 != 2) = true := bne_iff_ne.mpr c12
    obtain rfl := Option.some.inj H
    go_enter Try.func124, Try.ntmps124
    go_wp2_with (first | ((with_reducible refine gate_dst (N := 1) rfl ?_); refine zbox (N := 1) (cs := #[.int .i64 a0_0, .int .i64 a0_1, .int .i64 a0_2, .int .i64 a0_3, .int .i64 a0_4]) (t := 74) ?_; intro gb122 hg w29 hbox hb; have n0_ := Aside0.mk (below_step (zw0 HB.out) hb); have BK122 := Aside0.mk (hbox); have GW122 := Aside0.mk (zg hg (below_size (zw0 HB.out))); have GE122 := GW122; clear HB; have HB := n0_; clear n0_; clear hb hbox hg; have hcz30_0 := zc BK122.out 0; have hcz30_1 := zc BK122.out 1; have hcz30_2 := zc BK122.out 2; have hcz30_3 := zc BK122.out 3; have hcz30_4 := zc BK122.out 4; have hfz30_0 := blk_frozen BK122.out 0; have hfz30_1 := blk_frozen BK122.out 1; have hfz30_2 := blk_frozen BK122.out 2; have hfz30_3 := blk_frozen BK122.out 3; have hfz30_4 := blk_frozen BK122.out 4))
    go_ret
    exact ⟨ze, zw1 HB.out GE122.out⟩

/-! mem_block_1 -/
def mem_block_1.f (a0_0 : Int) (a0_1 : Int) (a0_2 : Int) (a0_3 : Int) (a0_4 : Int) : Option (Bool) := (bytes_Is.f a0_0 a0_1 a0_2 a0_3 a0_4).bind fun t127 => (some (!t127))
set_option maxHeartbeats 8000000 in
set_option maxRecDepth 100000 in
theorem mem_block_1.calls (a0_0 : Int) (a0_1 : Int) (a0_2 : Int) (a0_3 : Int) (a0_4 : Int) (r : Bool) (w : World) (h : mem_block_1.f a0_0 a0_1 a0_2 a0_3 a0_4 = some r) :
  Calls Try.prog 123 #[.agg #[.int .i64 a0_0, .int .i64 a0_1, .int .i64 a0_2, .int .i64 a0_3, .int .i64 a0_4]] w fun e w' => e = .returned (.bool r) ∧ Below w.heap.size w w' := by
 have hu74 := Try.underlying74
 have HB := Aside0.mk (Below.refl w.heap.size w)
 have H : ((bytes_Is.f a0_0 a0_1 a0_2 a0_3 a0_4).bind fun t127 => (some (!t127))) = some r := h
 clear h
 replace H := Option.bind_eq_some_iff.mp H
 obtain ⟨t127, A20, H⟩ := H
 replace H : (some (!t127)) = some r := H
 have A2 := Aside0.mk A20
 clear A20
 obtain rfl := Option.some.inj H
 go_enter Try.func123, Try.ntmps123
 go_wp2_with (first | ((with_reducible refine gate_dst (N := 1) rfl ?_); refine zbox (N := 1) (cs := #[.int .i64 a0_0, .int .i64 a0_1, .int .i64 a0_2, .int .i64 a0_3, .int .i64 a0_4]) (t := 74) ?_; intro gb126 hg w3 hbox hb; have n0_ := Aside0.mk (below_step (zw0 HB.out) hb); have BK126 := Aside0.mk (hbox); have GW126 := Aside0.mk (zg hg (below_size (zw0 HB.out))); have GE126 := GW126; clear HB; have HB := n0_; clear n0_; clear hb hbox hg; have hcz4_0 := zc BK126.out 0; have hcz4_1 := zc BK126.out 1; have hcz4_2 := zc BK126.out 2; have hcz4_3 := zc BK126.out 3; have hcz4_4 := zc BK126.out 4; have hfz4_0 := blk_frozen BK126.out 0; have hfz4_1 := blk_frozen BK126.out 1; have hfz4_2 := blk_frozen BK126.out 2; have hfz4_3 := blk_frozen BK126.out 3; have hfz4_4 := blk_frozen BK126.out 4) | ((with_reducible refine gate_callee (f := 124) rfl ?_); refine zgo (some 4) Try.func124 #[.agg #[.int .i64 a0_0, .int .i64 a0_1, .int .i64 a0_2, .int .i64 a0_3, .int .i64 a0_4]] ?_; (with_reducible refine (bytes_Is.calls a0_0 a0_1 a0_2 a0_3 a0_4 t127 _ A2.out).mono ?_); rintro e w5 ⟨rfl, hb⟩; refine ⟨_, rfl, ?_⟩; have n0_ := Aside0.mk (zbb BK126.out hb); have n1_ := Aside0.mk (below_step (zw1 HB.out GE126.out) hb); clear BK126 HB; have BK126 := n0_; have HB := n1_; clear n0_ n1_; (try clear hb); (try clear hb2); (try clear hk); (try clear hi)))
 go_ret
 exact ⟨ze, zw1 HB.out GE126.out⟩

/-! slices.IndexFunc[[]cellar/api.Byte,cellar/api.Byte] -/
set_option maxHeartbeats 4000000 in
set_option maxRecDepth 100000 in
theorem IndexFunc_T74 (p : S74 → Option Bool) (g : Nat) (lb : Array Value) (eg : ∀ args w, (callFunc g args).run Try.prog w = .ok (.enter g args) w) (A : Option Addr) (c : Nat) (l : List S74) (r : Int) (w : World)
    (hr : Kd.C k74 w A l.length l) (hp : PredK Try.prog k74 g lb (fun cs => .agg cs.toArray) p w) (h : idxO p 0 l = some r) :
    Calls Try.prog 130 #[.slice A l.length c, .func (.func g) #[] lb] w fun e w' => e = .returned (.int .i64 r) ∧ Below w.heap.size w w' := by
  have hbig := hr.2.1
  have HR := Aside0.mk hr
  have HP := Aside0.mk hp
  have H0 := Aside0.mk h
  have hu := Try.underlying74
  clear hr hp h
  go_enter Try.func130, Try.ntmps130
  go_wp2
  go_loopg [5, 8] l.length (fun gg _ s8 wr => ∃ kk : Nat, kk ≤ l.length ∧ l.length - kk ≤ gg ∧ s8 = .int .i64 kk ∧ Aside0 (Below w.heap.size w wr) ∧ Aside0 (idxO p kk (l.drop kk) = some r))
  case atStart => exact ⟨0, Nat.zero_le _, by omega, rfl, ⟨Below.refl _ w⟩, H0⟩
  case round =>
    obtain ⟨kk, hkk, hg, rfl, BW, A0_⟩ := hrel
    clear H0
    by_cases hlt : kk < l.length
    · have hltz : (kk : Int) < (l.length : Int) := by omega
      obtain ⟨ad, e0, hx0, hx1, hx2, hx3, hx4⟩ := at_T74 (Kd.C_below HR.out BW.out) (kk : Int) (by omega) (by omega)
      cases e0
      rw [Int.toNat_natCast] at hx0 hx1 hx2 hx3 hx4
      have hA := A0_.out
      have hd : l.drop kk = rd_T74 l (kk : Int) :: l.drop (kk + 1) := by
        show l.drop kk = l.getD kk z74 :: l.drop (kk + 1)
        rw [List.drop_eq_getElem_cons hlt, List.getD_eq_getElem?_getD, List.getElem?_eq_getElem hlt]
        rfl
      rw [hd] at hA
      simp only [idxO] at hA
      obtain ⟨b, hb, hA⟩ := Option.bind_eq_some_iff.1 hA
      have hcall := HP.out wr (rd_T74 l (kk : Int)) _ b BW.out (k74_mk wr _) hb
      clear hd hb A0_
      cases b with
      | true =>
        rw [if_pos rfl] at hA
        injection hA with hA
        subst hA
        go_wp2_with (go_at_fn g; refine hcall.mono ?_; rintro e w' ⟨rfl, hb'⟩)
        go_ret
        exact ⟨by first | rfl | (simp; done), below_step BW.out hb'⟩
      | false =>
        rw [if_neg (by decide)] at hA
        have HA := Aside0.mk hA
        clear hA
        go_wp2_with (go_at_fn g; refine hcall.mono ?_; rintro e w' ⟨rfl, hb'⟩)
        go_roundg (l.length - (kk + 1))
        case measure => omega
        case rel => exact ⟨kk + 1, by omega, by omega, by go_num, ⟨below_step BW.out hb'⟩, ⟨by have := HA.out; simpa using this⟩⟩
    · have hltz : ¬ (kk : Int) < (l.length : Int) := by omega
      have hA := A0_.out
      rw [List.drop_eq_nil_of_le (by omega)] at hA
      simp only [idxO, Option.some.injEq] at hA
      subst hA
      clear A0_
      go_wp2
      go_ret
      exact ⟨by first | rfl | (simp; done), BW.out⟩

/-! slices.ContainsFunc[[]cellar/api.Byte,cellar/api.Byte] -/
set_option maxHeartbeats 4000000 in
theorem ContainsFunc_T74 (p : S74 → Option Bool) (g : Nat) (lb : Array Value) (eg : ∀ args w, (callFunc g args).run Try.prog w = .ok (.enter g args) w) (A : Option Addr) (c : Nat) (l : List S74) (r : Bool) (w : World)
    (hr : Kd.C k74 w A l.length l) (hp : PredK Try.prog k74 g lb (fun cs => .agg cs.toArray) p w) (h : anyO p l = some r) :
    Calls Try.prog 122 #[.slice A l.length c, .func (.func g) #[] lb] w fun e w' => e = .returned (.bool r) ∧ Below w.heap.size w w' := by
  obtain ⟨j, hj, hd⟩ := idx_any p l 0 r (Int.le_refl 0) h
  have HI := Aside0.mk (IndexFunc_T74 p g lb eg A c l j w hr hp hj)
  subst hd
  clear hr hp h hj
  go_enter Try.func122, Try.ntmps122
  go_wp2_with (go_at_call 130; refine HI.out.mono ?_; rintro e w' ⟨rfl, hb'⟩)
  go_ret
  exact ⟨by first | rfl | (simp; done), hb'⟩
def api_Byte_122.f (l : List S74) (g : Nat) : Option Bool := if g = 123 then anyO (fun x => mem_block_1.f x.f0 x.f1 x.f2 x.f3 x.f4) l else (none)
theorem api_Byte_122.calls (A0 : Option Addr) (c0 : Nat) (l : List S74) (g : Nat) (r : Bool) (w : World) (hr0 : Kd.C k74 w A0 l.length l) (hc0 : l.length ≤ c0) (h : api_Byte_122.f l g = some r) :
    Calls Try.prog 122 #[.slice A0 l.length c0, .func (.func g) #[] #[]] w fun e w' => e = .returned (.bool r) ∧ Below w.heap.size w w' := by
  unfold api_Byte_122.f at h
  by_cases e123 : g = 123
  · subst e123
    rw [if_pos rfl] at h
    exact ContainsFunc_T74 _ 123 #[] (enters_of Try.func123 (by kernel_rfl) rfl) A0 c0 l r w hr0 (fun W x cs b hb hK hx => by
      obtain rfl := k74_open hK
      exact (mem_block_1.calls x.f0 x.f1 x.f2 x.f3 x.f4 b W hx).mono fun e w' ⟨he, hd⟩ => ⟨he, hd⟩) h
  rw [if_neg e123] at h
  exact absurd h (by simp)

/-! mem_block -/
def mem_block.f (a0_0 : Int) (l0_1 : List (S74)) : Option (Bool) := if a0_0 < 0 then (some false) else (if a0_0 > 3 then (some false) else (if (l0_1.length : Int) > 32 then (some false) else (if a0_0 = 1 then ((api_Byte_122.f l0_1 123).bind fun t129 => (some (!t129))) else (if (l0_1.length : Int) > 0 then (some false) else ((api_Byte_122.f l0_1 123).bind fun t130 => (some (!t130)))))))
set_option maxHeartbeats 8000000 in
set_option maxRecDepth 100000 in
theorem mem_block.calls (a0_0 : Int) (A0_1 : Option Addr) (c0_1 : Nat) (l0_1 : List (S74)) (r : Bool) (w : World) (hr0_1 : Kd.C k74 w A0_1 l0_1.length l0_1) (hc0_1 : l0_1.length ≤ c0_1) (h : mem_block.f a0_0 l0_1 = some r) :
  Calls Try.prog 109 #[.agg #[.int .i64 a0_0, .slice A0_1 l0_1.length c0_1]] w fun e w' => e = .returned (.bool r) ∧ Below w.heap.size w w' := by
 have hu76 := Try.underlying76
 have HR0_1 := Aside0.mk hr0_1
 have HC0_1 := Aside0.mk hc0_1
 clear hr0_1 hc0_1
 have HB := Aside0.mk (Below.refl w.heap.size w)
 have H : (if a0_0 < 0 then (some false) else (if a0_0 > 3 then (some false) else (if (l0_1.length : Int) > 32 then (some false) else (if a0_0 = 1 then ((api_Byte_122.f l0_1 123).bind fun t129 => (some (!t129))) else (if (l0_1.length : Int) > 0 then (some false) else ((api_Byte_122.f l0_1 123).bind fun t130 => (some (!t130)))))))) = some r := h
 clear h
 by_cases c2 : a0_0 < 0
 ·rw [if_pos c2] at H
  have c2b0 : decide (a0_0 < 0) = true := decide_eq_true c2
  clear c2
  obtain rfl := Option.some.inj H
  go_enter Try.func109, Try.ntmps109
  go_wp2_with (first | ((with_reducible refine gate_dst (N := 1) rfl ?_); (try (refine gate_guard (by rfl) ?_; dsimp only)); refine zbox (N := 1) (cs := #[.int .i64 a0_0, .slice A0_1 l0_1.length c0_1]) (t := 76) ?_; intro gb128 hg w3 hbox hb; have n0_ := Aside0.mk (below_step (zw0 HB.out) hb); have BK128 := Aside0.mk (hbox); have GW128 := Aside0.mk (zg hg (below_size (zw0 HB.out))); have GE128 := GW128; clear HB; have HB := n0_; clear n0_; clear hb hbox hg; have hcz4_0 := zc BK128.out 0; have hcz4_1 := zc BK128.out 1; have hfz4_0 := blk_frozen BK128.out 0; have hfz4_1 := blk_frozen BK128.out 1))
  go_ret
  exact ⟨ze, zw1 HB.out GE128.out⟩
 ·rw [if_neg c2] at H
  have c2b0 : decide (a0_0 < 0) = false := decide_eq_false c2
  clear c2
  by_cases c5 : a0_0 > 3
  ·rw [if_pos c5] at H
   have c5b0 : decide (3 < a0_0) = true := decide_eq_true c5
   clear c5
   obtain rfl := Option.some.inj H
   go_enter Try.func109, Try.ntmps109
   go_wp2_with (first | ((with_reducible refine gate_dst (N := 1) rfl ?_); (try (refine gate_guard (by rfl) ?_; dsimp only)); refine zbox (N := 1) (cs := #[.int .i64 a0_0, .slice A0_1 l0_1.length c0_1]) (t := 76) ?_; intro gb128 hg w6 hbox hb; have n0_ := Aside0.mk (below_step (zw0 HB.out) hb); have BK128 := Aside0.mk (hbox); have GW128 := Aside0.mk (zg hg (below_size (zw0 HB.out))); have GE128 := GW128; clear HB; have HB := n0_; clear n0_; clear hb hbox hg; have hcz7_0 := zc BK128.out 0; have hcz7_1 := zc BK128.out 1; have hfz7_0 := blk_frozen BK128.out 0; have hfz7_1 := blk_frozen BK128.out 1))
   go_ret
   exact ⟨ze, zw1 HB.out GE128.out⟩
  ·rw [if_neg c5] at H
   have c5b0 : decide (3 < a0_0) = false := decide_eq_false c5
   clear c5
   by_cases c8 : (l0_1.length : Int) > 32
   ·rw [if_pos c8] at H
    have c8b0 : decide (32 < (l0_1.length : Int)) = true := decide_eq_true c8
    have c8b1 : decide (32 < l0_1.length) = true := decide_eq_true (by omega)
    clear c8
    obtain rfl := Option.some.inj H
    go_enter Try.func109, Try.ntmps109
    go_wp2_with (first | ((with_reducible refine gate_dst (N := 1) rfl ?_); (try (refine gate_guard (by rfl) ?_; dsimp only)); refine zbox (N := 1) (cs := #[.int .i64 a0_0, .slice A0_1 l0_1.length c0_1]) (t := 76) ?_; intro gb128 hg w9 hbox hb; have n0_ := Aside0.mk (below_step (zw0 HB.out) hb); have BK128 := Aside0.mk (hbox); have GW128 := Aside0.mk (zg hg (below_size (zw0 HB.out))); have GE128 := GW128; clear HB; have HB := n0_; clear n0_; clear hb hbox hg; have hcz10_0 := zc BK128.out 0; have hcz10_1 := zc BK128.out 1; have hfz10_0 := blk_frozen BK128.out 0; have hfz10_1 := blk_frozen BK128.out 1))
    go_ret
    exact ⟨ze, zw1 HB.out GE128.out⟩
   ·rw [if_neg c8] at H
    have c8b0 : decide (32 < (l0_1.length : Int)) = false := decide_eq_false c8
    have c8b1 : decide (32 < l0_1.length) = false := decide_eq_false (by omega)
    clear c8
    by_cases c11 : a0_0 = 1
    ·rw [if_pos c11] at H
     have c11b0 : (a0_0 == 1) = true := beq_iff_eq.mpr c11
     have c11b1 : (a0_0 != 1) = false := bne_eq_false_iff_eq.mpr c11
     clear c11
     replace H := Option.bind_eq_some_iff.mp H
     obtain ⟨t129, A120, H⟩ := H
     replace H : (some (!t129)) = some r := H
     have A12 := Aside0.mk A120
     clear A120
     obtain rfl := Option.some.inj H
     go_enter Try.func109, Try.ntmps109
     go_wp2_with (first | ((with_reducible refine gate_dst (N := 1) rfl ?_); (try (refine gate_guard (by rfl) ?_; dsimp only)); refine zbox (N := 1) (cs := #[.int .i64 a0_0, .slice A0_1 l0_1.length c0_1]) (t := 76) ?_; intro gb128 hg w13 hbox hb; have n0_ := Aside0.mk (below_step (zw0 HB.out) hb); have BK128 := Aside0.mk (hbox); have GW128 := Aside0.mk (zg hg (below_size (zw0 HB.out))); have GE128 := GW128; clear HB; have HB := n0_; clear n0_; clear hb hbox hg; have hcz14_0 := zc BK128.out 0; have hcz14_1 := zc BK128.out 1; have hfz14_0 := blk_frozen BK128.out 0; have hfz14_1 := blk_frozen BK128.out 1) | ((with_reducible refine gate_callee (f := 122) rfl ?_); refine zgo (some 30) Try.func122 #[.slice A0_1 l0_1.length c0_1, .func (.func 123) #[] #[]] ?_; (with_reducible refine (api_Byte_122.calls _ _ l0_1 123 t129 _ ?side1 ?side2 A12.out).mono ?_); (case side1 => repeat (first | exact (Kd.C_below HR0_1.out HB.out) | (with_reducible refine Kd.C_alloc ?_ _) | (with_reducible refine Kd.C_drewN ?_ _) | (with_reducible refine Kd.C_drew ?_))); (case side2 => exact HC0_1.out); rintro e w15 ⟨rfl, hb⟩; refine ⟨_, rfl, ?_⟩; have n0_ := Aside0.mk (zbb BK128.out hb); have n1_ := Aside0.mk (below_step (zw1 HB.out GE128.out) hb); clear BK128 HB; have BK128 := n0_; have HB := n1_; clear n0_ n1_; (try clear hb); (try clear hb2); (try clear hk); (try clear hi)))
     go_ret
     exact ⟨ze, zw1 HB.out GE128.out⟩
    ·rw [if_neg c11] at H
     have c11b0 : (a0_0 == 1) = false := beq_eq_false_iff_ne.mpr c11
     have c11b1 : (a0_0 != 1) = true := bne_iff_ne.mpr c11
     by_cases c16 : (l0_1.length : Int) > 0
     ·rw [if_pos c16] at H
      have c16b0 : decide (0 < (l0_1.length : Int)) = true := decide_eq_true c16
      have c16b1 : decide (0 < l0_1.length) = true := decide_eq_true (by omega)
      clear c16
      obtain rfl := Option.some.inj H
      go_enter Try.func109, Try.ntmps109
      go_wp2_with (first | ((with_reducible refine gate_dst (N := 1) rfl ?_); (try (refine gate_guard (by rfl) ?_; dsimp only)); refine zbox (N := 1) (cs := #[.int .i64 a0_0, .slice A0_1 l0_1.length c0_1]) (t := 76) ?_; intro gb128 hg w17 hbox hb; have n0_ := Aside0.mk (below_step (zw0 HB.out) hb); have BK128 := Aside0.mk (hbox); have GW128 := Aside0.mk (zg hg (below_size (zw0 HB.out))); have GE128 := GW128; clear HB; have HB := n0_; clear n0_; clear hb hbox hg; have hcz18_0 := zc BK128.out 0; have hcz18_1 := zc BK128.out 1; have hfz18_0 := blk_frozen BK128.out 0; have hfz18_1 := blk_frozen BK128.out 1))
      go_ret
      exact ⟨ze, zw1 HB.out GE128.out⟩
     ·rw [if_neg c16] at H
      have c16b0 : decide (0 < (l0_1.length : Int)) = false := decide_eq_false c16
      have c16b1 : decide (0 < l0_1.length) = false := decide_eq_false (by omega)
      clear c16
      replace H := Option.bind_eq_some_iff.mp H
      obtain ⟨t130, A190, H⟩ := H
      replace H : (some (!t130)) = some r := H
      have A19 := Aside0.mk A190
      clear A190
      obtain rfl := Option.some.inj H
      go_enter Try.func109, Try.ntmps109
      go_wp2_with (first | ((with_reducible refine gate_dst (N := 1) rfl ?_); (try (refine gate_guard (by rfl) ?_; dsimp only)); refine zbox (N := 1) (cs := #[.int .i64 a0_0, .slice A0_1 l0_1.length c0_1]) (t := 76) ?_; intro gb128 hg w20 hbox hb; have n0_ := Aside0.mk (below_step (zw0 HB.out) hb); have BK128 := Aside0.mk (hbox); have GW128 := Aside0.mk (zg hg (below_size (zw0 HB.out))); have GE128 := GW128; clear HB; have HB := n0_; clear n0_; clear hb hbox hg; have hcz21_0 := zc BK128.out 0; have hcz21_1 := zc BK128.out 1; have hfz21_0 := blk_frozen BK128.out 0; have hfz21_1 := blk_frozen BK128.out 1) | ((with_reducible refine gate_callee (f := 122) rfl ?_); refine zgo (some 30) Try.func122 #[.slice A0_1 l0_1.length c0_1, .func (.func 123) #[] #[]] ?_; (with_reducible refine (api_Byte_122.calls _ _ l0_1 123 t130 _ ?side1 ?side2 A19.out).mono ?_); (case side1 => repeat (first | exact (Kd.C_below HR0_1.out HB.out) | (with_reducible refine Kd.C_alloc ?_ _) | (with_reducible refine Kd.C_drewN ?_ _) | (with_reducible refine Kd.C_drew ?_))); (case side2 => exact HC0_1.out); rintro e w22 ⟨rfl, hb⟩; refine ⟨_, rfl, ?_⟩; have n0_ := Aside0.mk (zbb BK128.out hb); have n1_ := Aside0.mk (below_step (zw1 HB.out GE128.out) hb); clear BK128 HB; have BK128 := n0_; have HB := n1_; clear n0_ n1_; (try clear hb); (try clear hb2); (try clear hk); (try clear hi)))
      go_ret
      exact ⟨ze, zw1 HB.out GE128.out⟩

/-! mem_May_1 -/
def mem_May_1.f (a0_0 : Int) (l0_1 : List (S74)) : Option (Bool) := (mem_block.f a0_0 l0_1).bind fun t132 => (some (!t132))
set_option maxHeartbeats 8000000 in
set_option maxRecDepth 100000 in
theorem mem_May_1.calls (a0_0 : Int) (A0_1 : Option Addr) (c0_1 : Nat) (l0_1 : List (S74)) (r : Bool) (w : World) (hr0_1 : Kd.C k74 w A0_1 l0_1.length l0_1) (hc0_1 : l0_1.length ≤ c0_1) (h : mem_May_1.f a0_0 l0_1 = some r) :
  Calls Try.prog 108 #[.agg #[.int .i64 a0_0, .slice A0_1 l0_1.length c0_1]] w fun e w' => e = .returned (.bool r) ∧ Below w.heap.size w w' := by
 have hu76 := Try.underlying76
 have HR0_1 := Aside0.mk hr0_1
 have HC0_1 := Aside0.mk hc0_1
 clear hr0_1 hc0_1
 have HB := Aside0.mk (Below.refl w.heap.size w)
 have H : ((mem_block.f a0_0 l0_1).bind fun t132 => (some (!t132))) = some r := h
 clear h
 replace H := Option.bind_eq_some_iff.mp H
 obtain ⟨t132, A20, H⟩ := H
 replace H : (some (!t132)) = some r := H
 have A2 := Aside0.mk A20
 clear A20
 obtain rfl := Option.some.inj H
 go_enter Try.func108, Try.ntmps108
 go_wp2_with (first | ((with_reducible refine gate_dst (N := 1) rfl ?_); refine zbox (N := 1) (cs := #[.int .i64 a0_0, .slice A0_1 l0_1.length c0_1]) (t := 76) ?_; intro gb131 hg w3 hbox hb; have n0_ := Aside0.mk (below_step (zw0 HB.out) hb); have BK131 := Aside0.mk (hbox); have GW131 := Aside0.mk (zg hg (below_size (zw0 HB.out))); have GE131 := GW131; clear HB; have HB := n0_; clear n0_; clear hb hbox hg; have hcz4_0 := zc BK131.out 0; have hcz4_1 := zc BK131.out 1; have hfz4_0 := blk_frozen BK131.out 0; have hfz4_1 := blk_frozen BK131.out 1) | ((with_reducible refine gate_callee (f := 109) rfl ?_); refine zgo (some 4) Try.func109 #[.agg #[.int .i64 a0_0, .slice A0_1 l0_1.length c0_1]] ?_; (with_reducible refine (mem_block.calls a0_0 _ _ l0_1 t132 _ ?side1 ?side2 A2.out).mono ?_); (case side1 => repeat (first | exact (Kd.C_below HR0_1.out HB.out) | (with_reducible refine Kd.C_alloc ?_ _) | (with_reducible refine Kd.C_drewN ?_ _) | (with_reducible refine Kd.C_drew ?_))); (case side2 => exact HC0_1.out); rintro e w5 ⟨rfl, hb⟩; refine ⟨_, rfl, ?_⟩; have n0_ := Aside0.mk (zbb BK131.out hb); have n1_ := Aside0.mk (below_step (zw1 HB.out GE131.out) hb); clear BK131 HB; have BK131 := n0_; have HB := n1_; clear n0_ n1_; (try clear hb); (try clear hb2); (try clear hk); (try clear hi)))
 go_ret
 exact ⟨ze, zw1 HB.out GE131.out⟩

/-! slices.IndexFunc[[]cellar/api.Block,cellar/api.Block] -/
set_option maxHeartbeats 4000000 in
set_option maxRecDepth 100000 in
theorem IndexFunc_T76 (p : S76 → Option Bool) (g : Nat) (lb : Array Value) (eg : ∀ args w, (callFunc g args).run Try.prog w = .ok (.enter g args) w) (A : Option Addr) (c : Nat) (l : List S76) (r : Int) (w : World)
    (hr : Kd.C k76 w A l.length l) (hp : PredK Try.prog k76 g lb (fun cs => .agg cs.toArray) p w) (h : idxO p 0 l = some r) :
    Calls Try.prog 121 #[.slice A l.length c, .func (.func g) #[] lb] w fun e w' => e = .returned (.int .i64 r) ∧ Below w.heap.size w w' := by
  have hbig := hr.2.1
  have HR := Aside0.mk hr
  have HP := Aside0.mk hp
  have H0 := Aside0.mk h
  have hu := Try.underlying76
  clear hr hp h
  go_enter Try.func121, Try.ntmps121
  go_wp2
  go_loopg [5, 8] l.length (fun gg _ s8 wr => ∃ kk : Nat, kk ≤ l.length ∧ l.length - kk ≤ gg ∧ s8 = .int .i64 kk ∧ Aside0 (Below w.heap.size w wr) ∧ Aside0 (idxO p kk (l.drop kk) = some r))
  case atStart => exact ⟨0, Nat.zero_le _, by omega, rfl, ⟨Below.refl _ w⟩, H0⟩
  case round =>
    obtain ⟨kk, hkk, hg, rfl, BW, A0_⟩ := hrel
    clear H0
    by_cases hlt : kk < l.length
    · have hltz : (kk : Int) < (l.length : Int) := by omega
      obtain ⟨ad, A1, c1, e0, hx0, hx1, hl1, hi1⟩ := at_T76 (Kd.C_below HR.out BW.out) (kk : Int) (by omega) (by omega)
      cases e0
      rw [Int.toNat_natCast] at hx0 hx1
      have hA := A0_.out
      have hd : l.drop kk = rd_T76 l (kk : Int) :: l.drop (kk + 1) := by
        show l.drop kk = l.getD kk z76 :: l.drop (kk + 1)
        rw [List.drop_eq_getElem_cons hlt, List.getD_eq_getElem?_getD, List.getElem?_eq_getElem hlt]
        rfl
      rw [hd] at hA
      simp only [idxO] at hA
      obtain ⟨b, hb, hA⟩ := Option.bind_eq_some_iff.1 hA
      have hcall := HP.out wr (rd_T76 l (kk : Int)) _ b BW.out (k76_mk wr _ hl1 hi1) hb
      clear hd hb A0_
      cases b with
      | true =>
        rw [if_pos rfl] at hA
        injection hA with hA
        subst hA
        go_wp2_with (go_at_fn g; refine hcall.mono ?_; rintro e w' ⟨rfl, hb'⟩)
        go_ret
        exact ⟨by first | rfl | (simp; done), below_step BW.out hb'⟩
      | false =>
        rw [if_neg (by decide)] at hA
        have HA := Aside0.mk hA
        clear hA
        go_wp2_with (go_at_fn g; refine hcall.mono ?_; rintro e w' ⟨rfl, hb'⟩)
        go_roundg (l.length - (kk + 1))
        case measure => omega
        case rel => exact ⟨kk + 1, by omega, by omega, by go_num, ⟨below_step BW.out hb'⟩, ⟨by have := HA.out; simpa using this⟩⟩
    · have hltz : ¬ (kk : Int) < (l.length : Int) := by omega
      have hA := A0_.out
      rw [List.drop_eq_nil_of_le (by omega)] at hA
      simp only [idxO, Option.some.injEq] at hA
      subst hA
      clear A0_
      go_wp2
      go_ret
      exact ⟨by first | rfl | (simp; done), BW.out⟩

/-! slices.ContainsFunc[[]cellar/api.Block,cellar/api.Block] -/
set_option maxHeartbeats 4000000 in
theorem ContainsFunc_T76 (p : S76 → Option Bool) (g : Nat) (lb : Array Value) (eg : ∀ args w, (callFunc g args).run Try.prog w = .ok (.enter g args) w) (A : Option Addr) (c : Nat) (l : List S76) (r : Bool) (w : World)
    (hr : Kd.C k76 w A l.length l) (hp : PredK Try.prog k76 g lb (fun cs => .agg cs.toArray) p w) (h : anyO p l = some r) :
    Calls Try.prog 107 #[.slice A l.length c, .func (.func g) #[] lb] w fun e w' => e = .returned (.bool r) ∧ Below w.heap.size w w' := by
  obtain ⟨j, hj, hd⟩ := idx_any p l 0 r (Int.le_refl 0) h
  have HI := Aside0.mk (IndexFunc_T76 p g lb eg A c l j w hr hp hj)
  subst hd
  clear hr hp h hj
  go_enter Try.func107, Try.ntmps107
  go_wp2_with (go_at_call 121; refine HI.out.mono ?_; rintro e w' ⟨rfl, hb'⟩)
  go_ret
  exact ⟨by first | rfl | (simp; done), hb'⟩
def api_Block_107.f (l : List S76) (g : Nat) : Option Bool := if g = 108 then anyO (fun x => mem_May_1.f x.f0 x.f1) l else (none)
theorem api_Block_107.calls (A0 : Option Addr) (c0 : Nat) (l : List S76) (g : Nat) (r : Bool) (w : World) (hr0 : Kd.C k76 w A0 l.length l) (hc0 : l.length ≤ c0) (h : api_Block_107.f l g = some r) :
    Calls Try.prog 107 #[.slice A0 l.length c0, .func (.func g) #[] #[]] w fun e w' => e = .returned (.bool r) ∧ Below w.heap.size w w' := by
  unfold api_Block_107.f at h
  by_cases e108 : g = 108
  · subst e108
    rw [if_pos rfl] at h
    exact ContainsFunc_T76 _ 108 #[] (enters_of Try.func108 (by kernel_rfl) rfl) A0 c0 l r w hr0 (fun W x cs b hb hK hx => by
      obtain ⟨A1, c1, rfl, hl1, hg1⟩ := k76_open hK
      exact (mem_May_1.calls x.f0 _ _ x.f1 b W hg1 hl1 hx).mono fun e w' ⟨he, hd⟩ => ⟨he, hd⟩) h
  rw [if_neg e108] at h
  exact absurd h (by simp)

/-! mem_May -/
def mem_May.f (l0 : List (S76)) : Option (Bool) := if (l0.length : Int) < 1 then (some false) else (if (l0.length : Int) > 33 then (some false) else (if 0 < (l0.length : Int) then (if ((rd_T76 l0 0).f0) = 0 then ((api_Block_107.f l0 108).bind fun t134 => (some (!t134))) else (some false)) else (none)))
set_option maxHeartbeats 8000000 in
set_option maxRecDepth 100000 in
theorem mem_May.calls (A0 : Option Addr) (c0 : Nat) (l0 : List (S76)) (r : Bool) (w : World) (hr0 : Kd.C k76 w A0 l0.length l0) (hc0 : l0.length ≤ c0) (h : mem_May.f l0 = some r) :
  Calls Try.prog 77 #[.slice A0 l0.length c0] w fun e w' => e = .returned (.bool r) ∧ Below w.heap.size w w' := by
 have HR0 := Aside0.mk hr0
 have HC0 := Aside0.mk hc0
 clear hr0 hc0
 have HB := Aside0.mk (Below.refl w.heap.size w)
 have H : (if (l0.length : Int) < 1 then (some false) else (if (l0.length : Int) > 33 then (some false) else (if 0 < (l0.length : Int) then (if ((rd_T76 l0 0).f0) = 0 then ((api_Block_107.f l0 108).bind fun t134 => (some (!t134))) else (some false)) else (none)))) = some r := h
 clear h
 by_cases c2 : (l0.length : Int) < 1
 ·rw [if_pos c2] at H
  have c2b0 : decide ((l0.length : Int) < 1) = true := decide_eq_true c2
  have c2b1 : decide (l0.length < 1) = true := decide_eq_true (by omega)
  clear c2
  obtain rfl := Option.some.inj H
  go_enter Try.func77, Try.ntmps77
  go_wp2
  go_ret
  exact ⟨ze, zw0 HB.out⟩
 ·rw [if_neg c2] at H
  have c2b0 : decide ((l0.length : Int) < 1) = false := decide_eq_false c2
  have c2b1 : decide (l0.length < 1) = false := decide_eq_false (by omega)
  clear c2
  by_cases c3 : (l0.length : Int) > 33
  ·rw [if_pos c3] at H
   have c3b0 : decide (33 < (l0.length : Int)) = true := decide_eq_true c3
   have c3b1 : decide (33 < l0.length) = true := decide_eq_true (by omega)
   clear c3
   obtain rfl := Option.some.inj H
   go_enter Try.func77, Try.ntmps77
   go_wp2
   go_ret
   exact ⟨ze, zw0 HB.out⟩
  ·rw [if_neg c3] at H
   have c3b0 : decide (33 < (l0.length : Int)) = false := decide_eq_false c3
   have c3b1 : decide (33 < l0.length) = false := decide_eq_false (by omega)
   clear c3
   by_cases c4 : 0 < (l0.length : Int)
   ·rw [if_pos c4] at H
    have c4b0 : decide (0 < (l0.length : Int)) = true := decide_eq_true c4
    have c4b1 : decide (0 < l0.length) = true := decide_eq_true (by omega)
    clear c4
    by_cases c5 : ((rd_T76 l0 0).f0) = 0
    rotate_left
    ·rw [if_neg c5] at H
     have c5b0 : (((rd_T76 l0 0).f0) == 0) = false := beq_eq_false_iff_ne.mpr c5
     have c5b1 : (((rd_T76 l0 0).f0) != 0) = true := bne_iff_ne.mpr c5
     obtain rfl := Option.some.inj H
     have p133 : 0 ≤ (0 : Int) := (by omega)
     have q133 : 0 < (l0.length : Int) := zdec
     obtain ⟨ad133, A133_1, c133_1, e133, hx133_0, hx133_1, hl133_1, hi133_1⟩ := at_T76 HR0.out 0 p133 q133
     cases e133
     have qi133 : (0 < l0.length) = True := eq_true (by omega)
     (try rw [show ((0 : Int)).toNat = 0 from rfl] at hx133_0)
     (try rw [show 0 * 2 = 0 from rfl] at hx133_0)
     (try rw [Addr.add_zero'] at hx133_0)
     (try rw [show ((0 : Int)).toNat = 0 from rfl] at hx133_1)
     (try rw [show 0 * 2 = 0 from rfl] at hx133_1)
     (try rw [Addr.add_zero'] at hx133_1)
     have HR133_1 := Aside0.mk hi133_1
     have HC133_1 := Aside0.mk hl133_1
     clear hi133_1 hl133_1
     replace p133 := eq_true p133
     replace q133 := eq_true q133
     go_enter Try.func77, Try.ntmps77
     go_wp2
     go_ret
     exact ⟨ze, zw0 HB.out⟩
    rw [if_pos c5] at H
    have c5b0 : (((rd_T76 l0 0).f0) == 0) = true := beq_iff_eq.mpr c5
    have c5b1 : (((rd_T76 l0 0).f0) != 0) = false := bne_eq_false_iff_eq.mpr c5
    clear c5
    replace H := Option.bind_eq_some_iff.mp H
    obtain ⟨t134, A60, H⟩ := H
    replace H : (some (!t134)) = some r := H
    have A6 := Aside0.mk A60
    clear A60
    obtain rfl := Option.some.inj H
    have p133 : 0 ≤ (0 : Int) := (by omega)
    have q133 : 0 < (l0.length : Int) := zdec
    obtain ⟨ad133, A133_1, c133_1, e133, hx133_0, hx133_1, hl133_1, hi133_1⟩ := at_T76 HR0.out 0 p133 q133
    cases e133
    have qi133 : (0 < l0.length) = True := eq_true (by omega)
    (try rw [show ((0 : Int)).toNat = 0 from rfl] at hx133_0)
    (try rw [show 0 * 2 = 0 from rfl] at hx133_0)
    (try rw [Addr.add_zero'] at hx133_0)
    (try rw [show ((0 : Int)).toNat = 0 from rfl] at hx133_1)
    (try rw [show 0 * 2 = 0 from rfl] at hx133_1)
    (try rw [Addr.add_zero'] at hx133_1)
    have HR133_1 := Aside0.mk hi133_1
    have HC133_1 := Aside0.mk hl133_1
    clear hi133_1 hl133_1
    replace p133 := eq_true p133
    replace q133 := eq_true q133
    go_enter Try.func77, Try.ntmps77
    go_wp2_with (first | ((with_reducible refine gate_callee (f := 107) rfl ?_); refine zgo (some 19) Try.func107 #[.slice (some ad133) l0.length c0, .func (.func 108) #[] #[]] ?_; (with_reducible refine (api_Block_107.calls _ _ l0 108 t134 _ ?side1 ?side2 A6.out).mono ?_); (case side1 => repeat (first | exact HR0.out | (with_reducible refine Kd.C_alloc ?_ _) | (with_reducible refine Kd.C_drewN ?_ _) | (with_reducible refine Kd.C_drew ?_))); (case side2 => exact HC0.out); rintro e w7 ⟨rfl, hb⟩; refine ⟨_, rfl, ?_⟩; have n0_ := Aside0.mk (below_step (zw0 HB.out) hb); clear HB; have HB := n0_; clear n0_; (try clear hb); (try clear hb2); (try clear hk); (try clear hi)))
    go_ret
    exact ⟨ze, zw0 HB.out⟩
   ·rw [if_neg c4] at H
    exact absurd H (by simp)

/-! word_Most -/
def word_Most.f (a0 : Int) : Option (Int) := if 0 ≤ a0 then (some (wrap64 ((shl .i64 1 a0) - 1))) else (none)
set_option maxHeartbeats 8000000 in
set_option maxRecDepth 100000 in
theorem word_Most.calls (a0 : Int) (r : Int) (w : World) (h : word_Most.f a0 = some r) :
  Calls Try.prog 110 #[.int .i64 a0] w fun e w' => e = .returned (.int .i64 r) ∧ Drawn0 w w' := by
 have H : (if 0 ≤ a0 then (some (wrap64 ((shl .i64 1 a0) - 1))) else (none)) = some r := h
 clear h
 by_cases c2 : 0 ≤ a0
 ·rw [if_pos c2] at H
  have c2b0 := eq_true c2
  have c2b1 : decide (0 ≤ a0) = true := decide_eq_true c2
  clear c2
  obtain ⟨ji3, hji3⟩ : ∃ j_ : Int, (shl .i64 1 a0) = j_ := ⟨_, rfl⟩
  replace H : (some (wrap64 ((ji3) - 1))) = some r := by first | (rw [hji3] at H; exact H) | (simp only [hji3] at H ⊢; exact H)
  have hji3_ : (IntKind.i64.wrap (1 * 2 ^ min a0.toNat 64)) = ji3 := hji3
  have hji3z : a0 ≤ 64 → (IntKind.i64.wrap (1 * 2 ^ a0.toNat)) = ji3 := shl_small hji3
  have hji3u : (IntKind.i64.wrap (2 ^ min a0.toNat 64)) = ji3 := by have h_ := hji3_; rw [Int.one_mul] at h_; exact h_
  have hji3v : a0 ≤ 64 → (IntKind.i64.wrap (2 ^ a0.toNat)) = ji3 := fun hle_ => by have h_ := hji3z hle_; rw [Int.one_mul] at h_; exact h_
  have hji3y : (wrap64 (1 * 2 ^ min a0.toNat 64)) = ji3 := (i64_w _).symm.trans hji3_
  have hji3x : a0 ≤ 64 → (wrap64 (1 * 2 ^ a0.toNat)) = ji3 := fun h_ => (i64_w _).symm.trans (hji3z h_)
  obtain rfl := Option.some.inj H
  go_enter Try.func110, Try.ntmps110
  go_wp2
  go_ret
  exact ⟨by first | rfl | (simp; done) | (simp only [← hji3] <;> (first | rfl | simp)) | (simp [*]; done), by repeat (first | exact Drawn0.refl _ | apply Drawn0.step)⟩
 ·rw [if_neg c2] at H
  exact absurd H (by simp)

/-! word_Is -/
def word_Is.f (a0 : Int) (a1 : Int) : Option (Bool) := if a0 ≥ 0 then ((word_Most.f a1).bind fun t135 => (some (decide (a0 ≤ t135)))) else (some false)
set_option maxHeartbeats 8000000 in
set_option maxRecDepth 100000 in
theorem word_Is.calls (a0 : Int) (a1 : Int) (r : Bool) (w : World) (h : word_Is.f a0 a1 = some r) :
  Calls Try.prog 79 #[.int .i64 a0, .int .i64 a1] w fun e w' => e = .returned (.bool r) ∧ Drawn0 w w' := by
 have H : (if a0 ≥ 0 then ((word_Most.f a1).bind fun t135 => (some (decide (a0 ≤ t135)))) else (some false)) = some r := h
 clear h
 by_cases c3 : a0 ≥ 0
 ·rw [if_pos c3] at H
  have c3b0 : decide (0 ≤ a0) = true := decide_eq_true c3
  clear c3
  replace H := Option.bind_eq_some_iff.mp H
  obtain ⟨t135, A40, H⟩ := H
  replace H : (some (decide (a0 ≤ t135))) = some r := H
  have A4 := Aside0.mk A40
  clear A40
  obtain rfl := Option.some.inj H
  go_enter Try.func79, Try.ntmps79
  go_wp2_with (first | (go_at_call 110; (with_reducible refine (word_Most.calls a1 t135 _ A4.out).mono ?_); rintro e w' ⟨rfl, ⟨nd, rfl⟩⟩))
  go_ret
  exact ⟨zr, by repeat (first | exact Drawn0.refl _ | apply Drawn0.step)⟩
 ·rw [if_neg c3] at H
  have c3b0 : decide (0 ≤ a0) = false := decide_eq_false c3
  clear c3
  obtain rfl := Option.some.inj H
  go_enter Try.func79, Try.ntmps79
  go_wp2
  go_ret
  exact ⟨zr, by repeat (first | exact Drawn0.refl _ | apply Drawn0.step)⟩

/-! word_IsKind -/
def word_IsKind.f (a0 : Int) : Option (Bool) := if a0 ≥ 1 then (some (decide (a0 ≤ 6))) else (some false)
set_option maxHeartbeats 8000000 in
set_option maxRecDepth 100000 in
theorem word_IsKind.calls (a0 : Int) (r : Bool) (w : World) (h : word_IsKind.f a0 = some r) :
  Calls Try.prog 98 #[.int .i64 a0] w fun e w' => e = .returned (.bool r) ∧ Drawn0 w w' := by
 have H : (if a0 ≥ 1 then (some (decide (a0 ≤ 6))) else (some false)) = some r := h
 clear h
 by_cases c2 : a0 ≥ 1
 ·rw [if_pos c2] at H
  have c2b0 : decide (1 ≤ a0) = true := decide_eq_true c2
  clear c2
  obtain rfl := Option.some.inj H
  go_enter Try.func98, Try.ntmps98
  go_wp2
  go_ret
  exact ⟨zr, by repeat (first | exact Drawn0.refl _ | apply Drawn0.step)⟩
 ·rw [if_neg c2] at H
  have c2b0 : decide (1 ≤ a0) = false := decide_eq_false c2
  clear c2
  obtain rfl := Option.some.inj H
  go_enter Try.func98, Try.ntmps98
  go_wp2
  go_ret
  exact ⟨zr, by repeat (first | exact Drawn0.refl _ | apply Drawn0.step)⟩

/-! word_Of -/
def word_Of.f (a0 : Int) : Option (Int) := if 0 ≤ (wrap64 (Int.tdiv (wrap64 (a0 - 1)) 2)) then (some (shl .i64 8 (wrap64 (Int.tdiv (wrap64 (a0 - 1)) 2)))) else (none)
set_option maxHeartbeats 8000000 in
set_option maxRecDepth 100000 in
theorem word_Of.calls (a0 : Int) (r : Int) (w : World) (h : word_Of.f a0 = some r) :
  Calls Try.prog 99 #[.int .i64 a0] w fun e w' => e = .returned (.int .i64 r) ∧ Drawn0 w w' := by
 have H : (if 0 ≤ (wrap64 (Int.tdiv (wrap64 (a0 - 1)) 2)) then (some (shl .i64 8 (wrap64 (Int.tdiv (wrap64 (a0 - 1)) 2)))) else (none)) = some r := h
 clear h
 obtain ⟨ji2, hji2⟩ : ∃ j_ : Int, (wrap64 (Int.tdiv (wrap64 (a0 - 1)) 2)) = j_ := ⟨_, rfl⟩
 replace H : (if 0 ≤ (ji2) then (some (shl .i64 8 (ji2))) else (none)) = some r := by first | (rw [hji2] at H; exact H) | (simp only [hji2] at H ⊢; exact H)
 have hji2w : (IntKind.i64.wrap (Int.tdiv (wrap64 (a0 - 1)) 2)) = ji2 := (i64_w _).trans hji2
 by_cases c3 : 0 ≤ (ji2)
 ·rw [if_pos c3] at H
  have c3b0 := eq_true c3
  have c3b1 : decide (0 ≤ (ji2)) = true := decide_eq_true c3
  clear c3
  obtain ⟨ji4, hji4⟩ : ∃ j_ : Int, (shl .i64 8 (ji2)) = j_ := ⟨_, rfl⟩
  replace H : (some ji4) = some r := by first | (rw [hji4] at H; exact H) | (simp only [hji4] at H ⊢; exact H)
  have hji4_ : (IntKind.i64.wrap (8 * 2 ^ min (ji2).toNat 64)) = ji4 := hji4
  have hji4z : (ji2) ≤ 64 → (IntKind.i64.wrap (8 * 2 ^ (ji2).toNat)) = ji4 := shl_small hji4
  have hji4y : (wrap64 (8 * 2 ^ min (ji2).toNat 64)) = ji4 := (i64_w _).symm.trans hji4_
  have hji4x : (ji2) ≤ 64 → (wrap64 (8 * 2 ^ (ji2).toNat)) = ji4 := fun h_ => (i64_w _).symm.trans (hji4z h_)
  obtain rfl := Option.some.inj H
  go_enter Try.func99, Try.ntmps99
  go_wp2
  go_ret
  exact ⟨by first | rfl | (simp; done) | (simp only [← hji2, ← hji4] <;> (first | rfl | simp)) | (simp [*]; done), by repeat (first | exact Drawn0.refl _ | apply Drawn0.step)⟩
 ·rw [if_neg c3] at H
  exact absurd H (by simp)

/-! bytes_May -/
def bytes_May.f (a0 : Int) (a1_0 : Bool) (a1_1 : Int) (a1_2 : Int) (a1_3 : Int) : Option (Bool) := (word_IsKind.f a0).bind fun t137 => (if t137 = true then (if a1_0 = true then (some false) else ((word_Of.f a0).bind fun t138 => ((word_Is.f a1_1 t138).bind fun t139 => (if t139 = true then (if a1_2 = 0 then (some (a1_3 == 0)) else (some false)) else (some false))))) else (if a0 = 7 then (if a1_0 = true then (if a1_1 = 0 then ((bytes_up.f a1_2 32).bind fun t140 => (if t140 = true then ((bytes_up.f a1_3 32).bind fun t141 => (if t141 = true then (if a1_2 > 0 then (some true) else (some (a1_3 == 0))) else (some false))) else (some false))) else (some false)) else (some false)) else (some false)))
set_option maxHeartbeats 8000000 in
set_option maxRecDepth 100000 in
theorem bytes_May.calls (a0 : Int) (a1_0 : Bool) (a1_1 : Int) (a1_2 : Int) (a1_3 : Int) (r : Bool) (w : World) (h : bytes_May.f a0 a1_0 a1_1 a1_2 a1_3 = some r) :
  Calls Try.prog 67 #[.int .i64 a0, .agg #[.bool a1_0, .int .i64 a1_1, .int .i64 a1_2, .int .i64 a1_3]] w fun e w' => e = .returned (.bool r) ∧ Below w.heap.size w w' := by
 have hu62 := Try.underlying62
 have HB := Aside0.mk (Below.refl w.heap.size w)
 have H : ((word_IsKind.f a0).bind fun t137 => (if t137 = true then (if a1_0 = true then (some false) else ((word_Of.f a0).bind fun t138 => ((word_Is.f a1_1 t138).bind fun t139 => (if t139 = true then (if a1_2 = 0 then (some (a1_3 == 0)) else (some false)) else (some false))))) else (if a0 = 7 then (if a1_0 = true then (if a1_1 = 0 then ((bytes_up.f a1_2 32).bind fun t140 => (if t140 = true then ((bytes_up.f a1_3 32).bind fun t141 => (if t141 = true then (if a1_2 > 0 then (some true) else (some (a1_3 == 0))) else (some false))) else (some false))) else (some false)) else (some false)) else (some false)))) = some r := h
 clear h
 replace H := Option.bind_eq_some_iff.mp H
 obtain ⟨t137, A30, H⟩ := H
 replace H : (if t137 = true then (if a1_0 = true then (some false) else ((word_Of.f a0).bind fun t138 => ((word_Is.f a1_1 t138).bind fun t139 => (if t139 = true then (if a1_2 = 0 then (some (a1_3 == 0)) else (some false)) else (some false))))) else (if a0 = 7 then (if a1_0 = true then (if a1_1 = 0 then ((bytes_up.f a1_2 32).bind fun t140 => (if t140 = true then ((bytes_up.f a1_3 32).bind fun t141 => (if t141 = true then (if a1_2 > 0 then (some true) else (some (a1_3 == 0))) else (some false))) else (some false))) else (some false)) else (some false)) else (some false))) = some r := H
 have A3 := Aside0.mk A30
 clear A30
 by_cases c4 : t137 = true
 ·subst c4
  have H1 : (if a1_0 = true then (some false) else ((word_Of.f a0).bind fun t138 => ((word_Is.f a1_1 t138).bind fun t139 => (if t139 = true then (if a1_2 = 0 then (some (a1_3 == 0)) else (some false)) else (some false))))) = some r := by rw [if_pos rfl] at H; exact H
  clear H
  have H := H1
  clear H1
  by_cases c5 : a1_0 = true
  ·subst c5
   have H1 : (some false) = some r := by rw [if_pos rfl] at H; exact H
   clear H
   have H := H1
   clear H1
   obtain rfl := Option.some.inj H
   go_enter Try.func67, Try.ntmps67
   go_wp2_with (first | ((with_reducible refine gate_dst (N := 3) rfl ?_); refine zbox (N := 3) (cs := #[.bool true, .int .i64 a1_1, .int .i64 a1_2, .int .i64 a1_3]) (t := 62) ?_; intro gb136 hg w6 hbox hb; have n0_ := Aside0.mk (below_step (zw0 HB.out) hb); have BK136 := Aside0.mk (hbox); have GW136 := Aside0.mk (zg hg (below_size (zw0 HB.out))); have GE136 := GW136; clear HB; have HB := n0_; clear n0_; clear hb hbox hg) | (go_at_call 98; (with_reducible refine (word_IsKind.calls a0 true _ A3.out).mono ?_); rintro e w' ⟨rfl, ⟨nd, rfl⟩⟩; (try first | exact ⟨rfl, _, World.drewN_drewN _ _ _⟩ | exact ⟨rfl, _, Eq.trans (World.drewN_drewN _ _ _) (congrArg (World.drewN _) (Nat.add_assoc _ _ _))⟩); have hcz7_0 := zc BK136.out 0; have hcz7_1 := zc BK136.out 1; have hcz7_2 := zc BK136.out 2; have hcz7_3 := zc BK136.out 3; have hfz7_0 := blk_frozen BK136.out 0; have hfz7_1 := blk_frozen BK136.out 1; have hfz7_2 := blk_frozen BK136.out 2; have hfz7_3 := blk_frozen BK136.out 3))
   repeat (go_quiet (first | ((with_reducible refine gate_dst (N := 3) rfl ?_); refine zbox (N := 3) (cs := #[.bool true, .int .i64 a1_1, .int .i64 a1_2, .int .i64 a1_3]) (t := 62) ?_; intro gb136 hg w6 hbox hb; have n0_ := Aside0.mk (below_step (zw0 HB.out) hb); have BK136 := Aside0.mk (hbox); have GW136 := Aside0.mk (zg hg (below_size (zw0 HB.out))); have GE136 := GW136; clear HB; have HB := n0_; clear n0_; clear hb hbox hg) | (go_at_call 98; (with_reducible refine (word_IsKind.calls a0 true _ A3.out).mono ?_); rintro e w' ⟨rfl, ⟨nd, rfl⟩⟩; (try first | exact ⟨rfl, _, World.drewN_drewN _ _ _⟩ | exact ⟨rfl, _, Eq.trans (World.drewN_drewN _ _ _) (congrArg (World.drewN _) (Nat.add_assoc _ _ _))⟩); have hcz7_0 := zc BK136.out 0; have hcz7_1 := zc BK136.out 1; have hcz7_2 := zc BK136.out 2; have hcz7_3 := zc BK136.out 3; have hfz7_0 := blk_frozen BK136.out 0; have hfz7_1 := blk_frozen BK136.out 1; have hfz7_2 := blk_frozen BK136.out 2; have hfz7_3 := blk_frozen BK136.out 3)); try go_wp2_with (first | ((with_reducible refine gate_dst (N := 3) rfl ?_); refine zbox (N := 3) (cs := #[.bool true, .int .i64 a1_1, .int .i64 a1_2, .int .i64 a1_3]) (t := 62) ?_; intro gb136 hg w6 hbox hb; have n0_ := Aside0.mk (below_step (zw0 HB.out) hb); have BK136 := Aside0.mk (hbox); have GW136 := Aside0.mk (zg hg (below_size (zw0 HB.out))); have GE136 := GW136; clear HB; have HB := n0_; clear n0_; clear hb hbox hg) | (go_at_call 98; (with_reducible refine (word_IsKind.calls a0 true _ A3.out).mono ?_); rintro e w' ⟨rfl, ⟨nd, rfl⟩⟩; (try first | exact ⟨rfl, _, World.drewN_drewN _ _ _⟩ | exact ⟨rfl, _, Eq.trans (World.drewN_drewN _ _ _) (congrArg (World.drewN _) (Nat.add_assoc _ _ _))⟩); have hcz7_0 := zc BK136.out 0; have hcz7_1 := zc BK136.out 1; have hcz7_2 := zc BK136.out 2; have hcz7_3 := zc BK136.out 3; have hfz7_0 := blk_frozen BK136.out 0; have hfz7_1 := blk_frozen BK136.out 1; have hfz7_2 := blk_frozen BK136.out 2; have hfz7_3 := blk_frozen BK136.out 3)))
   go_ret
   exact ⟨ze, zw1 HB.out GE136.out⟩
  replace c5 := Bool.eq_false_iff.mpr c5
  subst c5
  have H1 : ((word_Of.f a0).bind fun t138 => ((word_Is.f a1_1 t138).bind fun t139 => (if t139 = true then (if a1_2 = 0 then (some (a1_3 == 0)) else (some false)) else (some false)))) = some r := by rw [if_neg (show ¬ (false = true) by decide)] at H; exact H
  clear H
  have H := H1
  clear H1
  replace H := Option.bind_eq_some_iff.mp H
  obtain ⟨t138, A80, H⟩ := H
  replace H : ((word_Is.f a1_1 t138).bind fun t139 => (if t139 = true then (if a1_2 = 0 then (some (a1_3 == 0)) else (some false)) else (some false))) = some r := H
  have A8 := Aside0.mk A80
  clear A80
  replace H := Option.bind_eq_some_iff.mp H
  obtain ⟨t139, A90, H⟩ := H
  replace H : (if t139 = true then (if a1_2 = 0 then (some (a1_3 == 0)) else (some false)) else (some false)) = some r := H
  have A9 := Aside0.mk A90
  clear A90
  by_cases c10 : t139 = true
  rotate_left
  ·replace c10 := Bool.eq_false_iff.mpr c10
   subst c10
   have H1 : (some false) = some r := by rw [if_neg (show ¬ (false = true) by decide)] at H; exact H
   clear H
   have H := H1
   clear H1
   obtain rfl := Option.some.inj H
   go_enter Try.func67, Try.ntmps67
   go_wp2_with (first | ((with_reducible refine gate_dst (N := 3) rfl ?_); refine zbox (N := 3) (cs := #[.bool false, .int .i64 a1_1, .int .i64 a1_2, .int .i64 a1_3]) (t := 62) ?_; intro gb136 hg w16 hbox hb; have n0_ := Aside0.mk (below_step (zw0 HB.out) hb); have BK136 := Aside0.mk (hbox); have GW136 := Aside0.mk (zg hg (below_size (zw0 HB.out))); have GE136 := GW136; clear HB; have HB := n0_; clear n0_; clear hb hbox hg) | (go_at_call 98; (with_reducible refine (word_IsKind.calls a0 true _ A3.out).mono ?_); rintro e w' ⟨rfl, ⟨nd, rfl⟩⟩; (try first | exact ⟨rfl, _, World.drewN_drewN _ _ _⟩ | exact ⟨rfl, _, Eq.trans (World.drewN_drewN _ _ _) (congrArg (World.drewN _) (Nat.add_assoc _ _ _))⟩); have hcz17_0 := zc BK136.out 0; have hcz17_1 := zc BK136.out 1; have hcz17_2 := zc BK136.out 2; have hcz17_3 := zc BK136.out 3; have hfz17_0 := blk_frozen BK136.out 0; have hfz17_1 := blk_frozen BK136.out 1; have hfz17_2 := blk_frozen BK136.out 2; have hfz17_3 := blk_frozen BK136.out 3) | (go_at_call 99; (with_reducible refine (word_Of.calls a0 t138 _ A8.out).mono ?_); rintro e w' ⟨rfl, ⟨nd, rfl⟩⟩; (try first | exact ⟨rfl, _, World.drewN_drewN _ _ _⟩ | exact ⟨rfl, _, Eq.trans (World.drewN_drewN _ _ _) (congrArg (World.drewN _) (Nat.add_assoc _ _ _))⟩)) | (go_at_call 79; (with_reducible refine (word_Is.calls a1_1 t138 false _ A9.out).mono ?_); rintro e w' ⟨rfl, ⟨nd, rfl⟩⟩; (try first | exact ⟨rfl, _, World.drewN_drewN _ _ _⟩ | exact ⟨rfl, _, Eq.trans (World.drewN_drewN _ _ _) (congrArg (World.drewN _) (Nat.add_assoc _ _ _))⟩)))
   repeat (go_quiet (first | ((with_reducible refine gate_dst (N := 3) rfl ?_); refine zbox (N := 3) (cs := #[.bool false, .int .i64 a1_1, .int .i64 a1_2, .int .i64 a1_3]) (t := 62) ?_; intro gb136 hg w16 hbox hb; have n0_ := Aside0.mk (below_step (zw0 HB.out) hb); have BK136 := Aside0.mk (hbox); have GW136 := Aside0.mk (zg hg (below_size (zw0 HB.out))); have GE136 := GW136; clear HB; have HB := n0_; clear n0_; clear hb hbox hg) | (go_at_call 98; (with_reducible refine (word_IsKind.calls a0 true _ A3.out).mono ?_); rintro e w' ⟨rfl, ⟨nd, rfl⟩⟩; (try first | exact ⟨rfl, _, World.drewN_drewN _ _ _⟩ | exact ⟨rfl, _, Eq.trans (World.drewN_drewN _ _ _) (congrArg (World.drewN _) (Nat.add_assoc _ _ _))⟩); have hcz17_0 := zc BK136.out 0; have hcz17_1 := zc BK136.out 1; have hcz17_2 := zc BK136.out 2; have hcz17_3 := zc BK136.out 3; have hfz17_0 := blk_frozen BK136.out 0; have hfz17_1 := blk_frozen BK136.out 1; have hfz17_2 := blk_frozen BK136.out 2; have hfz17_3 := blk_frozen BK136.out 3) | (go_at_call 99; (with_reducible refine (word_Of.calls a0 t138 _ A8.out).mono ?_); rintro e w' ⟨rfl, ⟨nd, rfl⟩⟩; (try first | exact ⟨rfl, _, World.drewN_drewN _ _ _⟩ | exact ⟨rfl, _, Eq.trans (World.drewN_drewN _ _ _) (congrArg (World.drewN _) (Nat.add_assoc _ _ _))⟩)) | (go_at_call 79; (with_reducible refine (word_Is.calls a1_1 t138 false _ A9.out).mono ?_); rintro e w' ⟨rfl, ⟨nd, rfl⟩⟩; (try first | exact ⟨rfl, _, World.drewN_drewN _ _ _⟩ | exact ⟨rfl, _, Eq.trans (World.drewN_drewN _ _ _) (congrArg (World.drewN _) (Nat.add_assoc _ _ _))⟩))); try go_wp2_with (first | ((with_reducible refine gate_dst (N := 3) rfl ?_); refine zbox (N := 3) (cs := #[.bool false, .int .i64 a1_1, .int .i64 a1_2, .int .i64 a1_3]) (t := 62) ?_; intro gb136 hg w16 hbox hb; have n0_ := Aside0.mk (below_step (zw0 HB.out) hb); have BK136 := Aside0.mk (hbox); have GW136 := Aside0.mk (zg hg (below_size (zw0 HB.out))); have GE136 := GW136; clear HB; have HB := n0_; clear n0_; clear hb hbox hg) | (go_at_call 98; (with_reducible refine (word_IsKind.calls a0 true _ A3.out).mono ?_); rintro e w' ⟨rfl, ⟨nd, rfl⟩⟩; (try first | exact ⟨rfl, _, World.drewN_drewN _ _ _⟩ | exact ⟨rfl, _, Eq.trans (World.drewN_drewN _ _ _) (congrArg (World.drewN _) (Nat.add_assoc _ _ _))⟩); have hcz17_0 := zc BK136.out 0; have hcz17_1 := zc BK136.out 1; have hcz17_2 := zc BK136.out 2; have hcz17_3 := zc BK136.out 3; have hfz17_0 := blk_frozen BK136.out 0; have hfz17_1 := blk_frozen BK136.out 1; have hfz17_2 := blk_frozen BK136.out 2; have hfz17_3 := blk_frozen BK136.out 3) | (go_at_call 99; (with_reducible refine (word_Of.calls a0 t138 _ A8.out).mono ?_); rintro e w' ⟨rfl, ⟨nd, rfl⟩⟩; (try first | exact ⟨rfl, _, World.drewN_drewN _ _ _⟩ | exact ⟨rfl, _, Eq.trans (World.drewN_drewN _ _ _) (congrArg (World.drewN _) (Nat.add_assoc _ _ _))⟩)) | (go_at_call 79; (with_reducible refine (word_Is.calls a1_1 t138 false _ A9.out).mono ?_); rintro e w' ⟨rfl, ⟨nd, rfl⟩⟩; (try first | exact ⟨rfl, _, World.drewN_drewN _ _ _⟩ | exact ⟨rfl, _, Eq.trans (World.drewN_drewN _ _ _) (congrArg (World.drewN _) (Nat.add_assoc _ _ _))⟩))))
   go_ret
   exact ⟨ze, zw1 HB.out GE136.out⟩
  subst c10
  have H1 : (if a1_2 = 0 then (some (a1_3 == 0)) else (some false)) = some r := by rw [if_pos rfl] at H; exact H
  clear H
  have H := H1
  clear H1
  by_cases c11 : a1_2 = 0
  rotate_left
  ·rw [if_neg c11] at H
   have c11b0 : (a1_2 == 0) = false := beq_eq_false_iff_ne.mpr c11
   have c11b1 : (a1_2 != 0) = true := bne_iff_ne.mpr c11
   obtain rfl := Option.some.inj H
   go_enter Try.func67, Try.ntmps67
   go_wp2_with (first | ((with_reducible refine gate_dst (N := 3) rfl ?_); refine zbox (N := 3) (cs := #[.bool false, .int .i64 a1_1, .int .i64 a1_2, .int .i64 a1_3]) (t := 62) ?_; intro gb136 hg w14 hbox hb; have n0_ := Aside0.mk (below_step (zw0 HB.out) hb); have BK136 := Aside0.mk (hbox); have GW136 := Aside0.mk (zg hg (below_size (zw0 HB.out))); have GE136 := GW136; clear HB; have HB := n0_; clear n0_; clear hb hbox hg) | (go_at_call 98; (with_reducible refine (word_IsKind.calls a0 true _ A3.out).mono ?_); rintro e w' ⟨rfl, ⟨nd, rfl⟩⟩; (try first | exact ⟨rfl, _, World.drewN_drewN _ _ _⟩ | exact ⟨rfl, _, Eq.trans (World.drewN_drewN _ _ _) (congrArg (World.drewN _) (Nat.add_assoc _ _ _))⟩); have hcz15_0 := zc BK136.out 0; have hcz15_1 := zc BK136.out 1; have hcz15_2 := zc BK136.out 2; have hcz15_3 := zc BK136.out 3; have hfz15_0 := blk_frozen BK136.out 0; have hfz15_1 := blk_frozen BK136.out 1; have hfz15_2 := blk_frozen BK136.out 2; have hfz15_3 := blk_frozen BK136.out 3) | (go_at_call 99; (with_reducible refine (word_Of.calls a0 t138 _ A8.out).mono ?_); rintro e w' ⟨rfl, ⟨nd, rfl⟩⟩; (try first | exact ⟨rfl, _, World.drewN_drewN _ _ _⟩ | exact ⟨rfl, _, Eq.trans (World.drewN_drewN _ _ _) (congrArg (World.drewN _) (Nat.add_assoc _ _ _))⟩)) | (go_at_call 79; (with_reducible refine (word_Is.calls a1_1 t138 true _ A9.out).mono ?_); rintro e w' ⟨rfl, ⟨nd, rfl⟩⟩; (try first | exact ⟨rfl, _, World.drewN_drewN _ _ _⟩ | exact ⟨rfl, _, Eq.trans (World.drewN_drewN _ _ _) (congrArg (World.drewN _) (Nat.add_assoc _ _ _))⟩)))
   repeat (go_quiet (first | ((with_reducible refine gate_dst (N := 3) rfl ?_); refine zbox (N := 3) (cs := #[.bool false, .int .i64 a1_1, .int .i64 a1_2, .int .i64 a1_3]) (t := 62) ?_; intro gb136 hg w14 hbox hb; have n0_ := Aside0.mk (below_step (zw0 HB.out) hb); have BK136 := Aside0.mk (hbox); have GW136 := Aside0.mk (zg hg (below_size (zw0 HB.out))); have GE136 := GW136; clear HB; have HB := n0_; clear n0_; clear hb hbox hg) | (go_at_call 98; (with_reducible refine (word_IsKind.calls a0 true _ A3.out).mono ?_); rintro e w' ⟨rfl, ⟨nd, rfl⟩⟩; (try first | exact ⟨rfl, _, World.drewN_drewN _ _ _⟩ | exact ⟨rfl, _, Eq.trans (World.drewN_drewN _ _ _) (congrArg (World.drewN _) (Nat.add_assoc _ _ _))⟩); have hcz15_0 := zc BK136.out 0; have hcz15_1 := zc BK136.out 1; have hcz15_2 := zc BK136.out 2; have hcz15_3 := zc BK136.out 3; have hfz15_0 := blk_frozen BK136.out 0; have hfz15_1 := blk_frozen BK136.out 1; have hfz15_2 := blk_frozen BK136.out 2; have hfz15_3 := blk_frozen BK136.out 3) | (go_at_call 99; (with_reducible refine (word_Of.calls a0 t138 _ A8.out).mono ?_); rintro e w' ⟨rfl, ⟨nd, rfl⟩⟩; (try first | exact ⟨rfl, _, World.drewN_drewN _ _ _⟩ | exact ⟨rfl, _, Eq.trans (World.drewN_drewN _ _ _) (congrArg (World.drewN _) (Nat.add_assoc _ _ _))⟩)) | (go_at_call 79; (with_reducible refine (word_Is.calls a1_1 t138 true _ A9.out).mono ?_); rintro e w' ⟨rfl, ⟨nd, rfl⟩⟩; (try first | exact ⟨rfl, _, World.drewN_drewN _ _ _⟩ | exact ⟨rfl, _, Eq.trans (World.drewN_drewN _ _ _) (congrArg (World.drewN _) (Nat.add_assoc _ _ _))⟩))); try go_wp2_with (first | ((with_reducible refine gate_dst (N := 3) rfl ?_); refine zbox (N := 3) (cs := #[.bool false, .int .i64 a1_1, .int .i64 a1_2, .int .i64 a1_3]) (t := 62) ?_; intro gb136 hg w14 hbox hb; have n0_ := Aside0.mk (below_step (zw0 HB.out) hb); have BK136 := Aside0.mk (hbox); have GW136 := Aside0.mk (zg hg (below_size (zw0 HB.out))); have GE136 := GW136; clear HB; have HB := n0_; clear n0_; clear hb hbox hg) | (go_at_call 98; (with_reducible refine (word_IsKind.calls a0 true _ A3.out).mono ?_); rintro e w' ⟨rfl, ⟨nd, rfl⟩⟩; (try first | exact ⟨rfl, _, World.drewN_drewN _ _ _⟩ | exact ⟨rfl, _, Eq.trans (World.drewN_drewN _ _ _) (congrArg (World.drewN _) (Nat.add_assoc _ _ _))⟩); have hcz15_0 := zc BK136.out 0; have hcz15_1 := zc BK136.out 1; have hcz15_2 := zc BK136.out 2; have hcz15_3 := zc BK136.out 3; have hfz15_0 := blk_frozen BK136.out 0; have hfz15_1 := blk_frozen BK136.out 1; have hfz15_2 := blk_frozen BK136.out 2; have hfz15_3 := blk_frozen BK136.out 3) | (go_at_call 99; (with_reducible refine (word_Of.calls a0 t138 _ A8.out).mono ?_); rintro e w' ⟨rfl, ⟨nd, rfl⟩⟩; (try first | exact ⟨rfl, _, World.drewN_drewN _ _ _⟩ | exact ⟨rfl, _, Eq.trans (World.drewN_drewN _ _ _) (congrArg (World.drewN _) (Nat.add_assoc _ _ _))⟩)) | (go_at_call 79; (with_reducible refine (word_Is.calls a1_1 t138 true _ A9.out).mono ?_); rintro e w' ⟨rfl, ⟨nd, rfl⟩⟩; (try first | exact ⟨rfl, _, World.drewN_drewN _ _ _⟩ | exact ⟨rfl, _, Eq.trans (World.drewN_drewN _ _ _) (congrArg (World.drewN _) (Nat.add_assoc _ _ _))⟩))))
   go_ret
   exact ⟨ze, zw1 HB.out GE136.out⟩
  rw [if_pos c11] at H
  have c11b0 : (a1_2 == 0) = true := beq_iff_eq.mpr c11
  have c11b1 : (a1_2 != 0) = false := bne_eq_false_iff_eq.mpr c11
  clear c11
  obtain rfl := Option.some.inj H
  go_enter Try.func67, Try.ntmps67
  go_wp2_with (first | ((with_reducible refine gate_dst (N := 3) rfl ?_); refine zbox (N := 3) (cs := #[.bool false, .int .i64 a1_1, .int .i64 a1_2, .int .i64 a1_3]) (t := 62) ?_; intro gb136 hg w12 hbox hb; have n0_ := Aside0.mk (below_step (zw0 HB.out) hb); have BK136 := Aside0.mk (hbox); have GW136 := Aside0.mk (zg hg (below_size (zw0 HB.out))); have GE136 := GW136; clear HB; have HB := n0_; clear n0_; clear hb hbox hg) | (go_at_call 98; (with_reducible refine (word_IsKind.calls a0 true _ A3.out).mono ?_); rintro e w' ⟨rfl, ⟨nd, rfl⟩⟩; (try first | exact ⟨rfl, _, World.drewN_drewN _ _ _⟩ | exact ⟨rfl, _, Eq.trans (World.drewN_drewN _ _ _) (congrArg (World.drewN _) (Nat.add_assoc _ _ _))⟩); have hcz13_0 := zc BK136.out 0; have hcz13_1 := zc BK136.out 1; have hcz13_2 := zc BK136.out 2; have hcz13_3 := zc BK136.out 3; have hfz13_0 := blk_frozen BK136.out 0; have hfz13_1 := blk_frozen BK136.out 1; have hfz13_2 := blk_frozen BK136.out 2; have hfz13_3 := blk_frozen BK136.out 3) | (go_at_call 99; (with_reducible refine (word_Of.calls a0 t138 _ A8.out).mono ?_); rintro e w' ⟨rfl, ⟨nd, rfl⟩⟩; (try first | exact ⟨rfl, _, World.drewN_drewN _ _ _⟩ | exact ⟨rfl, _, Eq.trans (World.drewN_drewN _ _ _) (congrArg (World.drewN _) (Nat.add_assoc _ _ _))⟩)) | (go_at_call 79; (with_reducible refine (word_Is.calls a1_1 t138 true _ A9.out).mono ?_); rintro e w' ⟨rfl, ⟨nd, rfl⟩⟩; (try first | exact ⟨rfl, _, World.drewN_drewN _ _ _⟩ | exact ⟨rfl, _, Eq.trans (World.drewN_drewN _ _ _) (congrArg (World.drewN _) (Nat.add_assoc _ _ _))⟩)))
  repeat (go_quiet (first | ((with_reducible refine gate_dst (N := 3) rfl ?_); refine zbox (N := 3) (cs := #[.bool false, .int .i64 a1_1, .int .i64 a1_2, .int .i64 a1_3]) (t := 62) ?_; intro gb136 hg w12 hbox hb; have n0_ := Aside0.mk (below_step (zw0 HB.out) hb); have BK136 := Aside0.mk (hbox); have GW136 := Aside0.mk (zg hg (below_size (zw0 HB.out))); have GE136 := GW136; clear HB; have HB := n0_; clear n0_; clear hb hbox hg) | (go_at_call 98; (with_reducible refine (word_IsKind.calls a0 true _ A3.out).mono ?_); rintro e w' ⟨rfl, ⟨nd, rfl⟩⟩; (try first | exact ⟨rfl, _, World.drewN_drewN _ _ _⟩ | exact ⟨rfl, _, Eq.trans (World.drewN_drewN _ _ _) (congrArg (World.drewN _) (Nat.add_assoc _ _ _))⟩); have hcz13_0 := zc BK136.out 0; have hcz13_1 := zc BK136.out 1; have hcz13_2 := zc BK136.out 2; have hcz13_3 := zc BK136.out 3; have hfz13_0 := blk_frozen BK136.out 0; have hfz13_1 := blk_frozen BK136.out 1; have hfz13_2 := blk_frozen BK136.out 2; have hfz13_3 := blk_frozen BK136.out 3) | (go_at_call 99; (with_reducible refine (word_Of.calls a0 t138 _ A8.out).mono ?_); rintro e w' ⟨rfl, ⟨nd, rfl⟩⟩; (try first | exact ⟨rfl, _, World.drewN_drewN _ _ _⟩ | exact ⟨rfl, _, Eq.trans (World.drewN_drewN _ _ _) (congrArg (World.drewN _) (Nat.add_assoc _ _ _))⟩)) | (go_at_call 79; (with_reducible refine (word_Is.calls a1_1 t138 true _ A9.out).mono ?_); rintro e w' ⟨rfl, ⟨nd, rfl⟩⟩; (try first | exact ⟨rfl, _, World.drewN_drewN _ _ _⟩ | exact ⟨rfl, _, Eq.trans (World.drewN_drewN _ _ _) (congrArg (World.drewN _) (Nat.add_assoc _ _ _))⟩))); try go_wp2_with (first | ((with_reducible refine gate_dst (N := 3) rfl ?_); refine zbox (N := 3) (cs := #[.bool false, .int .i64 a1_1, .int .i64 a1_2, .int .i64 a1_3]) (t := 62) ?_; intro gb136 hg w12 hbox hb; have n0_ := Aside0.mk (below_step (zw0 HB.out) hb); have BK136 := Aside0.mk (hbox); have GW136 := Aside0.mk (zg hg (below_size (zw0 HB.out))); have GE136 := GW136; clear HB; have HB := n0_; clear n0_; clear hb hbox hg) | (go_at_call 98; (with_reducible refine (word_IsKind.calls a0 true _ A3.out).mono ?_); rintro e w' ⟨rfl, ⟨nd, rfl⟩⟩; (try first | exact ⟨rfl, _, World.drewN_drewN _ _ _⟩ | exact ⟨rfl, _, Eq.trans (World.drewN_drewN _ _ _) (congrArg (World.drewN _) (Nat.add_assoc _ _ _))⟩); have hcz13_0 := zc BK136.out 0; have hcz13_1 := zc BK136.out 1; have hcz13_2 := zc BK136.out 2; have hcz13_3 := zc BK136.out 3; have hfz13_0 := blk_frozen BK136.out 0; have hfz13_1 := blk_frozen BK136.out 1; have hfz13_2 := blk_frozen BK136.out 2; have hfz13_3 := blk_frozen BK136.out 3) | (go_at_call 99; (with_reducible refine (word_Of.calls a0 t138 _ A8.out).mono ?_); rintro e w' ⟨rfl, ⟨nd, rfl⟩⟩; (try first | exact ⟨rfl, _, World.drewN_drewN _ _ _⟩ | exact ⟨rfl, _, Eq.trans (World.drewN_drewN _ _ _) (congrArg (World.drewN _) (Nat.add_assoc _ _ _))⟩)) | (go_at_call 79; (with_reducible refine (word_Is.calls a1_1 t138 true _ A9.out).mono ?_); rintro e w' ⟨rfl, ⟨nd, rfl⟩⟩; (try first | exact ⟨rfl, _, World.drewN_drewN _ _ _⟩ | exact ⟨rfl, _, Eq.trans (World.drewN_drewN _ _ _) (congrArg (World.drewN _) (Nat.add_assoc _ _ _))⟩))))
  go_ret
  exact ⟨ze, zw1 HB.out GE136.out⟩
 ·replace c4 := Bool.eq_false_iff.mpr c4
  subst c4
  have H1 : (if a0 = 7 then (if a1_0 = true then (if a1_1 = 0 then ((bytes_up.f a1_2 32).bind fun t140 => (if t140 = true then ((bytes_up.f a1_3 32).bind fun t141 => (if t141 = true then (if a1_2 > 0 then (some true) else (some (a1_3 == 0))) else (some false))) else (some false))) else (some false)) else (some false)) else (some false)) = some r := by rw [if_neg (show ¬ (false = true) by decide)] at H; exact H
  clear H
  have H := H1
  clear H1
  by_cases c18 : a0 = 7
  ·rw [if_pos c18] at H
   have c18b0 : (a0 == 7) = true := beq_iff_eq.mpr c18
   have c18b1 : (a0 != 7) = false := bne_eq_false_iff_eq.mpr c18
   clear c18
   by_cases c19 : a1_0 = true
   rotate_left
   ·replace c19 := Bool.eq_false_iff.mpr c19
    subst c19
    have H1 : (some false) = some r := by rw [if_neg (show ¬ (false = true) by decide)] at H; exact H
    clear H
    have H := H1
    clear H1
    obtain rfl := Option.some.inj H
    go_enter Try.func67, Try.ntmps67
    go_wp2_with (first | ((with_reducible refine gate_dst (N := 3) rfl ?_); refine zbox (N := 3) (cs := #[.bool false, .int .i64 a1_1, .int .i64 a1_2, .int .i64 a1_3]) (t := 62) ?_; intro gb136 hg w36 hbox hb; have n0_ := Aside0.mk (below_step (zw0 HB.out) hb); have BK136 := Aside0.mk (hbox); have GW136 := Aside0.mk (zg hg (below_size (zw0 HB.out))); have GE136 := GW136; clear HB; have HB := n0_; clear n0_; clear hb hbox hg) | (go_at_call 98; (with_reducible refine (word_IsKind.calls a0 false _ A3.out).mono ?_); rintro e w' ⟨rfl, ⟨nd, rfl⟩⟩; (try first | exact ⟨rfl, _, World.drewN_drewN _ _ _⟩ | exact ⟨rfl, _, Eq.trans (World.drewN_drewN _ _ _) (congrArg (World.drewN _) (Nat.add_assoc _ _ _))⟩); have hcz37_0 := zc BK136.out 0; have hcz37_1 := zc BK136.out 1; have hcz37_2 := zc BK136.out 2; have hcz37_3 := zc BK136.out 3; have hfz37_0 := blk_frozen BK136.out 0; have hfz37_1 := blk_frozen BK136.out 1; have hfz37_2 := blk_frozen BK136.out 2; have hfz37_3 := blk_frozen BK136.out 3))
    repeat (go_quiet (first | ((with_reducible refine gate_dst (N := 3) rfl ?_); refine zbox (N := 3) (cs := #[.bool false, .int .i64 a1_1, .int .i64 a1_2, .int .i64 a1_3]) (t := 62) ?_; intro gb136 hg w36 hbox hb; have n0_ := Aside0.mk (below_step (zw0 HB.out) hb); have BK136 := Aside0.mk (hbox); have GW136 := Aside0.mk (zg hg (below_size (zw0 HB.out))); have GE136 := GW136; clear HB; have HB := n0_; clear n0_; clear hb hbox hg) | (go_at_call 98; (with_reducible refine (word_IsKind.calls a0 false _ A3.out).mono ?_); rintro e w' ⟨rfl, ⟨nd, rfl⟩⟩; (try first | exact ⟨rfl, _, World.drewN_drewN _ _ _⟩ | exact ⟨rfl, _, Eq.trans (World.drewN_drewN _ _ _) (congrArg (World.drewN _) (Nat.add_assoc _ _ _))⟩); have hcz37_0 := zc BK136.out 0; have hcz37_1 := zc BK136.out 1; have hcz37_2 := zc BK136.out 2; have hcz37_3 := zc BK136.out 3; have hfz37_0 := blk_frozen BK136.out 0; have hfz37_1 := blk_frozen BK136.out 1; have hfz37_2 := blk_frozen BK136.out 2; have hfz37_3 := blk_frozen BK136.out 3)); try go_wp2_with (first | ((with_reducible refine gate_dst (N := 3) rfl ?_); refine zbox (N := 3) (cs := #[.bool false, .int .i64 a1_1, .int .i64 a1_2, .int .i64 a1_3]) (t := 62) ?_; intro gb136 hg w36 hbox hb; have n0_ := Aside0.mk (below_step (zw0 HB.out) hb); have BK136 := Aside0.mk (hbox); have GW136 := Aside0.mk (zg hg (below_size (zw0 HB.out))); have GE136 := GW136; clear HB; have HB := n0_; clear n0_; clear hb hbox hg) | (go_at_call 98; (with_reducible refine (word_IsKind.calls a0 false _ A3.out).mono ?_); rintro e w' ⟨rfl, ⟨nd, rfl⟩⟩; (try first | exact ⟨rfl, _, World.drewN_drewN _ _ _⟩ | exact ⟨rfl, _, Eq.trans (World.drewN_drewN _ _ _) (congrArg (World.drewN _) (Nat.add_assoc _ _ _))⟩); have hcz37_0 := zc BK136.out 0; have hcz37_1 := zc BK136.out 1; have hcz37_2 := zc BK136.out 2; have hcz37_3 := zc BK136.out 3; have hfz37_0 := blk_frozen BK136.out 0; have hfz37_1 := blk_frozen BK136.out 1; have hfz37_2 := blk_frozen BK136.out 2; have hfz37_3 := blk_frozen BK136.out 3)))
    go_ret
    exact ⟨ze, zw1 HB.out GE136.out⟩
   subst c19
   have H1 : (if a1_1 = 0 then ((bytes_up.f a1_2 32).bind fun t140 => (if t140 = true then ((bytes_up.f a1_3 32).bind fun t141 => (if t141 = true then (if a1_2 > 0 then (some true) else (some (a1_3 == 0))) else (some false))) else (some false))) else (some false)) = some r := by rw [if_pos rfl] at H; exact H
   clear H
   have H := H1
   clear H1
   by_cases c20 : a1_1 = 0
   rotate_left
   ·rw [if_neg c20] at H
    have c20b0 : (a1_1 == 0) = false := beq_eq_false_iff_ne.mpr c20
    have c20b1 : (a1_1 != 0) = true := bne_iff_ne.mpr c20
    obtain rfl := Option.some.inj H
    go_enter Try.func67, Try.ntmps67
    go_wp2_with (first | ((with_reducible refine gate_dst (N := 3) rfl ?_); refine zbox (N := 3) (cs := #[.bool true, .int .i64 a1_1, .int .i64 a1_2, .int .i64 a1_3]) (t := 62) ?_; intro gb136 hg w34 hbox hb; have n0_ := Aside0.mk (below_step (zw0 HB.out) hb); have BK136 := Aside0.mk (hbox); have GW136 := Aside0.mk (zg hg (below_size (zw0 HB.out))); have GE136 := GW136; clear HB; have HB := n0_; clear n0_; clear hb hbox hg) | (go_at_call 98; (with_reducible refine (word_IsKind.calls a0 false _ A3.out).mono ?_); rintro e w' ⟨rfl, ⟨nd, rfl⟩⟩; (try first | exact ⟨rfl, _, World.drewN_drewN _ _ _⟩ | exact ⟨rfl, _, Eq.trans (World.drewN_drewN _ _ _) (congrArg (World.drewN _) (Nat.add_assoc _ _ _))⟩); have hcz35_0 := zc BK136.out 0; have hcz35_1 := zc BK136.out 1; have hcz35_2 := zc BK136.out 2; have hcz35_3 := zc BK136.out 3; have hfz35_0 := blk_frozen BK136.out 0; have hfz35_1 := blk_frozen BK136.out 1; have hfz35_2 := blk_frozen BK136.out 2; have hfz35_3 := blk_frozen BK136.out 3))
    repeat (go_quiet (first | ((with_reducible refine gate_dst (N := 3) rfl ?_); refine zbox (N := 3) (cs := #[.bool true, .int .i64 a1_1, .int .i64 a1_2, .int .i64 a1_3]) (t := 62) ?_; intro gb136 hg w34 hbox hb; have n0_ := Aside0.mk (below_step (zw0 HB.out) hb); have BK136 := Aside0.mk (hbox); have GW136 := Aside0.mk (zg hg (below_size (zw0 HB.out))); have GE136 := GW136; clear HB; have HB := n0_; clear n0_; clear hb hbox hg) | (go_at_call 98; (with_reducible refine (word_IsKind.calls a0 false _ A3.out).mono ?_); rintro e w' ⟨rfl, ⟨nd, rfl⟩⟩; (try first | exact ⟨rfl, _, World.drewN_drewN _ _ _⟩ | exact ⟨rfl, _, Eq.trans (World.drewN_drewN _ _ _) (congrArg (World.drewN _) (Nat.add_assoc _ _ _))⟩); have hcz35_0 := zc BK136.out 0; have hcz35_1 := zc BK136.out 1; have hcz35_2 := zc BK136.out 2; have hcz35_3 := zc BK136.out 3; have hfz35_0 := blk_frozen BK136.out 0; have hfz35_1 := blk_frozen BK136.out 1; have hfz35_2 := blk_frozen BK136.out 2; have hfz35_3 := blk_frozen BK136.out 3)); try go_wp2_with (first | ((with_reducible refine gate_dst (N := 3) rfl ?_); refine zbox (N := 3) (cs := #[.bool true, .int .i64 a1_1, .int .i64 a1_2, .int .i64 a1_3]) (t := 62) ?_; intro gb136 hg w34 hbox hb; have n0_ := Aside0.mk (below_step (zw0 HB.out) hb); have BK136 := Aside0.mk (hbox); have GW136 := Aside0.mk (zg hg (below_size (zw0 HB.out))); have GE136 := GW136; clear HB; have HB := n0_; clear n0_; clear hb hbox hg) | (go_at_call 98; (with_reducible refine (word_IsKind.calls a0 false _ A3.out).mono ?_); rintro e w' ⟨rfl, ⟨nd, rfl⟩⟩; (try first | exact ⟨rfl, _, World.drewN_drewN _ _ _⟩ | exact ⟨rfl, _, Eq.trans (World.drewN_drewN _ _ _) (congrArg (World.drewN _) (Nat.add_assoc _ _ _))⟩); have hcz35_0 := zc BK136.out 0; have hcz35_1 := zc BK136.out 1; have hcz35_2 := zc BK136.out 2; have hcz35_3 := zc BK136.out 3; have hfz35_0 := blk_frozen BK136.out 0; have hfz35_1 := blk_frozen BK136.out 1; have hfz35_2 := blk_frozen BK136.out 2; have hfz35_3 := blk_frozen BK136.out 3)))
    go_ret
    exact ⟨ze, zw1 HB.out GE136.out⟩
   rw [if_pos c20] at H
   have c20b0 : (a1_1 == 0) = true := beq_iff_eq.mpr c20
   have c20b1 : (a1_1 != 0) = false := bne_eq_false_iff_eq.mpr c20
   clear c20
   replace H := Option.bind_eq_some_iff.mp H
   obtain ⟨t140, A210, H⟩ := H
   replace H : (if t140 = true then ((bytes_up.f a1_3 32).bind fun t141 => (if t141 = true then (if a1_2 > 0 then (some true) else (some (a1_3 == 0))) else (some false))) else (some false)) = some r := H
   have A21 := Aside0.mk A210
   clear A210
   by_cases c22 : t140 = true
   rotate_left
   ·replace c22 := Bool.eq_false_iff.mpr c22
    subst c22
    have H1 : (some false) = some r := by rw [if_neg (show ¬ (false = true) by decide)] at H; exact H
    clear H
    have H := H1
    clear H1
    obtain rfl := Option.some.inj H
    go_enter Try.func67, Try.ntmps67
    go_wp2_with (first | ((with_reducible refine gate_dst (N := 3) rfl ?_); refine zbox (N := 3) (cs := #[.bool true, .int .i64 a1_1, .int .i64 a1_2, .int .i64 a1_3]) (t := 62) ?_; intro gb136 hg w32 hbox hb; have n0_ := Aside0.mk (below_step (zw0 HB.out) hb); have BK136 := Aside0.mk (hbox); have GW136 := Aside0.mk (zg hg (below_size (zw0 HB.out))); have GE136 := GW136; clear HB; have HB := n0_; clear n0_; clear hb hbox hg) | (go_at_call 98; (with_reducible refine (word_IsKind.calls a0 false _ A3.out).mono ?_); rintro e w' ⟨rfl, ⟨nd, rfl⟩⟩; (try first | exact ⟨rfl, _, World.drewN_drewN _ _ _⟩ | exact ⟨rfl, _, Eq.trans (World.drewN_drewN _ _ _) (congrArg (World.drewN _) (Nat.add_assoc _ _ _))⟩); have hcz33_0 := zc BK136.out 0; have hcz33_1 := zc BK136.out 1; have hcz33_2 := zc BK136.out 2; have hcz33_3 := zc BK136.out 3; have hfz33_0 := blk_frozen BK136.out 0; have hfz33_1 := blk_frozen BK136.out 1; have hfz33_2 := blk_frozen BK136.out 2; have hfz33_3 := blk_frozen BK136.out 3) | (go_at_call 100; (with_reducible refine (bytes_up.calls a1_2 32 false _ A21.out).mono ?_); rintro e w' ⟨rfl, ⟨nd, rfl⟩⟩; (try first | exact ⟨rfl, _, World.drewN_drewN _ _ _⟩ | exact ⟨rfl, _, Eq.trans (World.drewN_drewN _ _ _) (congrArg (World.drewN _) (Nat.add_assoc _ _ _))⟩)))
    repeat (go_quiet (first | ((with_reducible refine gate_dst (N := 3) rfl ?_); refine zbox (N := 3) (cs := #[.bool true, .int .i64 a1_1, .int .i64 a1_2, .int .i64 a1_3]) (t := 62) ?_; intro gb136 hg w32 hbox hb; have n0_ := Aside0.mk (below_step (zw0 HB.out) hb); have BK136 := Aside0.mk (hbox); have GW136 := Aside0.mk (zg hg (below_size (zw0 HB.out))); have GE136 := GW136; clear HB; have HB := n0_; clear n0_; clear hb hbox hg) | (go_at_call 98; (with_reducible refine (word_IsKind.calls a0 false _ A3.out).mono ?_); rintro e w' ⟨rfl, ⟨nd, rfl⟩⟩; (try first | exact ⟨rfl, _, World.drewN_drewN _ _ _⟩ | exact ⟨rfl, _, Eq.trans (World.drewN_drewN _ _ _) (congrArg (World.drewN _) (Nat.add_assoc _ _ _))⟩); have hcz33_0 := zc BK136.out 0; have hcz33_1 := zc BK136.out 1; have hcz33_2 := zc BK136.out 2; have hcz33_3 := zc BK136.out 3; have hfz33_0 := blk_frozen BK136.out 0; have hfz33_1 := blk_frozen BK136.out 1; have hfz33_2 := blk_frozen BK136.out 2; have hfz33_3 := blk_frozen BK136.out 3) | (go_at_call 100; (with_reducible refine (bytes_up.calls a1_2 32 false _ A21.out).mono ?_); rintro e w' ⟨rfl, ⟨nd, rfl⟩⟩; (try first | exact ⟨rfl, _, World.drewN_drewN _ _ _⟩ | exact ⟨rfl, _, Eq.trans (World.drewN_drewN _ _ _) (congrArg (World.drewN _) (Nat.add_assoc _ _ _))⟩))); try go_wp2_with (first | ((with_reducible refine gate_dst (N := 3) rfl ?_); refine zbox (N := 3) (cs := #[.bool true, .int .i64 a1_1, .int .i64 a1_2, .int .i64 a1_3]) (t := 62) ?_; intro gb136 hg w32 hbox hb; have n0_ := Aside0.mk (below_step (zw0 HB.out) hb); have BK136 := Aside0.mk (hbox); have GW136 := Aside0.mk (zg hg (below_size (zw0 HB.out))); have GE136 := GW136; clear HB; have HB := n0_; clear n0_; clear hb hbox hg) | (go_at_call 98; (with_reducible refine (word_IsKind.calls a0 false _ A3.out).mono ?_); rintro e w' ⟨rfl, ⟨nd, rfl⟩⟩; (try first | exact ⟨rfl, _, World.drewN_drewN _ _ _⟩ | exact ⟨rfl, _, Eq.trans (World.drewN_drewN _ _ _) (congrArg (World.drewN _) (Nat.add_assoc _ _ _))⟩); have hcz33_0 := zc BK136.out 0; have hcz33_1 := zc BK136.out 1; have hcz33_2 := zc BK136.out 2; have hcz33_3 := zc BK136.out 3; have hfz33_0 := blk_frozen BK136.out 0; have hfz33_1 := blk_frozen BK136.out 1; have hfz33_2 := blk_frozen BK136.out 2; have hfz33_3 := blk_frozen BK136.out 3) | (go_at_call 100; (with_reducible refine (bytes_up.calls a1_2 32 false _ A21.out).mono ?_); rintro e w' ⟨rfl, ⟨nd, rfl⟩⟩; (try first | exact ⟨rfl, _, World.drewN_drewN _ _ _⟩ | exact ⟨rfl, _, Eq.trans (World.drewN_drewN _ _ _) (congrArg (World.drewN _) (Nat.add_assoc _ _ _))⟩))))
    go_ret
    exact ⟨ze, zw1 HB.out GE136.out⟩
   subst c22
   have H1 : ((bytes_up.f a1_3 32).bind fun t141 => (if t141 = true then (if a1_2 > 0 then (some true) else (some (a1_3 == 0))) else (some false))) = some r := by rw [if_pos rfl] at H; exact H
   clear H
   have H := H1
   clear H1
   replace H := Option.bind_eq_some_iff.mp H
   obtain ⟨t141, A230, H⟩ := H
   replace H : (if t141 = true then (if a1_2 > 0 then (some true) else (some (a1_3 == 0))) else (some false)) = some r := H
   have A23 := Aside0.mk A230
   clear A230
   by_cases c24 : t141 = true
   rotate_left
   ·replace c24 := Bool.eq_false_iff.mpr c24
    subst c24
    have H1 : (some false) = some r := by rw [if_neg (show ¬ (false = true) by decide)] at H; exact H
    clear H
    have H := H1
    clear H1
    obtain rfl := Option.some.inj H
    go_enter Try.func67, Try.ntmps67
    go_wp2_with (first | ((with_reducible refine gate_dst (N := 3) rfl ?_); refine zbox (N := 3) (cs := #[.bool true, .int .i64 a1_1, .int .i64 a1_2, .int .i64 a1_3]) (t := 62) ?_; intro gb136 hg w30 hbox hb; have n0_ := Aside0.mk (below_step (zw0 HB.out) hb); have BK136 := Aside0.mk (hbox); have GW136 := Aside0.mk (zg hg (below_size (zw0 HB.out))); have GE136 := GW136; clear HB; have HB := n0_; clear n0_; clear hb hbox hg) | (go_at_call 98; (with_reducible refine (word_IsKind.calls a0 false _ A3.out).mono ?_); rintro e w' ⟨rfl, ⟨nd, rfl⟩⟩; (try first | exact ⟨rfl, _, World.drewN_drewN _ _ _⟩ | exact ⟨rfl, _, Eq.trans (World.drewN_drewN _ _ _) (congrArg (World.drewN _) (Nat.add_assoc _ _ _))⟩); have hcz31_0 := zc BK136.out 0; have hcz31_1 := zc BK136.out 1; have hcz31_2 := zc BK136.out 2; have hcz31_3 := zc BK136.out 3; have hfz31_0 := blk_frozen BK136.out 0; have hfz31_1 := blk_frozen BK136.out 1; have hfz31_2 := blk_frozen BK136.out 2; have hfz31_3 := blk_frozen BK136.out 3) | (go_at_call 100; (with_reducible refine (bytes_up.calls a1_2 32 true _ A21.out).mono ?_); rintro e w' ⟨rfl, ⟨nd, rfl⟩⟩; (try first | exact ⟨rfl, _, World.drewN_drewN _ _ _⟩ | exact ⟨rfl, _, Eq.trans (World.drewN_drewN _ _ _) (congrArg (World.drewN _) (Nat.add_assoc _ _ _))⟩)) | (go_at_call 100; (with_reducible refine (bytes_up.calls a1_3 32 false _ A23.out).mono ?_); rintro e w' ⟨rfl, ⟨nd, rfl⟩⟩; (try first | exact ⟨rfl, _, World.drewN_drewN _ _ _⟩ | exact ⟨rfl, _, Eq.trans (World.drewN_drewN _ _ _) (congrArg (World.drewN _) (Nat.add_assoc _ _ _))⟩)))
    repeat (go_quiet (first | ((with_reducible refine gate_dst (N := 3) rfl ?_); refine zbox (N := 3) (cs := #[.bool true, .int .i64 a1_1, .int .i64 a1_2, .int .i64 a1_3]) (t := 62) ?_; intro gb136 hg w30 hbox hb; have n0_ := Aside0.mk (below_step (zw0 HB.out) hb); have BK136 := Aside0.mk (hbox); have GW136 := Aside0.mk (zg hg (below_size (zw0 HB.out))); have GE136 := GW136; clear HB; have HB := n0_; clear n0_; clear hb hbox hg) | (go_at_call 98; (with_reducible refine (word_IsKind.calls a0 false _ A3.out).mono ?_); rintro e w' ⟨rfl, ⟨nd, rfl⟩⟩; (try first | exact ⟨rfl, _, World.drewN_drewN _ _ _⟩ | exact ⟨rfl, _, Eq.trans (World.drewN_drewN _ _ _) (congrArg (World.drewN _) (Nat.add_assoc _ _ _))⟩); have hcz31_0 := zc BK136.out 0; have hcz31_1 := zc BK136.out 1; have hcz31_2 := zc BK136.out 2; have hcz31_3 := zc BK136.out 3; have hfz31_0 := blk_frozen BK136.out 0; have hfz31_1 := blk_frozen BK136.out 1; have hfz31_2 := blk_frozen BK136.out 2; have hfz31_3 := blk_frozen BK136.out 3) | (go_at_call 100; (with_reducible refine (bytes_up.calls a1_2 32 true _ A21.out).mono ?_); rintro e w' ⟨rfl, ⟨nd, rfl⟩⟩; (try first | exact ⟨rfl, _, World.drewN_drewN _ _ _⟩ | exact ⟨rfl, _, Eq.trans (World.drewN_drewN _ _ _) (congrArg (World.drewN _) (Nat.add_assoc _ _ _))⟩)) | (go_at_call 100; (with_reducible refine (bytes_up.calls a1_3 32 false _ A23.out).mono ?_); rintro e w' ⟨rfl, ⟨nd, rfl⟩⟩; (try first | exact ⟨rfl, _, World.drewN_drewN _ _ _⟩ | exact ⟨rfl, _, Eq.trans (World.drewN_drewN _ _ _) (congrArg (World.drewN _) (Nat.add_assoc _ _ _))⟩))); try go_wp2_with (first | ((with_reducible refine gate_dst (N := 3) rfl ?_); refine zbox (N := 3) (cs := #[.bool true, .int .i64 a1_1, .int .i64 a1_2, .int .i64 a1_3]) (t := 62) ?_; intro gb136 hg w30 hbox hb; have n0_ := Aside0.mk (below_step (zw0 HB.out) hb); have BK136 := Aside0.mk (hbox); have GW136 := Aside0.mk (zg hg (below_size (zw0 HB.out))); have GE136 := GW136; clear HB; have HB := n0_; clear n0_; clear hb hbox hg) | (go_at_call 98; (with_reducible refine (word_IsKind.calls a0 false _ A3.out).mono ?_); rintro e w' ⟨rfl, ⟨nd, rfl⟩⟩; (try first | exact ⟨rfl, _, World.drewN_drewN _ _ _⟩ | exact ⟨rfl, _, Eq.trans (World.drewN_drewN _ _ _) (congrArg (World.drewN _) (Nat.add_assoc _ _ _))⟩); have hcz31_0 := zc BK136.out 0; have hcz31_1 := zc BK136.out 1; have hcz31_2 := zc BK136.out 2; have hcz31_3 := zc BK136.out 3; have hfz31_0 := blk_frozen BK136.out 0; have hfz31_1 := blk_frozen BK136.out 1; have hfz31_2 := blk_frozen BK136.out 2; have hfz31_3 := blk_frozen BK136.out 3) | (go_at_call 100; (with_reducible refine (bytes_up.calls a1_2 32 true _ A21.out).mono ?_); rintro e w' ⟨rfl, ⟨nd, rfl⟩⟩; (try first | exact ⟨rfl, _, World.drewN_drewN _ _ _⟩ | exact ⟨rfl, _, Eq.trans (World.drewN_drewN _ _ _) (congrArg (World.drewN _) (Nat.add_assoc _ _ _))⟩)) | (go_at_call 100; (with_reducible refine (bytes_up.calls a1_3 32 false _ A23.out).mono ?_); rintro e w' ⟨rfl, ⟨nd, rfl⟩⟩; (try first | exact ⟨rfl, _, World.drewN_drewN _ _ _⟩ | exact ⟨rfl, _, Eq.trans (World.drewN_drewN _ _ _) (congrArg (World.drewN _) (Nat.add_assoc _ _ _))⟩))))
    go_ret
    exact ⟨ze, zw1 HB.out GE136.out⟩
   subst c24
   have H1 : (if a1_2 > 0 then (some true) else (some (a1_3 == 0))) = some r := by rw [if_pos rfl] at H; exact H
   clear H
   have H := H1
   clear H1
   by_cases c25 : a1_2 > 0
   ·rw [if_pos c25] at H
    have c25b0 : decide (0 < a1_2) = true := decide_eq_true c25
    clear c25
    obtain rfl := Option.some.inj H
    go_enter Try.func67, Try.ntmps67
    go_wp2_with (first | ((with_reducible refine gate_dst (N := 3) rfl ?_); refine zbox (N := 3) (cs := #[.bool true, .int .i64 a1_1, .int .i64 a1_2, .int .i64 a1_3]) (t := 62) ?_; intro gb136 hg w26 hbox hb; have n0_ := Aside0.mk (below_step (zw0 HB.out) hb); have BK136 := Aside0.mk (hbox); have GW136 := Aside0.mk (zg hg (below_size (zw0 HB.out))); have GE136 := GW136; clear HB; have HB := n0_; clear n0_; clear hb hbox hg) | (go_at_call 98; (with_reducible refine (word_IsKind.calls a0 false _ A3.out).mono ?_); rintro e w' ⟨rfl, ⟨nd, rfl⟩⟩; (try first | exact ⟨rfl, _, World.drewN_drewN _ _ _⟩ | exact ⟨rfl, _, Eq.trans (World.drewN_drewN _ _ _) (congrArg (World.drewN _) (Nat.add_assoc _ _ _))⟩); have hcz27_0 := zc BK136.out 0; have hcz27_1 := zc BK136.out 1; have hcz27_2 := zc BK136.out 2; have hcz27_3 := zc BK136.out 3; have hfz27_0 := blk_frozen BK136.out 0; have hfz27_1 := blk_frozen BK136.out 1; have hfz27_2 := blk_frozen BK136.out 2; have hfz27_3 := blk_frozen BK136.out 3) | (go_at_call 100; (with_reducible refine (bytes_up.calls a1_2 32 true _ A21.out).mono ?_); rintro e w' ⟨rfl, ⟨nd, rfl⟩⟩; (try first | exact ⟨rfl, _, World.drewN_drewN _ _ _⟩ | exact ⟨rfl, _, Eq.trans (World.drewN_drewN _ _ _) (congrArg (World.drewN _) (Nat.add_assoc _ _ _))⟩)) | (go_at_call 100; (with_reducible refine (bytes_up.calls a1_3 32 true _ A23.out).mono ?_); rintro e w' ⟨rfl, ⟨nd, rfl⟩⟩; (try first | exact ⟨rfl, _, World.drewN_drewN _ _ _⟩ | exact ⟨rfl, _, Eq.trans (World.drewN_drewN _ _ _) (congrArg (World.drewN _) (Nat.add_assoc _ _ _))⟩)))
    repeat (go_quiet (first | ((with_reducible refine gate_dst (N := 3) rfl ?_); refine zbox (N := 3) (cs := #[.bool true, .int .i64 a1_1, .int .i64 a1_2, .int .i64 a1_3]) (t := 62) ?_; intro gb136 hg w26 hbox hb; have n0_ := Aside0.mk (below_step (zw0 HB.out) hb); have BK136 := Aside0.mk (hbox); have GW136 := Aside0.mk (zg hg (below_size (zw0 HB.out))); have GE136 := GW136; clear HB; have HB := n0_; clear n0_; clear hb hbox hg) | (go_at_call 98; (with_reducible refine (word_IsKind.calls a0 false _ A3.out).mono ?_); rintro e w' ⟨rfl, ⟨nd, rfl⟩⟩; (try first | exact ⟨rfl, _, World.drewN_drewN _ _ _⟩ | exact ⟨rfl, _, Eq.trans (World.drewN_drewN _ _ _) (congrArg (World.drewN _) (Nat.add_assoc _ _ _))⟩); have hcz27_0 := zc BK136.out 0; have hcz27_1 := zc BK136.out 1; have hcz27_2 := zc BK136.out 2; have hcz27_3 := zc BK136.out 3; have hfz27_0 := blk_frozen BK136.out 0; have hfz27_1 := blk_frozen BK136.out 1; have hfz27_2 := blk_frozen BK136.out 2; have hfz27_3 := blk_frozen BK136.out 3) | (go_at_call 100; (with_reducible refine (bytes_up.calls a1_2 32 true _ A21.out).mono ?_); rintro e w' ⟨rfl, ⟨nd, rfl⟩⟩; (try first | exact ⟨rfl, _, World.drewN_drewN _ _ _⟩ | exact ⟨rfl, _, Eq.trans (World.drewN_drewN _ _ _) (congrArg (World.drewN _) (Nat.add_assoc _ _ _))⟩)) | (go_at_call 100; (with_reducible refine (bytes_up.calls a1_3 32 true _ A23.out).mono ?_); rintro e w' ⟨rfl, ⟨nd, rfl⟩⟩; (try first | exact ⟨rfl, _, World.drewN_drewN _ _ _⟩ | exact ⟨rfl, _, Eq.trans (World.drewN_drewN _ _ _) (congrArg (World.drewN _) (Nat.add_assoc _ _ _))⟩))); try go_wp2_with (first | ((with_reducible refine gate_dst (N := 3) rfl ?_); refine zbox (N := 3) (cs := #[.bool true, .int .i64 a1_1, .int .i64 a1_2, .int .i64 a1_3]) (t := 62) ?_; intro gb136 hg w26 hbox hb; have n0_ := Aside0.mk (below_step (zw0 HB.out) hb); have BK136 := Aside0.mk (hbox); have GW136 := Aside0.mk (zg hg (below_size (zw0 HB.out))); have GE136 := GW136; clear HB; have HB := n0_; clear n0_; clear hb hbox hg) | (go_at_call 98; (with_reducible refine (word_IsKind.calls a0 false _ A3.out).mono ?_); rintro e w' ⟨rfl, ⟨nd, rfl⟩⟩; (try first | exact ⟨rfl, _, World.drewN_drewN _ _ _⟩ | exact ⟨rfl, _, Eq.trans (World.drewN_drewN _ _ _) (congrArg (World.drewN _) (Nat.add_assoc _ _ _))⟩); have hcz27_0 := zc BK136.out 0; have hcz27_1 := zc BK136.out 1; have hcz27_2 := zc BK136.out 2; have hcz27_3 := zc BK136.out 3; have hfz27_0 := blk_frozen BK136.out 0; have hfz27_1 := blk_frozen BK136.out 1; have hfz27_2 := blk_frozen BK136.out 2; have hfz27_3 := blk_frozen BK136.out 3) | (go_at_call 100; (with_reducible refine (bytes_up.calls a1_2 32 true _ A21.out).mono ?_); rintro e w' ⟨rfl, ⟨nd, rfl⟩⟩; (try first | exact ⟨rfl, _, World.drewN_drewN _ _ _⟩ | exact ⟨rfl, _, Eq.trans (World.drewN_drewN _ _ _) (congrArg (World.drewN _) (Nat.add_assoc _ _ _))⟩)) | (go_at_call 100; (with_reducible refine (bytes_up.calls a1_3 32 true _ A23.out).mono ?_); rintro e w' ⟨rfl, ⟨nd, rfl⟩⟩; (try first | exact ⟨rfl, _, World.drewN_drewN _ _ _⟩ | exact ⟨rfl, _, Eq.trans (World.drewN_drewN _ _ _) (congrArg (World.drewN _) (Nat.add_assoc _ _ _))⟩))))
    go_ret
    exact ⟨ze, zw1 HB.out GE136.out⟩
   rw [if_neg c25] at H
   have c25b0 : decide (0 < a1_2) = false := decide_eq_false c25
   clear c25
   obtain rfl := Option.some.inj H
   go_enter Try.func67, Try.ntmps67
   go_wp2_with (first | ((with_reducible refine gate_dst (N := 3) rfl ?_); refine zbox (N := 3) (cs := #[.bool true, .int .i64 a1_1, .int .i64 a1_2, .int .i64 a1_3]) (t := 62) ?_; intro gb136 hg w28 hbox hb; have n0_ := Aside0.mk (below_step (zw0 HB.out) hb); have BK136 := Aside0.mk (hbox); have GW136 := Aside0.mk (zg hg (below_size (zw0 HB.out))); have GE136 := GW136; clear HB; have HB := n0_; clear n0_; clear hb hbox hg) | (go_at_call 98; (with_reducible refine (word_IsKind.calls a0 false _ A3.out).mono ?_); rintro e w' ⟨rfl, ⟨nd, rfl⟩⟩; (try first | exact ⟨rfl, _, World.drewN_drewN _ _ _⟩ | exact ⟨rfl, _, Eq.trans (World.drewN_drewN _ _ _) (congrArg (World.drewN _) (Nat.add_assoc _ _ _))⟩); have hcz29_0 := zc BK136.out 0; have hcz29_1 := zc BK136.out 1; have hcz29_2 := zc BK136.out 2; have hcz29_3 := zc BK136.out 3; have hfz29_0 := blk_frozen BK136.out 0; have hfz29_1 := blk_frozen BK136.out 1; have hfz29_2 := blk_frozen BK136.out 2; have hfz29_3 := blk_frozen BK136.out 3) | (go_at_call 100; (with_reducible refine (bytes_up.calls a1_2 32 true _ A21.out).mono ?_); rintro e w' ⟨rfl, ⟨nd, rfl⟩⟩; (try first | exact ⟨rfl, _, World.drewN_drewN _ _ _⟩ | exact ⟨rfl, _, Eq.trans (World.drewN_drewN _ _ _) (congrArg (World.drewN _) (Nat.add_assoc _ _ _))⟩)) | (go_at_call 100; (with_reducible refine (bytes_up.calls a1_3 32 true _ A23.out).mono ?_); rintro e w' ⟨rfl, ⟨nd, rfl⟩⟩; (try first | exact ⟨rfl, _, World.drewN_drewN _ _ _⟩ | exact ⟨rfl, _, Eq.trans (World.drewN_drewN _ _ _) (congrArg (World.drewN _) (Nat.add_assoc _ _ _))⟩)))
   repeat (go_quiet (first | ((with_reducible refine gate_dst (N := 3) rfl ?_); refine zbox (N := 3) (cs := #[.bool true, .int .i64 a1_1, .int .i64 a1_2, .int .i64 a1_3]) (t := 62) ?_; intro gb136 hg w28 hbox hb; have n0_ := Aside0.mk (below_step (zw0 HB.out) hb); have BK136 := Aside0.mk (hbox); have GW136 := Aside0.mk (zg hg (below_size (zw0 HB.out))); have GE136 := GW136; clear HB; have HB := n0_; clear n0_; clear hb hbox hg) | (go_at_call 98; (with_reducible refine (word_IsKind.calls a0 false _ A3.out).mono ?_); rintro e w' ⟨rfl, ⟨nd, rfl⟩⟩; (try first | exact ⟨rfl, _, World.drewN_drewN _ _ _⟩ | exact ⟨rfl, _, Eq.trans (World.drewN_drewN _ _ _) (congrArg (World.drewN _) (Nat.add_assoc _ _ _))⟩); have hcz29_0 := zc BK136.out 0; have hcz29_1 := zc BK136.out 1; have hcz29_2 := zc BK136.out 2; have hcz29_3 := zc BK136.out 3; have hfz29_0 := blk_frozen BK136.out 0; have hfz29_1 := blk_frozen BK136.out 1; have hfz29_2 := blk_frozen BK136.out 2; have hfz29_3 := blk_frozen BK136.out 3) | (go_at_call 100; (with_reducible refine (bytes_up.calls a1_2 32 true _ A21.out).mono ?_); rintro e w' ⟨rfl, ⟨nd, rfl⟩⟩; (try first | exact ⟨rfl, _, World.drewN_drewN _ _ _⟩ | exact ⟨rfl, _, Eq.trans (World.drewN_drewN _ _ _) (congrArg (World.drewN _) (Nat.add_assoc _ _ _))⟩)) | (go_at_call 100; (with_reducible refine (bytes_up.calls a1_3 32 true _ A23.out).mono ?_); rintro e w' ⟨rfl, ⟨nd, rfl⟩⟩; (try first | exact ⟨rfl, _, World.drewN_drewN _ _ _⟩ | exact ⟨rfl, _, Eq.trans (World.drewN_drewN _ _ _) (congrArg (World.drewN _) (Nat.add_assoc _ _ _))⟩))); try go_wp2_with (first | ((with_reducible refine gate_dst (N := 3) rfl ?_); refine zbox (N := 3) (cs := #[.bool true, .int .i64 a1_1, .int .i64 a1_2, .int .i64 a1_3]) (t := 62) ?_; intro gb136 hg w28 hbox hb; have n0_ := Aside0.mk (below_step (zw0 HB.out) hb); have BK136 := Aside0.mk (hbox); have GW136 := Aside0.mk (zg hg (below_size (zw0 HB.out))); have GE136 := GW136; clear HB; have HB := n0_; clear n0_; clear hb hbox hg) | (go_at_call 98; (with_reducible refine (word_IsKind.calls a0 false _ A3.out).mono ?_); rintro e w' ⟨rfl, ⟨nd, rfl⟩⟩; (try first | exact ⟨rfl, _, World.drewN_drewN _ _ _⟩ | exact ⟨rfl, _, Eq.trans (World.drewN_drewN _ _ _) (congrArg (World.drewN _) (Nat.add_assoc _ _ _))⟩); have hcz29_0 := zc BK136.out 0; have hcz29_1 := zc BK136.out 1; have hcz29_2 := zc BK136.out 2; have hcz29_3 := zc BK136.out 3; have hfz29_0 := blk_frozen BK136.out 0; have hfz29_1 := blk_frozen BK136.out 1; have hfz29_2 := blk_frozen BK136.out 2; have hfz29_3 := blk_frozen BK136.out 3) | (go_at_call 100; (with_reducible refine (bytes_up.calls a1_2 32 true _ A21.out).mono ?_); rintro e w' ⟨rfl, ⟨nd, rfl⟩⟩; (try first | exact ⟨rfl, _, World.drewN_drewN _ _ _⟩ | exact ⟨rfl, _, Eq.trans (World.drewN_drewN _ _ _) (congrArg (World.drewN _) (Nat.add_assoc _ _ _))⟩)) | (go_at_call 100; (with_reducible refine (bytes_up.calls a1_3 32 true _ A23.out).mono ?_); rintro e w' ⟨rfl, ⟨nd, rfl⟩⟩; (try first | exact ⟨rfl, _, World.drewN_drewN _ _ _⟩ | exact ⟨rfl, _, Eq.trans (World.drewN_drewN _ _ _) (congrArg (World.drewN _) (Nat.add_assoc _ _ _))⟩))))
   go_ret
   exact ⟨ze, zw1 HB.out GE136.out⟩
  ·rw [if_neg c18] at H
   have c18b0 : (a0 == 7) = false := beq_eq_false_iff_ne.mpr c18
   have c18b1 : (a0 != 7) = true := bne_iff_ne.mpr c18
   obtain rfl := Option.some.inj H
   go_enter Try.func67, Try.ntmps67
   go_wp2_with (first | ((with_reducible refine gate_dst (N := 3) rfl ?_); refine zbox (N := 3) (cs := #[.bool a1_0, .int .i64 a1_1, .int .i64 a1_2, .int .i64 a1_3]) (t := 62) ?_; intro gb136 hg w38 hbox hb; have n0_ := Aside0.mk (below_step (zw0 HB.out) hb); have BK136 := Aside0.mk (hbox); have GW136 := Aside0.mk (zg hg (below_size (zw0 HB.out))); have GE136 := GW136; clear HB; have HB := n0_; clear n0_; clear hb hbox hg) | (go_at_call 98; (with_reducible refine (word_IsKind.calls a0 false _ A3.out).mono ?_); rintro e w' ⟨rfl, ⟨nd, rfl⟩⟩; (try first | exact ⟨rfl, _, World.drewN_drewN _ _ _⟩ | exact ⟨rfl, _, Eq.trans (World.drewN_drewN _ _ _) (congrArg (World.drewN _) (Nat.add_assoc _ _ _))⟩)))
   repeat (go_quiet (first | ((with_reducible refine gate_dst (N := 3) rfl ?_); refine zbox (N := 3) (cs := #[.bool a1_0, .int .i64 a1_1, .int .i64 a1_2, .int .i64 a1_3]) (t := 62) ?_; intro gb136 hg w38 hbox hb; have n0_ := Aside0.mk (below_step (zw0 HB.out) hb); have BK136 := Aside0.mk (hbox); have GW136 := Aside0.mk (zg hg (below_size (zw0 HB.out))); have GE136 := GW136; clear HB; have HB := n0_; clear n0_; clear hb hbox hg) | (go_at_call 98; (with_reducible refine (word_IsKind.calls a0 false _ A3.out).mono ?_); rintro e w' ⟨rfl, ⟨nd, rfl⟩⟩; (try first | exact ⟨rfl, _, World.drewN_drewN _ _ _⟩ | exact ⟨rfl, _, Eq.trans (World.drewN_drewN _ _ _) (congrArg (World.drewN _) (Nat.add_assoc _ _ _))⟩))); try go_wp2_with (first | ((with_reducible refine gate_dst (N := 3) rfl ?_); refine zbox (N := 3) (cs := #[.bool a1_0, .int .i64 a1_1, .int .i64 a1_2, .int .i64 a1_3]) (t := 62) ?_; intro gb136 hg w38 hbox hb; have n0_ := Aside0.mk (below_step (zw0 HB.out) hb); have BK136 := Aside0.mk (hbox); have GW136 := Aside0.mk (zg hg (below_size (zw0 HB.out))); have GE136 := GW136; clear HB; have HB := n0_; clear n0_; clear hb hbox hg) | (go_at_call 98; (with_reducible refine (word_IsKind.calls a0 false _ A3.out).mono ?_); rintro e w' ⟨rfl, ⟨nd, rfl⟩⟩; (try first | exact ⟨rfl, _, World.drewN_drewN _ _ _⟩ | exact ⟨rfl, _, Eq.trans (World.drewN_drewN _ _ _) (congrArg (World.drewN _) (Nat.add_assoc _ _ _))⟩))))
   go_ret
   exact ⟨ze, zw1 HB.out GE136.out⟩

end Go.Proofs.Ytjoplkillkhiaaa.Q2
