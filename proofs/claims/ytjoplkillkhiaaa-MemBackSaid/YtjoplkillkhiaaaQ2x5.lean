-- Written by this session's own edition of the print.
import Derived.Test.YtjoplkillkhiaaaQ2x0
import Derived.Test.YtjoplkillkhiaaaQ2x4
import Derived.Test.YtjoplkillkhiaaaYSq
import Derived.Test.YtjoplkillkhiaaaYSq2
import Derived.Test.YtjoplkillkhiaaaYSq3
namespace Go.Proofs.Ytjoplkillkhiaaa.Q2
open Go.RowKit Go.Proofs.Ytjoplkillkhiaaa.Fn Go.Proofs.YtjoplkillkhiaaaW.PrintWords Go.Proofs.YtjoplkillkhiaaaW.PrintLast Go.Proofs.YtjoplkillkhiaaaW.PrintMore
attribute [local go_sem] max2_int min2_int max_two min_two max_three min_three max_four min_four   -- for this text's walks alone
set_option linter.unusedVariables false
set_option linter.unusedSimpArgs false

/-! mem_there -/
def mem_there.f (l0 : List (S76)) (a1_0 : Bool) (a1_1 : Int) (a1_2 : Int) (a1_3 : Int) : Option (Bool) := (bytes_May.f 7 a1_0 a1_1 a1_2 a1_3).bind fun t143 => (if t143 = true then (some (decide (a1_2 < (l0.length : Int)))) else (some false))
set_option maxHeartbeats 8000000 in
set_option maxRecDepth 100000 in
theorem mem_there.calls (A0 : Option Addr) (c0 : Nat) (l0 : List (S76)) (a1_0 : Bool) (a1_1 : Int) (a1_2 : Int) (a1_3 : Int) (r : Bool) (w : World) (hr0 : Kd.C k76 w A0 l0.length l0) (hc0 : l0.length ≤ c0) (h : mem_there.f l0 a1_0 a1_1 a1_2 a1_3 = some r) :
  Calls Try.prog 78 #[.slice A0 l0.length c0, .agg #[.bool a1_0, .int .i64 a1_1, .int .i64 a1_2, .int .i64 a1_3]] w fun e w' => e = .returned (.bool r) ∧ Below w.heap.size w w' := by
 have hu62 := Try.underlying62
 have HR0 := Aside0.mk hr0
 have HC0 := Aside0.mk hc0
 clear hr0 hc0
 have HB := Aside0.mk (Below.refl w.heap.size w)
 have H : ((bytes_May.f 7 a1_0 a1_1 a1_2 a1_3).bind fun t143 => (if t143 = true then (some (decide (a1_2 < (l0.length : Int)))) else (some false))) = some r := h
 clear h
 replace H := Option.bind_eq_some_iff.mp H
 obtain ⟨t143, A30, H⟩ := H
 replace H : (if t143 = true then (some (decide (a1_2 < (l0.length : Int)))) else (some false)) = some r := H
 have A3 := Aside0.mk A30
 clear A30
 by_cases c4 : t143 = true
 ·subst c4
  have H1 : (some (decide (a1_2 < (l0.length : Int)))) = some r := by rw [if_pos rfl] at H; exact H
  clear H
  have H := H1
  clear H1
  obtain rfl := Option.some.inj H
  go_enter Try.func78, Try.ntmps78
  go_wp2_with (first | ((with_reducible refine gate_dst (N := 3) rfl ?_); (try (refine gate_guard (by rfl) ?_; dsimp only)); refine zbox (N := 3) (cs := #[.bool a1_0, .int .i64 a1_1, .int .i64 a1_2, .int .i64 a1_3]) (t := 62) ?_; intro gb142 hg w5 hbox hb; have n0_ := Aside0.mk (below_step (zw0 HB.out) hb); have BK142 := Aside0.mk (hbox); have GW142 := Aside0.mk (zg hg (below_size (zw0 HB.out))); have GE142 := GW142; clear HB; have HB := n0_; clear n0_; clear hb hbox hg; have hcz6_0 := zc BK142.out 0; have hcz6_1 := zc BK142.out 1; have hcz6_2 := zc BK142.out 2; have hcz6_3 := zc BK142.out 3; have hfz6_0 := blk_frozen BK142.out 0; have hfz6_1 := blk_frozen BK142.out 1; have hfz6_2 := blk_frozen BK142.out 2; have hfz6_3 := blk_frozen BK142.out 3) | ((with_reducible refine gate_callee (f := 67) rfl ?_); refine zgo (some 6) Try.func67 #[.int .i64 7, .agg #[.bool a1_0, .int .i64 a1_1, .int .i64 a1_2, .int .i64 a1_3]] ?_; (with_reducible refine (bytes_May.calls 7 a1_0 a1_1 a1_2 a1_3 true _ A3.out).mono ?_); rintro e w7 ⟨rfl, hb⟩; refine ⟨_, rfl, ?_⟩; have n0_ := Aside0.mk (zbb BK142.out hb); have n1_ := Aside0.mk (below_step (zw1 HB.out GE142.out) hb); clear BK142 HB; have BK142 := n0_; have HB := n1_; clear n0_ n1_; (try clear hb); (try clear hb2); (try clear hk); (try clear hi); have hcz8_0 := zc BK142.out 0; have hcz8_1 := zc BK142.out 1; have hcz8_2 := zc BK142.out 2; have hcz8_3 := zc BK142.out 3; have hfz8_0 := blk_frozen BK142.out 0; have hfz8_1 := blk_frozen BK142.out 1; have hfz8_2 := blk_frozen BK142.out 2; have hfz8_3 := blk_frozen BK142.out 3))
  go_ret
  exact ⟨ze, zw1 HB.out GE142.out⟩
 ·replace c4 := Bool.eq_false_iff.mpr c4
  subst c4
  have H1 : (some false) = some r := by rw [if_neg (show ¬ (false = true) by decide)] at H; exact H
  clear H
  have H := H1
  clear H1
  obtain rfl := Option.some.inj H
  go_enter Try.func78, Try.ntmps78
  go_wp2_with (first | ((with_reducible refine gate_dst (N := 3) rfl ?_); (try (refine gate_guard (by rfl) ?_; dsimp only)); refine zbox (N := 3) (cs := #[.bool a1_0, .int .i64 a1_1, .int .i64 a1_2, .int .i64 a1_3]) (t := 62) ?_; intro gb142 hg w9 hbox hb; have n0_ := Aside0.mk (below_step (zw0 HB.out) hb); have BK142 := Aside0.mk (hbox); have GW142 := Aside0.mk (zg hg (below_size (zw0 HB.out))); have GE142 := GW142; clear HB; have HB := n0_; clear n0_; clear hb hbox hg; have hcz10_0 := zc BK142.out 0; have hcz10_1 := zc BK142.out 1; have hcz10_2 := zc BK142.out 2; have hcz10_3 := zc BK142.out 3; have hfz10_0 := blk_frozen BK142.out 0; have hfz10_1 := blk_frozen BK142.out 1; have hfz10_2 := blk_frozen BK142.out 2; have hfz10_3 := blk_frozen BK142.out 3) | ((with_reducible refine gate_callee (f := 67) rfl ?_); refine zgo (some 6) Try.func67 #[.int .i64 7, .agg #[.bool a1_0, .int .i64 a1_1, .int .i64 a1_2, .int .i64 a1_3]] ?_; (with_reducible refine (bytes_May.calls 7 a1_0 a1_1 a1_2 a1_3 false _ A3.out).mono ?_); rintro e w11 ⟨rfl, hb⟩; refine ⟨_, rfl, ?_⟩; have n0_ := Aside0.mk (zbb BK142.out hb); have n1_ := Aside0.mk (below_step (zw1 HB.out GE142.out) hb); clear BK142 HB; have BK142 := n0_; have HB := n1_; clear n0_ n1_; (try clear hb); (try clear hb2); (try clear hk); (try clear hi)))
  go_ret
  exact ⟨ze, zw1 HB.out GE142.out⟩

/-! word_May -/
def word_May.f (a0_0 : Bool) (a0_1 : Int) : Option (Bool) := if a0_1 = 2 then (some true) else (some (a0_1 == 4))
set_option maxHeartbeats 8000000 in
set_option maxRecDepth 100000 in
theorem word_May.calls (a0_0 : Bool) (a0_1 : Int) (r : Bool) (w : World) (h : word_May.f a0_0 a0_1 = some r) :
  Calls Try.prog 84 #[.agg #[.bool a0_0, .int .i64 a0_1]] w fun e w' => e = .returned (.bool r) ∧ Below w.heap.size w w' := by
 have hu29 := Try.underlying29
 have HB := Aside0.mk (Below.refl w.heap.size w)
 have H : (if a0_1 = 2 then (some true) else (some (a0_1 == 4))) = some r := h
 clear h
 by_cases c2 : a0_1 = 2
 ·rw [if_pos c2] at H
  have c2b0 : (a0_1 == 2) = true := beq_iff_eq.mpr c2
  have c2b1 : (a0_1 != 2) = false := bne_eq_false_iff_eq.mpr c2
  clear c2
  obtain rfl := Option.some.inj H
  go_enter Try.func84, Try.ntmps84
  go_wp2_with (first | ((with_reducible refine gate_dst (N := 1) rfl ?_); refine zbox (N := 1) (cs := #[.bool a0_0, .int .i64 a0_1]) (t := 29) ?_; intro gb144 hg w3 hbox hb; have n0_ := Aside0.mk (below_step (zw0 HB.out) hb); have BK144 := Aside0.mk (hbox); have GW144 := Aside0.mk (zg hg (below_size (zw0 HB.out))); have GE144 := GW144; clear HB; have HB := n0_; clear n0_; clear hb hbox hg; have hcz4_0 := zc BK144.out 0; have hcz4_1 := zc BK144.out 1; have hfz4_0 := blk_frozen BK144.out 0; have hfz4_1 := blk_frozen BK144.out 1))
  go_ret
  exact ⟨ze, zw1 HB.out GE144.out⟩
 ·rw [if_neg c2] at H
  have c2b0 : (a0_1 == 2) = false := beq_eq_false_iff_ne.mpr c2
  have c2b1 : (a0_1 != 2) = true := bne_iff_ne.mpr c2
  obtain rfl := Option.some.inj H
  go_enter Try.func84, Try.ntmps84
  go_wp2_with (first | ((with_reducible refine gate_dst (N := 1) rfl ?_); refine zbox (N := 1) (cs := #[.bool a0_0, .int .i64 a0_1]) (t := 29) ?_; intro gb144 hg w5 hbox hb; have n0_ := Aside0.mk (below_step (zw0 HB.out) hb); have BK144 := Aside0.mk (hbox); have GW144 := Aside0.mk (zg hg (below_size (zw0 HB.out))); have GE144 := GW144; clear HB; have HB := n0_; clear n0_; clear hb hbox hg; have hcz6_0 := zc BK144.out 0; have hcz6_1 := zc BK144.out 1; have hfz6_0 := blk_frozen BK144.out 0; have hfz6_1 := blk_frozen BK144.out 1))
  go_ret
  exact ⟨ze, zw1 HB.out GE144.out⟩

/-! word_IsScalar -/
def word_IsScalar.f (a0 : Int) : Option (Bool) := if a0 ≥ 1 then (some (decide (a0 ≤ 7))) else (some false)
set_option maxHeartbeats 8000000 in
set_option maxRecDepth 100000 in
theorem word_IsScalar.calls (a0 : Int) (r : Bool) (w : World) (h : word_IsScalar.f a0 = some r) :
  Calls Try.prog 97 #[.int .i64 a0] w fun e w' => e = .returned (.bool r) ∧ Drawn0 w w' := by
 have H : (if a0 ≥ 1 then (some (decide (a0 ≤ 7))) else (some false)) = some r := h
 clear h
 by_cases c2 : a0 ≥ 1
 ·rw [if_pos c2] at H
  have c2b0 : decide (1 ≤ a0) = true := decide_eq_true c2
  clear c2
  obtain rfl := Option.some.inj H
  go_enter Try.func97, Try.ntmps97
  go_wp2
  go_ret
  exact ⟨zr, by repeat (first | exact Drawn0.refl _ | apply Drawn0.step)⟩
 ·rw [if_neg c2] at H
  have c2b0 : decide (1 ≤ a0) = false := decide_eq_false c2
  clear c2
  obtain rfl := Option.some.inj H
  go_enter Try.func97, Try.ntmps97
  go_wp2
  go_ret
  exact ⟨zr, by repeat (first | exact Drawn0.refl _ | apply Drawn0.step)⟩

/-! mem_asked -/
def mem_asked.f (a0_0 : Bool) (a0_1 : Int) (l1 : List (S76)) (a2_0 : Bool) (a2_1 : Int) (a2_2 : Int) (a2_3 : Int) (a3 : Int) : Option (Bool) := (word_May.f a0_0 a0_1).bind fun t147 => (if t147 = true then ((mem_May.f l1).bind fun t148 => (if t148 = true then ((mem_there.f l1 a2_0 a2_1 a2_2 a2_3).bind fun t149 => (if t149 = true then ((word_IsScalar.f a3).bind fun t150 => (some t150)) else (some false))) else (some false))) else (some false))
set_option maxHeartbeats 8000000 in
set_option maxRecDepth 100000 in
theorem mem_asked.calls (a0_0 : Bool) (a0_1 : Int) (A1 : Option Addr) (c1 : Nat) (l1 : List (S76)) (a2_0 : Bool) (a2_1 : Int) (a2_2 : Int) (a2_3 : Int) (a3 : Int) (r : Bool) (w : World) (hr1 : Kd.C k76 w A1 l1.length l1) (hc1 : l1.length ≤ c1) (h : mem_asked.f a0_0 a0_1 l1 a2_0 a2_1 a2_2 a2_3 a3 = some r) :
  Calls Try.prog 66 #[.agg #[.bool a0_0, .int .i64 a0_1], .slice A1 l1.length c1, .agg #[.bool a2_0, .int .i64 a2_1, .int .i64 a2_2, .int .i64 a2_3], .int .i64 a3] w fun e w' => e = .returned (.bool r) ∧ Below w.heap.size w w' := by
 have hu29 := Try.underlying29
 have hu62 := Try.underlying62
 have HR1 := Aside0.mk hr1
 have HC1 := Aside0.mk hc1
 clear hr1 hc1
 have HB := Aside0.mk (Below.refl w.heap.size w)
 have H : ((word_May.f a0_0 a0_1).bind fun t147 => (if t147 = true then ((mem_May.f l1).bind fun t148 => (if t148 = true then ((mem_there.f l1 a2_0 a2_1 a2_2 a2_3).bind fun t149 => (if t149 = true then ((word_IsScalar.f a3).bind fun t150 => (some t150)) else (some false))) else (some false))) else (some false))) = some r := h
 clear h
 replace H := Option.bind_eq_some_iff.mp H
 obtain ⟨t147, A50, H⟩ := H
 replace H : (if t147 = true then ((mem_May.f l1).bind fun t148 => (if t148 = true then ((mem_there.f l1 a2_0 a2_1 a2_2 a2_3).bind fun t149 => (if t149 = true then ((word_IsScalar.f a3).bind fun t150 => (some t150)) else (some false))) else (some false))) else (some false)) = some r := H
 have A5 := Aside0.mk A50
 clear A50
 by_cases c6 : t147 = true
 ·subst c6
  have H1 : ((mem_May.f l1).bind fun t148 => (if t148 = true then ((mem_there.f l1 a2_0 a2_1 a2_2 a2_3).bind fun t149 => (if t149 = true then ((word_IsScalar.f a3).bind fun t150 => (some t150)) else (some false))) else (some false))) = some r := by rw [if_pos rfl] at H; exact H
  clear H
  have H := H1
  clear H1
  replace H := Option.bind_eq_some_iff.mp H
  obtain ⟨t148, A70, H⟩ := H
  replace H : (if t148 = true then ((mem_there.f l1 a2_0 a2_1 a2_2 a2_3).bind fun t149 => (if t149 = true then ((word_IsScalar.f a3).bind fun t150 => (some t150)) else (some false))) else (some false)) = some r := H
  have A7 := Aside0.mk A70
  clear A70
  by_cases c8 : t148 = true
  rotate_left
  ·replace c8 := Bool.eq_false_iff.mpr c8
   subst c8
   have H1 : (some false) = some r := by rw [if_neg (show ¬ (false = true) by decide)] at H; exact H
   clear H
   have H := H1
   clear H1
   obtain rfl := Option.some.inj H
   go_enter Try.func66, Try.ntmps66
   go_wp2_with (first | ((with_reducible refine gate_dst (N := 4) rfl ?_); refine zbox (N := 4) (cs := #[.bool a0_0, .int .i64 a0_1]) (t := 29) ?_; intro gb145 hg w28 hbox hb; have n0_ := Aside0.mk (below_step (zw0 HB.out) hb); have BK145 := Aside0.mk (hbox); have GW145 := Aside0.mk (zg hg (below_size (zw0 HB.out))); have GE145 := GW145; clear HB; have HB := n0_; clear n0_; clear hb hbox hg) | ((with_reducible refine gate_dst (N := 6) rfl ?_); refine zbox (N := 6) (cs := #[.bool a2_0, .int .i64 a2_1, .int .i64 a2_2, .int .i64 a2_3]) (t := 62) ?_; intro gb146 hg w29 hbox hb; have n0_ := Aside0.mk (zbb BK145.out hb); have n1_ := Aside0.mk (below_step (zw1 HB.out GE145.out) hb); have BK146 := Aside0.mk (hbox); have GW146 := Aside0.mk (zg hg (below_size (zw1 HB.out GE145.out))); have GE146 := GW146; have NB145_146 := Aside0.mk (zlt hg BK145.out); have NB146_145 := Aside0.mk (zgt hg BK145.out); clear BK145 HB; have BK145 := n0_; have HB := n1_; clear n0_ n1_; clear hb hbox hg; have hnb30 := NB145_146.out; have hnc30 := NB146_145.out; have hcz31_0 := zc BK145.out 0; have hcz31_1 := zc BK145.out 1; have hfz31_0 := blk_frozen BK145.out 0; have hfz31_1 := blk_frozen BK145.out 1) | ((with_reducible refine gate_callee (f := 84) rfl ?_); refine zgo (some 10) Try.func84 #[.agg #[.bool a0_0, .int .i64 a0_1]] ?_; (with_reducible refine (word_May.calls a0_0 a0_1 true _ A5.out).mono ?_); rintro e w32 ⟨rfl, hb⟩; refine ⟨_, rfl, ?_⟩; have n0_ := Aside0.mk (zbb BK145.out hb); have n1_ := Aside0.mk (zbb BK146.out hb); have n2_ := Aside0.mk (below_step (zw2 HB.out GE145.out GE146.out) hb); clear BK145 BK146 HB; have BK145 := n0_; have BK146 := n1_; have HB := n2_; clear n0_ n1_ n2_; (try clear hb); (try clear hb2); (try clear hk); (try clear hi)) | (go_at_call 77; (with_reducible refine (mem_May.calls _ _ l1 false _ ?side1 ?side2 A7.out).mono ?_); (case side1 => repeat (first | exact (Kd.C_below HR1.out HB.out) | (with_reducible refine Kd.C_alloc ?_ _) | (with_reducible refine Kd.C_drewN ?_ _) | (with_reducible refine Kd.C_drew ?_))); (case side2 => exact HC1.out); rintro e w33 ⟨rfl, hb⟩; have n0_ := Aside0.mk (zbb BK145.out hb); have n1_ := Aside0.mk (zbb BK146.out hb); have n2_ := Aside0.mk (below_step (zw2 HB.out GE145.out GE146.out) hb); clear BK145 BK146 HB; have BK145 := n0_; have BK146 := n1_; have HB := n2_; clear n0_ n1_ n2_; (try clear hb); (try clear hb2); (try clear hk); (try clear hi)))
   go_ret
   exact ⟨ze, zw2 HB.out GE145.out GE146.out⟩
  subst c8
  have H1 : ((mem_there.f l1 a2_0 a2_1 a2_2 a2_3).bind fun t149 => (if t149 = true then ((word_IsScalar.f a3).bind fun t150 => (some t150)) else (some false))) = some r := by rw [if_pos rfl] at H; exact H
  clear H
  have H := H1
  clear H1
  replace H := Option.bind_eq_some_iff.mp H
  obtain ⟨t149, A90, H⟩ := H
  replace H : (if t149 = true then ((word_IsScalar.f a3).bind fun t150 => (some t150)) else (some false)) = some r := H
  have A9 := Aside0.mk A90
  clear A90
  by_cases c10 : t149 = true
  rotate_left
  ·replace c10 := Bool.eq_false_iff.mpr c10
   subst c10
   have H1 : (some false) = some r := by rw [if_neg (show ¬ (false = true) by decide)] at H; exact H
   clear H
   have H := H1
   clear H1
   obtain rfl := Option.some.inj H
   go_enter Try.func66, Try.ntmps66
   go_wp2_with (first | ((with_reducible refine gate_dst (N := 4) rfl ?_); refine zbox (N := 4) (cs := #[.bool a0_0, .int .i64 a0_1]) (t := 29) ?_; intro gb145 hg w20 hbox hb; have n0_ := Aside0.mk (below_step (zw0 HB.out) hb); have BK145 := Aside0.mk (hbox); have GW145 := Aside0.mk (zg hg (below_size (zw0 HB.out))); have GE145 := GW145; clear HB; have HB := n0_; clear n0_; clear hb hbox hg) | ((with_reducible refine gate_dst (N := 6) rfl ?_); refine zbox (N := 6) (cs := #[.bool a2_0, .int .i64 a2_1, .int .i64 a2_2, .int .i64 a2_3]) (t := 62) ?_; intro gb146 hg w21 hbox hb; have n0_ := Aside0.mk (zbb BK145.out hb); have n1_ := Aside0.mk (below_step (zw1 HB.out GE145.out) hb); have BK146 := Aside0.mk (hbox); have GW146 := Aside0.mk (zg hg (below_size (zw1 HB.out GE145.out))); have GE146 := GW146; have NB145_146 := Aside0.mk (zlt hg BK145.out); have NB146_145 := Aside0.mk (zgt hg BK145.out); clear BK145 HB; have BK145 := n0_; have HB := n1_; clear n0_ n1_; clear hb hbox hg; have hnb22 := NB145_146.out; have hnc22 := NB146_145.out; have hcz23_0 := zc BK145.out 0; have hcz23_1 := zc BK145.out 1; have hfz23_0 := blk_frozen BK145.out 0; have hfz23_1 := blk_frozen BK145.out 1) | ((with_reducible refine gate_callee (f := 84) rfl ?_); refine zgo (some 10) Try.func84 #[.agg #[.bool a0_0, .int .i64 a0_1]] ?_; (with_reducible refine (word_May.calls a0_0 a0_1 true _ A5.out).mono ?_); rintro e w24 ⟨rfl, hb⟩; refine ⟨_, rfl, ?_⟩; have n0_ := Aside0.mk (zbb BK145.out hb); have n1_ := Aside0.mk (zbb BK146.out hb); have n2_ := Aside0.mk (below_step (zw2 HB.out GE145.out GE146.out) hb); clear BK145 BK146 HB; have BK145 := n0_; have BK146 := n1_; have HB := n2_; clear n0_ n1_ n2_; (try clear hb); (try clear hb2); (try clear hk); (try clear hi)) | (go_at_call 77; (with_reducible refine (mem_May.calls _ _ l1 true _ ?side1 ?side2 A7.out).mono ?_); (case side1 => repeat (first | exact (Kd.C_below HR1.out HB.out) | (with_reducible refine Kd.C_alloc ?_ _) | (with_reducible refine Kd.C_drewN ?_ _) | (with_reducible refine Kd.C_drew ?_))); (case side2 => exact HC1.out); rintro e w25 ⟨rfl, hb⟩; have n0_ := Aside0.mk (zbb BK145.out hb); have n1_ := Aside0.mk (zbb BK146.out hb); have n2_ := Aside0.mk (below_step (zw2 HB.out GE145.out GE146.out) hb); clear BK145 BK146 HB; have BK145 := n0_; have BK146 := n1_; have HB := n2_; clear n0_ n1_ n2_; (try clear hb); (try clear hb2); (try clear hk); (try clear hi); have hcz26_0 := zc BK146.out 0; have hcz26_1 := zc BK146.out 1; have hcz26_2 := zc BK146.out 2; have hcz26_3 := zc BK146.out 3; have hfz26_0 := blk_frozen BK146.out 0; have hfz26_1 := blk_frozen BK146.out 1; have hfz26_2 := blk_frozen BK146.out 2; have hfz26_3 := blk_frozen BK146.out 3) | (go_at_call 78; (with_reducible refine (mem_there.calls _ _ l1 a2_0 a2_1 a2_2 a2_3 false _ ?side1 ?side2 A9.out).mono ?_); (case side1 => repeat (first | exact (Kd.C_below HR1.out HB.out) | (with_reducible refine Kd.C_alloc ?_ _) | (with_reducible refine Kd.C_drewN ?_ _) | (with_reducible refine Kd.C_drew ?_))); (case side2 => exact HC1.out); rintro e w27 ⟨rfl, hb⟩; have n0_ := Aside0.mk (zbb BK145.out hb); have n1_ := Aside0.mk (zbb BK146.out hb); have n2_ := Aside0.mk (below_step (zw2 HB.out GE145.out GE146.out) hb); clear BK145 BK146 HB; have BK145 := n0_; have BK146 := n1_; have HB := n2_; clear n0_ n1_ n2_; (try clear hb); (try clear hb2); (try clear hk); (try clear hi)))
   go_ret
   exact ⟨ze, zw2 HB.out GE145.out GE146.out⟩
  subst c10
  have H1 : ((word_IsScalar.f a3).bind fun t150 => (some t150)) = some r := by rw [if_pos rfl] at H; exact H
  clear H
  have H := H1
  clear H1
  replace H := Option.bind_eq_some_iff.mp H
  obtain ⟨t150, A110, H⟩ := H
  replace H : (some t150) = some r := H
  have A11 := Aside0.mk A110
  clear A110
  obtain rfl := Option.some.inj H
  go_enter Try.func66, Try.ntmps66
  go_wp2_with (first | ((with_reducible refine gate_dst (N := 4) rfl ?_); refine zbox (N := 4) (cs := #[.bool a0_0, .int .i64 a0_1]) (t := 29) ?_; intro gb145 hg w12 hbox hb; have n0_ := Aside0.mk (below_step (zw0 HB.out) hb); have BK145 := Aside0.mk (hbox); have GW145 := Aside0.mk (zg hg (below_size (zw0 HB.out))); have GE145 := GW145; clear HB; have HB := n0_; clear n0_; clear hb hbox hg) | ((with_reducible refine gate_dst (N := 6) rfl ?_); refine zbox (N := 6) (cs := #[.bool a2_0, .int .i64 a2_1, .int .i64 a2_2, .int .i64 a2_3]) (t := 62) ?_; intro gb146 hg w13 hbox hb; have n0_ := Aside0.mk (zbb BK145.out hb); have n1_ := Aside0.mk (below_step (zw1 HB.out GE145.out) hb); have BK146 := Aside0.mk (hbox); have GW146 := Aside0.mk (zg hg (below_size (zw1 HB.out GE145.out))); have GE146 := GW146; have NB145_146 := Aside0.mk (zlt hg BK145.out); have NB146_145 := Aside0.mk (zgt hg BK145.out); clear BK145 HB; have BK145 := n0_; have HB := n1_; clear n0_ n1_; clear hb hbox hg; have hnb14 := NB145_146.out; have hnc14 := NB146_145.out; have hcz15_0 := zc BK145.out 0; have hcz15_1 := zc BK145.out 1; have hfz15_0 := blk_frozen BK145.out 0; have hfz15_1 := blk_frozen BK145.out 1) | ((with_reducible refine gate_callee (f := 84) rfl ?_); refine zgo (some 10) Try.func84 #[.agg #[.bool a0_0, .int .i64 a0_1]] ?_; (with_reducible refine (word_May.calls a0_0 a0_1 true _ A5.out).mono ?_); rintro e w16 ⟨rfl, hb⟩; refine ⟨_, rfl, ?_⟩; have n0_ := Aside0.mk (zbb BK145.out hb); have n1_ := Aside0.mk (zbb BK146.out hb); have n2_ := Aside0.mk (below_step (zw2 HB.out GE145.out GE146.out) hb); clear BK145 BK146 HB; have BK145 := n0_; have BK146 := n1_; have HB := n2_; clear n0_ n1_ n2_; (try clear hb); (try clear hb2); (try clear hk); (try clear hi)) | (go_at_call 77; (with_reducible refine (mem_May.calls _ _ l1 true _ ?side1 ?side2 A7.out).mono ?_); (case side1 => repeat (first | exact (Kd.C_below HR1.out HB.out) | (with_reducible refine Kd.C_alloc ?_ _) | (with_reducible refine Kd.C_drewN ?_ _) | (with_reducible refine Kd.C_drew ?_))); (case side2 => exact HC1.out); rintro e w17 ⟨rfl, hb⟩; have n0_ := Aside0.mk (zbb BK145.out hb); have n1_ := Aside0.mk (zbb BK146.out hb); have n2_ := Aside0.mk (below_step (zw2 HB.out GE145.out GE146.out) hb); clear BK145 BK146 HB; have BK145 := n0_; have BK146 := n1_; have HB := n2_; clear n0_ n1_ n2_; (try clear hb); (try clear hb2); (try clear hk); (try clear hi); have hcz18_0 := zc BK146.out 0; have hcz18_1 := zc BK146.out 1; have hcz18_2 := zc BK146.out 2; have hcz18_3 := zc BK146.out 3; have hfz18_0 := blk_frozen BK146.out 0; have hfz18_1 := blk_frozen BK146.out 1; have hfz18_2 := blk_frozen BK146.out 2; have hfz18_3 := blk_frozen BK146.out 3) | (go_at_call 78; (with_reducible refine (mem_there.calls _ _ l1 a2_0 a2_1 a2_2 a2_3 true _ ?side1 ?side2 A9.out).mono ?_); (case side1 => repeat (first | exact (Kd.C_below HR1.out HB.out) | (with_reducible refine Kd.C_alloc ?_ _) | (with_reducible refine Kd.C_drewN ?_ _) | (with_reducible refine Kd.C_drew ?_))); (case side2 => exact HC1.out); rintro e w19 ⟨rfl, hb⟩; have n0_ := Aside0.mk (zbb BK145.out hb); have n1_ := Aside0.mk (zbb BK146.out hb); have n2_ := Aside0.mk (below_step (zw2 HB.out GE145.out GE146.out) hb); clear BK145 BK146 HB; have BK145 := n0_; have BK146 := n1_; have HB := n2_; clear n0_ n1_ n2_; (try clear hb); (try clear hb2); (try clear hk); (try clear hi)) | (go_at_call 97; (with_reducible refine (word_IsScalar.calls a3 t150 _ A11.out).mono ?_); rintro e w' ⟨rfl, ⟨nd, rfl⟩⟩))
  go_ret
  exact ⟨ze, zw2 HB.out GE145.out GE146.out⟩
 ·replace c6 := Bool.eq_false_iff.mpr c6
  subst c6
  have H1 : (some false) = some r := by rw [if_neg (show ¬ (false = true) by decide)] at H; exact H
  clear H
  have H := H1
  clear H1
  obtain rfl := Option.some.inj H
  go_enter Try.func66, Try.ntmps66
  go_wp2_with (first | ((with_reducible refine gate_dst (N := 4) rfl ?_); refine zbox (N := 4) (cs := #[.bool a0_0, .int .i64 a0_1]) (t := 29) ?_; intro gb145 hg w34 hbox hb; have n0_ := Aside0.mk (below_step (zw0 HB.out) hb); have BK145 := Aside0.mk (hbox); have GW145 := Aside0.mk (zg hg (below_size (zw0 HB.out))); have GE145 := GW145; clear HB; have HB := n0_; clear n0_; clear hb hbox hg) | ((with_reducible refine gate_dst (N := 6) rfl ?_); refine zbox (N := 6) (cs := #[.bool a2_0, .int .i64 a2_1, .int .i64 a2_2, .int .i64 a2_3]) (t := 62) ?_; intro gb146 hg w35 hbox hb; have n0_ := Aside0.mk (zbb BK145.out hb); have n1_ := Aside0.mk (below_step (zw1 HB.out GE145.out) hb); have BK146 := Aside0.mk (hbox); have GW146 := Aside0.mk (zg hg (below_size (zw1 HB.out GE145.out))); have GE146 := GW146; have NB145_146 := Aside0.mk (zlt hg BK145.out); have NB146_145 := Aside0.mk (zgt hg BK145.out); clear BK145 HB; have BK145 := n0_; have HB := n1_; clear n0_ n1_; clear hb hbox hg; have hnb36 := NB145_146.out; have hnc36 := NB146_145.out; have hcz37_0 := zc BK145.out 0; have hcz37_1 := zc BK145.out 1; have hfz37_0 := blk_frozen BK145.out 0; have hfz37_1 := blk_frozen BK145.out 1) | ((with_reducible refine gate_callee (f := 84) rfl ?_); refine zgo (some 10) Try.func84 #[.agg #[.bool a0_0, .int .i64 a0_1]] ?_; (with_reducible refine (word_May.calls a0_0 a0_1 false _ A5.out).mono ?_); rintro e w38 ⟨rfl, hb⟩; refine ⟨_, rfl, ?_⟩; have n0_ := Aside0.mk (zbb BK145.out hb); have n1_ := Aside0.mk (zbb BK146.out hb); have n2_ := Aside0.mk (below_step (zw2 HB.out GE145.out GE146.out) hb); clear BK145 BK146 HB; have BK145 := n0_; have BK146 := n1_; have HB := n2_; clear n0_ n1_ n2_; (try clear hb); (try clear hb2); (try clear hk); (try clear hi)))
  go_ret
  exact ⟨ze, zw2 HB.out GE145.out GE146.out⟩

/-! slices.Clone of rows -/
theorem row0_event {P : Program} {ops : Array Oper} {o : Oper} {a : Act} {Q : Exit → Act → World → Prop} {rest : List Oper} {α : Type} (d : Kd α) {W : World} (hgd : o.guard = none) (t : TypeId)
    (hrun : (execOp a.eval o).run P W = .ok (.value (.slice (some ⟨W.heap.size, 0, none⟩) 0 0)) (W.alloc (.cells #[] t (0, 0))))
    (h : ∀ v w1, (∃ A c, v = .slice A 0 c) → d.R t w1 W.heap.size (fun _ => True) v [] → Below W.heap.size W w1 → wpList P ops Q rest (a.put o.dst v) w1) : wpList P ops Q (o :: rest) a W :=
  Kd.event_run hgd hrun (h _ _ ⟨_, _, rfl⟩ ⟨fun _ _ => trivial, [], ⟨by simp, .inr ⟨W.heap.size, 0, #[], rfl, Nat.le_refl _, blk_new W _, Nat.le_refl _, by decide, by simp, by simp⟩⟩, Reps.none _ _⟩ (below_alloc (Below.refl _ _) _))
theorem kB_M (w W : World) (base : Nat) (ok : Nat → Prop) (x : S74) (cs : List Value) (h : k74.K w x cs) : k74.M W base ok x cs := by
  obtain rfl := k74_open h
  exact k74_mkM _ _ _ x
set_option maxHeartbeats 4000000 in
set_option maxRecDepth 100000 in
theorem cloneB_calls (A : Option Addr) (c : Nat) (l : List S74) (w : World) (hr : Kd.C k74 w A l.length l) (hlim : l.length * 40 ≤ 140737488355328) :
  Calls Try.prog 102 #[.slice A l.length c] w fun e w' => ∃ v, e = .returned v ∧ Kd.R k74 74 w' w.heap.size (fun _ => True) v l ∧ Below w.heap.size w w' := by
 have HR := Aside0.mk hr
 have q72 : ∀ (w : World) (a : Option Addr) (n c n' c' : Nat), (binOp .eql 72 (.slice a n c) (.slice none n' c')).run Try.prog w = .ok (.bool a.isNone) w := fun w a n c n' c' => Lib.run_eql_slice_nil w _ _ a n c n' c' Try.underlying72
 have HL := Aside0.mk hlim
 have HB := Aside0.mk (Below.refl w.heap.size w)
 cases A with
 | none =>
  have hl : l = [] := by
    rcases Nat.eq_zero_or_pos l.length with h0 | hp
    · exact List.eq_nil_of_length_eq_zero h0
    · obtain ⟨ad, e0, _⟩ := hr.2.2 hp
      cases e0
  subst hl
  clear hr hlim
  go_enter Try.func102, Try.ntmps102
  go_wp2
  go_ret
  exact ⟨_, by first | rfl | (simp; done), Kd.R_nil _ _ _ _ _, zw0 HB.out⟩
 | some ad =>
  clear hr hlim
  go_enter Try.func102, Try.ntmps102
  go_wp2_with (first | ((with_reducible refine gate_dst (N := 5) rfl ?_); refine row0_event k74 (by rfl) 74 ?hr ?_; (case hr => first | (go_simp; done) | (go_simp; rfl)); rintro v w1 ⟨Av, cv, rfl⟩ hv hb; have HV := Aside0.mk hv; have HB1 := Aside0.mk hb; clear hv hb) | ((with_reducible refine gate_builtin (b := .append) (xs := #[.tmp 5, .tmp 6]) rfl ?_); at_builtin; refine Kd.R_append_rows k74 (w0 := w) w.heap.size rfl (.tmp 5) (.tmp 6) 72 74 (.agg #[(.int .i64 0), (.int .i64 0), (.int .i64 0), (.int .i64 0), (.int .i64 0)]) 40 rfl Try.underlying72 info74 rfl (by decide) (by omega) _ [] l (some ad) l.length c (fun _ => True) (fun _ => False) rfl rfl HV.out (Kd.C_below HR.out HB1.out) (kB_M _ _ _ _) (fun _ h_ => h_.elim) (fun _ _ => trivial) HB1.out HB1.out.size (by have := HL.out; simpa using this) ?_; intro v2 w2 ho hb hg hat; have HO := Aside0.mk ho; have HB2 := Aside0.mk hb; clear ho hb hg hat))
  go_ret
  exact ⟨_, by first | rfl | (simp; done), by have := HO.out; simpa using this, HB2.out⟩

/-! slices.Clone of rows -/
set_option maxHeartbeats 4000000 in
set_option maxRecDepth 100000 in
theorem cloneK_calls (A : Option Addr) (c : Nat) (l : List S76) (w : World) (hr : Kd.C k76 w A l.length l) (hlim : l.length * 32 ≤ 140737488355328) :
  Calls Try.prog 101 #[.slice A l.length c] w fun e w' => ∃ (v : Value) (rows : List (List Value)), e = .returned v ∧ rows.length = l.length ∧ Kd.R (Kd.raw 2) 76 w' w.heap.size (fun _ => True) v rows ∧ (∀ (j : Nat) (x : S76) (cs : List Value), l[j]? = some x → rows[j]? = some cs → k76.K w x cs) ∧ Below w.heap.size w w' := by
 obtain ⟨news, hnl, hnr, hnf⟩ := Kd.reads_raw (sz := 2) hr (fun x c hk => ⟨k76.K_len hk, k76.K_one hk⟩)
 have HF := Aside0.mk hnf
 have HN := Aside0.mk hnl
 have HR := Aside0.mk (show Kd.C (Kd.raw 2) w A l.length news from hnr)
 have q57 : ∀ (w : World) (a : Option Addr) (n c n' c' : Nat), (binOp .eql 57 (.slice a n c) (.slice none n' c')).run Try.prog w = .ok (.bool a.isNone) w := fun w a n c n' c' => Lib.run_eql_slice_nil w _ _ a n c n' c' Try.underlying57
 have HL := Aside0.mk hlim
 have HB := Aside0.mk (Below.refl w.heap.size w)
 cases A with
 | none =>
  have hl : l = [] := by
    rcases Nat.eq_zero_or_pos l.length with h0 | hp
    · exact List.eq_nil_of_length_eq_zero h0
    · obtain ⟨ad, e0, _⟩ := hr.2.2 hp
      cases e0
  have hn : news = [] := by
    rw [hl] at hnl
    exact List.eq_nil_of_length_eq_zero hnl
  subst hl
  subst hn
  clear hr hlim hnl hnr hnf
  go_enter Try.func101, Try.ntmps101
  go_wp2
  go_ret
  exact ⟨_, [], by first | rfl | (simp; done), rfl, Kd.R_nil _ _ _ _ _, HF.out, zw0 HB.out⟩
 | some ad =>
  clear hr hlim hnl hnr hnf
  go_enter Try.func101, Try.ntmps101
  go_wp2_with (first | ((with_reducible refine gate_dst (N := 5) rfl ?_); refine row0_event (Kd.raw 2) (by rfl) 76 ?hr ?_; (case hr => first | (go_simp; done) | (go_simp; rfl)); rintro v w1 ⟨Av, cv, rfl⟩ hv hb; have HV := Aside0.mk hv; have HB1 := Aside0.mk hb; clear hv hb) | ((with_reducible refine gate_builtin (b := .append) (xs := #[.tmp 5, .tmp 6]) rfl ?_); at_builtin; refine Kd.R_append_rows (Kd.raw 2) (w0 := w) w.heap.size rfl (.tmp 5) (.tmp 6) 57 76 (.agg #[(.int .i64 0), (.slice none 0 0)]) 32 rfl Try.underlying57 info76 rfl (by decide) (by omega) _ [] news (some ad) l.length c (fun _ => True) (fun _ => False) rfl rfl HV.out (Kd.C_below HR.out HB1.out) (fun _ _ h_ => h_) (fun _ h_ => h_.elim) (fun _ _ => trivial) HB1.out HB1.out.size (by have := HL.out; simpa using this) ?_; intro v2 w2 ho hb hg hat; have HO := Aside0.mk ho; have HB2 := Aside0.mk hb; clear ho hb hg hat))
  go_ret
  exact ⟨_, news, by first | rfl | (simp; done), HN.out, by have := HO.out; simpa using this, HF.out, HB2.out⟩

/-! cellar/mem.Own -/
/-- Behind i rounds: the rows ahead of i are the call's own, and apart; the others are as they came. -/
def OwnI (w : World) (l : List S76) (i : Nat) (v : Value) (W : World) : Prop :=
  ∃ (rows : List (List Value)) (f : Nat → Nat), rows.length = l.length ∧ Kd.R (Kd.raw 2) 76 W w.heap.size (fun k => some k = v.ownBlock) v rows ∧
    ∀ (j : Nat) (x : S76) (cs : List Value), l[j]? = some x → rows[j]? = some cs →
      (j < i → ∃ u, cs = [.int .i64 x.f0, u] ∧ Kd.R k74 74 W w.heap.size (fun k => f k = j ∧ some k ≠ v.ownBlock) u x.f1) ∧ (i ≤ j → k76.K w x cs)
theorem ownI_end {w W : World} {l : List S76} {v : Value} (h : OwnI w l l.length v W) : Kd.S k76 76 W w.heap.size (fun _ => True) v l := by
  obtain ⟨rows, f, hl, ⟨_, inner, ho, hr⟩, he⟩ := h
  refine ⟨f, fun _ _ => trivial, inner, ?_, ?_, ?_⟩
  · rw [List.length_zipIdx, ← hl]
    exact ho
  · rw [List.length_zipIdx, ← hl]
    exact hr.1
  · rintro j ⟨x, q⟩ hj
    obtain ⟨hq, hx⟩ : q = j ∧ l[j]? = some x := by
      rw [List.getElem?_zipIdx] at hj
      obtain ⟨y, hy, hz⟩ := Option.map_eq_some_iff.1 hj
      simp only [Nat.zero_add, Prod.mk.injEq] at hz
      exact ⟨hz.2.symm, by rw [hy, hz.1]⟩
    subst hq
    have hlt : q < rows.length := by rw [hl]; exact (List.getElem?_eq_some_iff.1 hx).1
    have hcs := List.getElem?_eq_getElem hlt
    obtain ⟨u, hu, hR⟩ := (he q x _ hx hcs).1 (by rw [← hl]; exact hlt)
    have hM := hr.2 q _ hcs
    show k76.M W w.heap.size _ x ((inner.drop (q * 2)).take 2)
    rw [show (inner.drop (q * 2)).take 2 = [.int .i64 x.f0, u] from hM.1.trans hu]
    exact k76_mkM _ _ _ x (Kd.R_mono hR (fun k hk => ⟨⟨trivial, hk.2⟩, hk.1⟩))
theorem ownI_at {w W : World} {l : List S76} {i : Nat} {v : Value} (h : OwnI w l i v W) (hi : i < l.length) :
    ∃ (g cap : Nat) (x : S76) (A : Option Addr) (c : Nat), v = .slice (some ⟨g, 0, none⟩) l.length cap ∧ g < W.heap.size ∧ l[i]? = some x ∧ x.f1.length ≤ c ∧ Kd.C k74 w A x.f1.length x.f1 ∧
      W.cell? ⟨g, i * 2 + 1, none⟩ = some (.slice A x.f1.length c) ∧ W.frozen? ⟨g, i * 2 + 1, none⟩ = false ∧
      ∀ (W1 : World) (u : Value), Kd.R k74 74 W1 W.heap.size (fun _ => True) u x.f1 → Below W.heap.size W W1 → OwnI w l (i + 1) v (W1.setCell ⟨g, i * 2 + 1, none⟩ u) ∧ w.heap.size ≤ g := by
  obtain ⟨rows, f, hl, hR, he⟩ := h
  obtain ⟨g, cap, rfl, hbg, hgl, hcl⟩ := Kd.R_form hR (by omega)
  rw [hl] at hR ⊢
  have hx := List.getElem?_eq_getElem hi
  have hlt : i < rows.length := by omega
  have hcs := List.getElem?_eq_getElem hlt
  have hK := (he i _ _ hx hcs).2 (Nat.le_refl _)
  obtain ⟨A, c, hcc0, hlc, hC⟩ := k76_open hK
  obtain ⟨c1, hc1l, hc1M, hc1c, hc1f⟩ := Kd.R_elem hR [] (i : Int) (by omega) (by omega)
  have hc1e : c1 = [.int .i64 (l[i]).f0, .slice A (l[i]).f1.length c] := by
    rw [hc1M.1, Int.toNat_natCast, List.getD_eq_getElem?_getD, hcs]
    exact hcc0
  have hne : ∀ k, W.heap.size ≤ k → k ≠ g := fun k hk e => by omega
  refine ⟨g, cap, l[i], A, c, rfl, hgl, hx, hlc, hC, ?_, ?_, fun W1 u hu hb => ⟨?_, hbg⟩⟩
  · have := hc1c 1 (.slice A (l[i]).f1.length c) (by rw [hc1e]; rfl)
    rwa [Int.toNat_natCast] at this
  · have := hc1f 1
    rwa [Int.toNat_natCast] at this
  have hR1 := Kd.R_below hR hb
  have hcell : ∀ (j : Nat) (u : Value), c1[j]? = some u → W1.cell? ⟨g, (i : Int).toNat * 2 + j, none⟩ = some u := fun j u hj => (hb.cell (p := ⟨g, (i : Int).toNat * 2 + j, none⟩) hgl).trans (hc1c j u hj)
  obtain ⟨_, hu1⟩ := Kd.R_val hu
  have hW := (Kd.R_seg hR1 (i : Int) (by omega) (by omega) (c := c1) (seg := [u]) (j := 1) hc1l hcell (show 1 + 1 ≤ 2 from by decide) (okp := fun _ => False) (x' := [.int .i64 (l[i]).f0, u])
    (by rw [hc1e]; exact ⟨rfl, rfl, fun z hz => by
      rcases List.mem_cons.1 hz with rfl | hz
      · rfl
      · rcases List.mem_cons.1 hz with rfl | hz
        · exact hu1
        · cases hz⟩) (fun _ h_ => h_.elim)).1
  rw [Int.toNat_natCast] at hW
  refine ⟨rows.set i [.int .i64 (l[i]).f0, u], fun k => if W.heap.size ≤ k then i else f k, by rw [List.length_set, hl], hW, fun j x cs hjx hjc => ⟨fun hj => ?_, fun hj => ?_⟩⟩
  · rcases Nat.lt_or_ge j i with hji | hji
    · rw [List.getElem?_set_ne (by omega)] at hjc
      obtain ⟨u', rfl, hR'⟩ := (he j x cs hjx hjc).1 hji
      refine ⟨u', rfl, ?_⟩
      have h1 := Kd.R_bound hR'
      have h2 := Kd.R_step (w1 := W1.setCell ⟨g, i * 2 + 1, none⟩ u) h1 (fun k hk _ => (Below.heap_setCell W1 ⟨g, i * 2 + 1, none⟩ u k (by intro e_; exact hk.1.2 (by rw [e_]; rfl))).trans (hb.block k hk.2.2.1))
      exact Kd.R_mono h2 (fun k hk => ⟨by have := hk.2.2.1; show (if W.heap.size ≤ k then i else f k) = j; rw [if_neg (by omega)]; exact hk.1.1, hk.1.2⟩)
    · obtain rfl : j = i := by omega
      rw [List.getElem?_set_self hlt] at hjc
      injection hjc with hjc
      subst hjc
      obtain rfl : x = l[j] := by rw [hx] at hjx; injection hjx with hjx; exact hjx.symm
      refine ⟨u, rfl, ?_⟩
      have h1 := Kd.R_bound hu
      have h2 := Kd.R_far h1 (p := ⟨g, j * 2 + 1, none⟩) (fun k hk => hne k hk.2.1) u
      exact Kd.R_mono (Kd.R_lower h2 (by have := Kd.R_base hR; have h3 : w.heap.size ≤ W.heap.size := by omega
                                         exact h3)) (fun k hk => ⟨by show (if W.heap.size ≤ k then j else f k) = j; rw [if_pos hk.2.1], by intro e_; exact hne k hk.2.1 (by simpa [Value.ownBlock] using e_)⟩)
  · rw [List.getElem?_set_ne (by omega)] at hjc
    exact (he j x cs hjx hjc).2 (by omega)
set_option maxHeartbeats 4000000 in
set_option maxRecDepth 100000 in
theorem own_calls (A0 : Option Addr) (c0 : Nat) (l : List S76) (w : World) (hr0 : Kd.C k76 w A0 l.length l) (hlim : l.length * 32 ≤ 140737488355328) (hlimB : ∀ x ∈ l, x.f1.length * 40 ≤ 140737488355328) :
  Calls Try.prog 68 #[.slice A0 l.length c0] w fun e w' => ∃ v, e = .returned v ∧ Kd.S k76 76 w' w.heap.size (fun _ => True) v l ∧ Below w.heap.size w w' := by
 have hu76 := Try.underlying76
 have hbig := hr0.2.1
 have HLB := Aside0.mk hlimB
 have HC := Aside0.mk (cloneK_calls A0 c0 l w hr0 hlim)
 clear hr0 hlim hlimB
 go_enter Try.func68, Try.ntmps68
 go_upto_region 2 with (go_at_call 101; refine HC.out.mono ?_; rintro e w1 ⟨v, rows, rfl, hrl, hR, hF, hb⟩; obtain ⟨A1, c1, rfl⟩ := Kd.R_slice hR; rw [hrl] at hR; have HI := Aside0.mk (show OwnI w l 0 _ w1 from ⟨rows, fun _ => 0, hrl, Kd.R_tight rfl hR, fun j x cs hx hc => ⟨fun h_ => absurd h_ (Nat.not_lt_zero _), fun _ => hF j x cs hx hc⟩⟩); have HB := Aside0.mk hb; rw [hrl]; clear hR hF hb hrl HC)
 go_wp2
 go_loopg [3, 8] l.length (fun gg _ s8 wr => ∃ kk : Nat, kk ≤ l.length ∧ l.length - kk ≤ gg ∧ s8 = .int .i64 kk ∧ Aside0 (Below w.heap.size w wr) ∧ Aside0 (OwnI w l kk (.slice A1 l.length c1) wr))
 case atStart => exact ⟨0, Nat.zero_le _, by omega, rfl, HB, HI⟩
 case round =>
  obtain ⟨kk, hkk, hg, rfl, BW, HI2⟩ := hrel
  clear HI HB
  by_cases hlt : kk < l.length
  · have hltz : (kk : Int) < (l.length : Int) := by omega
    obtain ⟨g, cap, x, A, c, hv, hgl, hx, hlc, hC, hcell, hfroz, hnext⟩ := ownI_at HI2.out hlt
    injection hv with hv1 _ hv2
    subst hv1
    subst hv2
    have HN := Aside0.mk hnext
    have HCB := Aside0.mk (Kd.C_below hC BW.out)
    have HX := Aside0.mk (HLB.out x (List.mem_of_getElem? hx))
    have HGL := Aside0.mk hgl
    have HCE := Aside0.mk hcell
    have HFR := Aside0.mk hfroz
    clear hnext hC hx hlc hgl HI2
    go_wp2_with (go_at_call 102; refine (cloneB_calls A c x.f1 _ HCB.out HX.out).mono ?_; rintro e w' ⟨u, rfl, hu, hb⟩; have hcell2 : w'.cell? ⟨g, kk * 2 + 1, none⟩ = some (.slice A x.f1.length c) := (hb.cell (p := ⟨g, kk * 2 + 1, none⟩) HGL.out).trans HCE.out; have hfroz2 : w'.frozen? ⟨g, kk * 2 + 1, none⟩ = false := (by have h_ := HFR.out; simp only [World.frozen?] at h_ ⊢; rw [hb.block g HGL.out]; exact h_); obtain ⟨Au, cu, rfl⟩ := Kd.R_slice hu; obtain ⟨hn1, hn2⟩ := HN.out w' _ hu hb; have HI3 := Aside0.mk hn1; have HB3 := Aside0.mk (below_set (j := kk * 2 + 1) (v := .slice Au x.f1.length cu) (below_step BW.out hb) hn2); clear hu hb hn1 hn2)
    go_roundg (l.length - (kk + 1))
    case measure => omega
    case rel => exact ⟨kk + 1, by omega, by omega, by go_num, HB3, HI3⟩
  · have hltz : ¬ (kk : Int) < (l.length : Int) := by omega
    obtain rfl : kk = l.length := by omega
    have HS := Aside0.mk (ownI_end HI2.out)
    clear HI2
    go_wp2
    go_ret
    exact ⟨_, by first | rfl | (simp; done), HS.out, BW.out⟩

/-! word_Bytes -/
def word_Bytes.f (a0_0 : Bool) (a0_1 : Int) (a1 : Int) : Option (Int) := if a1 = 7 then (some a0_1) else ((word_Of.f a1).bind fun t152 => (some (wrap64 (Int.tdiv t152 8))))
set_option maxHeartbeats 8000000 in
set_option maxRecDepth 100000 in
theorem word_Bytes.calls (a0_0 : Bool) (a0_1 : Int) (a1 : Int) (r : Int) (w : World) (h : word_Bytes.f a0_0 a0_1 a1 = some r) :
  Calls Try.prog 86 #[.agg #[.bool a0_0, .int .i64 a0_1], .int .i64 a1] w fun e w' => e = .returned (.int .i64 r) ∧ Below w.heap.size w w' := by
 have hu29 := Try.underlying29
 have HB := Aside0.mk (Below.refl w.heap.size w)
 have H : (if a1 = 7 then (some a0_1) else ((word_Of.f a1).bind fun t152 => (some (wrap64 (Int.tdiv t152 8))))) = some r := h
 clear h
 by_cases c3 : a1 = 7
 ·rw [if_pos c3] at H
  have c3b0 : (a1 == 7) = true := beq_iff_eq.mpr c3
  have c3b1 : (a1 != 7) = false := bne_eq_false_iff_eq.mpr c3
  clear c3
  obtain rfl := Option.some.inj H
  go_enter Try.func86, Try.ntmps86
  go_wp2_with (first | ((with_reducible refine gate_dst (N := 2) rfl ?_); refine zbox (N := 2) (cs := #[.bool a0_0, .int .i64 a0_1]) (t := 29) ?_; intro gb151 hg w4 hbox hb; have n0_ := Aside0.mk (below_step (zw0 HB.out) hb); have BK151 := Aside0.mk (hbox); have GW151 := Aside0.mk (zg hg (below_size (zw0 HB.out))); have GE151 := GW151; clear HB; have HB := n0_; clear n0_; clear hb hbox hg; have hcz5_0 := zc BK151.out 0; have hcz5_1 := zc BK151.out 1; have hfz5_0 := blk_frozen BK151.out 0; have hfz5_1 := blk_frozen BK151.out 1))
  go_ret
  exact ⟨ze, zw1 HB.out GE151.out⟩
 ·rw [if_neg c3] at H
  have c3b0 : (a1 == 7) = false := beq_eq_false_iff_ne.mpr c3
  have c3b1 : (a1 != 7) = true := bne_iff_ne.mpr c3
  replace H := Option.bind_eq_some_iff.mp H
  obtain ⟨t152, A60, H⟩ := H
  replace H : (some (wrap64 (Int.tdiv t152 8))) = some r := H
  have A6 := Aside0.mk A60
  clear A60
  obtain rfl := Option.some.inj H
  go_enter Try.func86, Try.ntmps86
  go_wp2_with (first | ((with_reducible refine gate_dst (N := 2) rfl ?_); refine zbox (N := 2) (cs := #[.bool a0_0, .int .i64 a0_1]) (t := 29) ?_; intro gb151 hg w7 hbox hb; have n0_ := Aside0.mk (below_step (zw0 HB.out) hb); have BK151 := Aside0.mk (hbox); have GW151 := Aside0.mk (zg hg (below_size (zw0 HB.out))); have GE151 := GW151; clear HB; have HB := n0_; clear n0_; clear hb hbox hg) | ((with_reducible refine gate_callee (f := 99) rfl ?_); refine zgo (some 10) Try.func99 #[.int .i64 a1] ?_; (with_reducible refine (word_Of.calls a1 t152 _ A6.out).mono ?_); rintro e w' ⟨rfl, ⟨nd, rfl⟩⟩; refine ⟨_, rfl, ?_⟩))
  go_ret
  exact ⟨ze, zw1 HB.out GE151.out⟩

/-! mem_Way -/
def mem_Way.f (a0_0 : Bool) (a0_1 : Int) (l1 : List (S76)) (a2_0 : Bool) (a2_1 : Int) (a2_2 : Int) (a2_3 : Int) (a3 : Int) : Option (Int) := (word_Bytes.f a0_0 a0_1 a3).bind fun t155 => (if 0 ≤ a2_2 then (if a2_2 < (l1.length : Int) then (if ((rd_T76 l1 a2_2).f0) = 1 then (if (wrap64 (a2_3 + t155)) > (((rd_T76 l1 a2_2).f1).length : Int) then (some 1) else (if t155 = 0 then (none) else (if (Int.tmod a2_3 t155) = 0 then (some 0) else (some 3)))) else (some 2)) else (none)) else (none))
set_option maxHeartbeats 8000000 in
set_option maxRecDepth 100000 in
theorem mem_Way.calls (a0_0 : Bool) (a0_1 : Int) (A1 : Option Addr) (c1 : Nat) (l1 : List (S76)) (a2_0 : Bool) (a2_1 : Int) (a2_2 : Int) (a2_3 : Int) (a3 : Int) (r : Int) (w : World) (hr1 : Kd.C k76 w A1 l1.length l1) (hc1 : l1.length ≤ c1) (h : mem_Way.f a0_0 a0_1 l1 a2_0 a2_1 a2_2 a2_3 a3 = some r) :
  Calls Try.prog 103 #[.agg #[.bool a0_0, .int .i64 a0_1], .slice A1 l1.length c1, .agg #[.bool a2_0, .int .i64 a2_1, .int .i64 a2_2, .int .i64 a2_3], .int .i64 a3] w fun e w' => e = .returned (.int .i64 r) ∧ Below w.heap.size w w' := by
 have hu29 := Try.underlying29
 have hu62 := Try.underlying62
 have HR1 := Aside0.mk hr1
 have HC1 := Aside0.mk hc1
 clear hr1 hc1
 have HB := Aside0.mk (Below.refl w.heap.size w)
 have H : ((word_Bytes.f a0_0 a0_1 a3).bind fun t155 => (if 0 ≤ a2_2 then (if a2_2 < (l1.length : Int) then (if ((rd_T76 l1 a2_2).f0) = 1 then (if (wrap64 (a2_3 + t155)) > (((rd_T76 l1 a2_2).f1).length : Int) then (some 1) else (if t155 = 0 then (none) else (if (Int.tmod a2_3 t155) = 0 then (some 0) else (some 3)))) else (some 2)) else (none)) else (none))) = some r := h
 clear h
 replace H := Option.bind_eq_some_iff.mp H
 obtain ⟨t155, A50, H⟩ := H
 replace H : (if 0 ≤ a2_2 then (if a2_2 < (l1.length : Int) then (if ((rd_T76 l1 a2_2).f0) = 1 then (if (wrap64 (a2_3 + t155)) > (((rd_T76 l1 a2_2).f1).length : Int) then (some 1) else (if t155 = 0 then (none) else (if (Int.tmod a2_3 t155) = 0 then (some 0) else (some 3)))) else (some 2)) else (none)) else (none)) = some r := H
 have A5 := Aside0.mk A50
 clear A50
 by_cases c6 : 0 ≤ a2_2
 ·rw [if_pos c6] at H
  have c6b0 : decide (0 ≤ a2_2) = true := decide_eq_true c6
  clear c6
  by_cases c7 : a2_2 < (l1.length : Int)
  rotate_left
  ·rw [if_neg c7] at H
   exact absurd H (by simp)
  rw [if_pos c7] at H
  have c7b0 : decide (a2_2 < (l1.length : Int)) = true := decide_eq_true c7
  clear c7
  by_cases c8 : ((rd_T76 l1 a2_2).f0) = 1
  rotate_left
  ·rw [if_neg c8] at H
   have c8b0 : (((rd_T76 l1 a2_2).f0) == 1) = false := beq_eq_false_iff_ne.mpr c8
   have c8b1 : (((rd_T76 l1 a2_2).f0) != 1) = true := bne_iff_ne.mpr c8
   obtain rfl := Option.some.inj H
   go_enter Try.func103, Try.ntmps103
   go_wp2_with (first | ((with_reducible refine gate_dst (N := 4) rfl ?_); refine zbox (N := 4) (cs := #[.bool a0_0, .int .i64 a0_1]) (t := 29) ?_; intro gb153 hg w30 hbox hb; have n0_ := Aside0.mk (below_step (zw0 HB.out) hb); have BK153 := Aside0.mk (hbox); have GW153 := Aside0.mk (zg hg (below_size (zw0 HB.out))); have GE153 := GW153; clear HB; have HB := n0_; clear n0_; clear hb hbox hg) | ((with_reducible refine gate_dst (N := 6) rfl ?_); refine zbox (N := 6) (cs := #[.bool a2_0, .int .i64 a2_1, .int .i64 a2_2, .int .i64 a2_3]) (t := 62) ?_; intro gb154 hg w31 hbox hb; have n0_ := Aside0.mk (zbb BK153.out hb); have n1_ := Aside0.mk (below_step (zw1 HB.out GE153.out) hb); have BK154 := Aside0.mk (hbox); have GW154 := Aside0.mk (zg hg (below_size (zw1 HB.out GE153.out))); have GE154 := GW154; have NB153_154 := Aside0.mk (zlt hg BK153.out); have NB154_153 := Aside0.mk (zgt hg BK153.out); clear BK153 HB; have BK153 := n0_; have HB := n1_; clear n0_ n1_; clear hb hbox hg; have hnb32 := NB153_154.out; have hnc32 := NB154_153.out; have hcz33_0 := zc BK153.out 0; have hcz33_1 := zc BK153.out 1; have hfz33_0 := blk_frozen BK153.out 0; have hfz33_1 := blk_frozen BK153.out 1) | (go_at_call 86; (with_reducible refine (word_Bytes.calls a0_0 a0_1 a3 t155 _ A5.out).mono ?_); rintro e w34 ⟨rfl, hb⟩; have n0_ := Aside0.mk (zbb BK153.out hb); have n1_ := Aside0.mk (zbb BK154.out hb); have n2_ := Aside0.mk (below_step (zw2 HB.out GE153.out GE154.out) hb); clear BK153 BK154 HB; have BK153 := n0_; have BK154 := n1_; have HB := n2_; clear n0_ n1_ n2_; (try clear hb); (try clear hb2); (try clear hk); (try clear hi); have hcz35_0 := zc BK154.out 0; have hcz35_1 := zc BK154.out 1; have hcz35_2 := zc BK154.out 2; have hcz35_3 := zc BK154.out 3; have hfz35_0 := blk_frozen BK154.out 0; have hfz35_1 := blk_frozen BK154.out 1; have hfz35_2 := blk_frozen BK154.out 2; have hfz35_3 := blk_frozen BK154.out 3; have p156 : 0 ≤ (a2_2 : Int) := zdec; have q156 : a2_2 < (l1.length : Int) := zdec; obtain ⟨ad156, A156_1, c156_1, e156, hx156_0, hx156_1, hl156_1, hi156_1⟩ := at_T76 HR1.out a2_2 p156 q156; cases e156; replace hx156_0 := zh HB.out hx156_0; replace hx156_1 := zh HB.out hx156_1; have HR156_1 := Aside0.mk hi156_1; have HC156_1 := Aside0.mk hl156_1; clear hi156_1 hl156_1; replace p156 := eq_true p156; replace q156 := eq_true q156))
   repeat (go_quiet (first | ((with_reducible refine gate_dst (N := 4) rfl ?_); refine zbox (N := 4) (cs := #[.bool a0_0, .int .i64 a0_1]) (t := 29) ?_; intro gb153 hg w30 hbox hb; have n0_ := Aside0.mk (below_step (zw0 HB.out) hb); have BK153 := Aside0.mk (hbox); have GW153 := Aside0.mk (zg hg (below_size (zw0 HB.out))); have GE153 := GW153; clear HB; have HB := n0_; clear n0_; clear hb hbox hg) | ((with_reducible refine gate_dst (N := 6) rfl ?_); refine zbox (N := 6) (cs := #[.bool a2_0, .int .i64 a2_1, .int .i64 a2_2, .int .i64 a2_3]) (t := 62) ?_; intro gb154 hg w31 hbox hb; have n0_ := Aside0.mk (zbb BK153.out hb); have n1_ := Aside0.mk (below_step (zw1 HB.out GE153.out) hb); have BK154 := Aside0.mk (hbox); have GW154 := Aside0.mk (zg hg (below_size (zw1 HB.out GE153.out))); have GE154 := GW154; have NB153_154 := Aside0.mk (zlt hg BK153.out); have NB154_153 := Aside0.mk (zgt hg BK153.out); clear BK153 HB; have BK153 := n0_; have HB := n1_; clear n0_ n1_; clear hb hbox hg; have hnb32 := NB153_154.out; have hnc32 := NB154_153.out; have hcz33_0 := zc BK153.out 0; have hcz33_1 := zc BK153.out 1; have hfz33_0 := blk_frozen BK153.out 0; have hfz33_1 := blk_frozen BK153.out 1) | (go_at_call 86; (with_reducible refine (word_Bytes.calls a0_0 a0_1 a3 t155 _ A5.out).mono ?_); rintro e w34 ⟨rfl, hb⟩; have n0_ := Aside0.mk (zbb BK153.out hb); have n1_ := Aside0.mk (zbb BK154.out hb); have n2_ := Aside0.mk (below_step (zw2 HB.out GE153.out GE154.out) hb); clear BK153 BK154 HB; have BK153 := n0_; have BK154 := n1_; have HB := n2_; clear n0_ n1_ n2_; (try clear hb); (try clear hb2); (try clear hk); (try clear hi); have hcz35_0 := zc BK154.out 0; have hcz35_1 := zc BK154.out 1; have hcz35_2 := zc BK154.out 2; have hcz35_3 := zc BK154.out 3; have hfz35_0 := blk_frozen BK154.out 0; have hfz35_1 := blk_frozen BK154.out 1; have hfz35_2 := blk_frozen BK154.out 2; have hfz35_3 := blk_frozen BK154.out 3; have p156 : 0 ≤ (a2_2 : Int) := zdec; have q156 : a2_2 < (l1.length : Int) := zdec; obtain ⟨ad156, A156_1, c156_1, e156, hx156_0, hx156_1, hl156_1, hi156_1⟩ := at_T76 HR1.out a2_2 p156 q156; cases e156; replace hx156_0 := zh HB.out hx156_0; replace hx156_1 := zh HB.out hx156_1; have HR156_1 := Aside0.mk hi156_1; have HC156_1 := Aside0.mk hl156_1; clear hi156_1 hl156_1; replace p156 := eq_true p156; replace q156 := eq_true q156)); try go_wp2_with (first | ((with_reducible refine gate_dst (N := 4) rfl ?_); refine zbox (N := 4) (cs := #[.bool a0_0, .int .i64 a0_1]) (t := 29) ?_; intro gb153 hg w30 hbox hb; have n0_ := Aside0.mk (below_step (zw0 HB.out) hb); have BK153 := Aside0.mk (hbox); have GW153 := Aside0.mk (zg hg (below_size (zw0 HB.out))); have GE153 := GW153; clear HB; have HB := n0_; clear n0_; clear hb hbox hg) | ((with_reducible refine gate_dst (N := 6) rfl ?_); refine zbox (N := 6) (cs := #[.bool a2_0, .int .i64 a2_1, .int .i64 a2_2, .int .i64 a2_3]) (t := 62) ?_; intro gb154 hg w31 hbox hb; have n0_ := Aside0.mk (zbb BK153.out hb); have n1_ := Aside0.mk (below_step (zw1 HB.out GE153.out) hb); have BK154 := Aside0.mk (hbox); have GW154 := Aside0.mk (zg hg (below_size (zw1 HB.out GE153.out))); have GE154 := GW154; have NB153_154 := Aside0.mk (zlt hg BK153.out); have NB154_153 := Aside0.mk (zgt hg BK153.out); clear BK153 HB; have BK153 := n0_; have HB := n1_; clear n0_ n1_; clear hb hbox hg; have hnb32 := NB153_154.out; have hnc32 := NB154_153.out; have hcz33_0 := zc BK153.out 0; have hcz33_1 := zc BK153.out 1; have hfz33_0 := blk_frozen BK153.out 0; have hfz33_1 := blk_frozen BK153.out 1) | (go_at_call 86; (with_reducible refine (word_Bytes.calls a0_0 a0_1 a3 t155 _ A5.out).mono ?_); rintro e w34 ⟨rfl, hb⟩; have n0_ := Aside0.mk (zbb BK153.out hb); have n1_ := Aside0.mk (zbb BK154.out hb); have n2_ := Aside0.mk (below_step (zw2 HB.out GE153.out GE154.out) hb); clear BK153 BK154 HB; have BK153 := n0_; have BK154 := n1_; have HB := n2_; clear n0_ n1_ n2_; (try clear hb); (try clear hb2); (try clear hk); (try clear hi); have hcz35_0 := zc BK154.out 0; have hcz35_1 := zc BK154.out 1; have hcz35_2 := zc BK154.out 2; have hcz35_3 := zc BK154.out 3; have hfz35_0 := blk_frozen BK154.out 0; have hfz35_1 := blk_frozen BK154.out 1; have hfz35_2 := blk_frozen BK154.out 2; have hfz35_3 := blk_frozen BK154.out 3; have p156 : 0 ≤ (a2_2 : Int) := zdec; have q156 : a2_2 < (l1.length : Int) := zdec; obtain ⟨ad156, A156_1, c156_1, e156, hx156_0, hx156_1, hl156_1, hi156_1⟩ := at_T76 HR1.out a2_2 p156 q156; cases e156; replace hx156_0 := zh HB.out hx156_0; replace hx156_1 := zh HB.out hx156_1; have HR156_1 := Aside0.mk hi156_1; have HC156_1 := Aside0.mk hl156_1; clear hi156_1 hl156_1; replace p156 := eq_true p156; replace q156 := eq_true q156)))
   go_ret
   exact ⟨ze, zw2 HB.out GE153.out GE154.out⟩
  rw [if_pos c8] at H
  have c8b0 : (((rd_T76 l1 a2_2).f0) == 1) = true := beq_iff_eq.mpr c8
  have c8b1 : (((rd_T76 l1 a2_2).f0) != 1) = false := bne_eq_false_iff_eq.mpr c8
  clear c8
  by_cases c9 : (wrap64 (a2_3 + t155)) > (((rd_T76 l1 a2_2).f1).length : Int)
  ·rw [if_pos c9] at H
   have c9b0 : decide ((((rd_T76 l1 a2_2).f1).length : Int) < (wrap64 (a2_3 + t155))) = true := decide_eq_true c9
   clear c9
   obtain rfl := Option.some.inj H
   go_enter Try.func103, Try.ntmps103
   go_wp2_with (first | ((with_reducible refine gate_dst (N := 4) rfl ?_); refine zbox (N := 4) (cs := #[.bool a0_0, .int .i64 a0_1]) (t := 29) ?_; intro gb153 hg w10 hbox hb; have n0_ := Aside0.mk (below_step (zw0 HB.out) hb); have BK153 := Aside0.mk (hbox); have GW153 := Aside0.mk (zg hg (below_size (zw0 HB.out))); have GE153 := GW153; clear HB; have HB := n0_; clear n0_; clear hb hbox hg) | ((with_reducible refine gate_dst (N := 6) rfl ?_); refine zbox (N := 6) (cs := #[.bool a2_0, .int .i64 a2_1, .int .i64 a2_2, .int .i64 a2_3]) (t := 62) ?_; intro gb154 hg w11 hbox hb; have n0_ := Aside0.mk (zbb BK153.out hb); have n1_ := Aside0.mk (below_step (zw1 HB.out GE153.out) hb); have BK154 := Aside0.mk (hbox); have GW154 := Aside0.mk (zg hg (below_size (zw1 HB.out GE153.out))); have GE154 := GW154; have NB153_154 := Aside0.mk (zlt hg BK153.out); have NB154_153 := Aside0.mk (zgt hg BK153.out); clear BK153 HB; have BK153 := n0_; have HB := n1_; clear n0_ n1_; clear hb hbox hg; have hnb12 := NB153_154.out; have hnc12 := NB154_153.out; have hcz13_0 := zc BK153.out 0; have hcz13_1 := zc BK153.out 1; have hfz13_0 := blk_frozen BK153.out 0; have hfz13_1 := blk_frozen BK153.out 1) | (go_at_call 86; (with_reducible refine (word_Bytes.calls a0_0 a0_1 a3 t155 _ A5.out).mono ?_); rintro e w14 ⟨rfl, hb⟩; have n0_ := Aside0.mk (zbb BK153.out hb); have n1_ := Aside0.mk (zbb BK154.out hb); have n2_ := Aside0.mk (below_step (zw2 HB.out GE153.out GE154.out) hb); clear BK153 BK154 HB; have BK153 := n0_; have BK154 := n1_; have HB := n2_; clear n0_ n1_ n2_; (try clear hb); (try clear hb2); (try clear hk); (try clear hi); have hcz15_0 := zc BK154.out 0; have hcz15_1 := zc BK154.out 1; have hcz15_2 := zc BK154.out 2; have hcz15_3 := zc BK154.out 3; have hfz15_0 := blk_frozen BK154.out 0; have hfz15_1 := blk_frozen BK154.out 1; have hfz15_2 := blk_frozen BK154.out 2; have hfz15_3 := blk_frozen BK154.out 3; have p156 : 0 ≤ (a2_2 : Int) := zdec; have q156 : a2_2 < (l1.length : Int) := zdec; obtain ⟨ad156, A156_1, c156_1, e156, hx156_0, hx156_1, hl156_1, hi156_1⟩ := at_T76 HR1.out a2_2 p156 q156; cases e156; replace hx156_0 := zh HB.out hx156_0; replace hx156_1 := zh HB.out hx156_1; have HR156_1 := Aside0.mk hi156_1; have HC156_1 := Aside0.mk hl156_1; clear hi156_1 hl156_1; replace p156 := eq_true p156; replace q156 := eq_true q156; have p157 : 0 ≤ (a2_2 : Int) := zdec; have q157 : a2_2 < (l1.length : Int) := zdec; obtain ⟨ad157, A157_1, c157_1, e157, hx157_0, hx157_1, hl157_1, hi157_1⟩ := at_T76 HR1.out a2_2 p157 q157; obtain rfl : ad156 = ad157 := (by injection e157); replace hx157_0 := zh HB.out hx157_0; replace hx157_1 := zh HB.out hx157_1; have HR157_1 := Aside0.mk hi157_1; have HC157_1 := Aside0.mk hl157_1; clear hi157_1 hl157_1; replace p157 := eq_true p157; replace q157 := eq_true q157; have ea_ := Option.some.inj (hx156_1.symm.trans hx157_1); injection ea_ with ea_ en_ ec_; subst ea_; subst ec_; clear en_))
   repeat (go_quiet (first | ((with_reducible refine gate_dst (N := 4) rfl ?_); refine zbox (N := 4) (cs := #[.bool a0_0, .int .i64 a0_1]) (t := 29) ?_; intro gb153 hg w10 hbox hb; have n0_ := Aside0.mk (below_step (zw0 HB.out) hb); have BK153 := Aside0.mk (hbox); have GW153 := Aside0.mk (zg hg (below_size (zw0 HB.out))); have GE153 := GW153; clear HB; have HB := n0_; clear n0_; clear hb hbox hg) | ((with_reducible refine gate_dst (N := 6) rfl ?_); refine zbox (N := 6) (cs := #[.bool a2_0, .int .i64 a2_1, .int .i64 a2_2, .int .i64 a2_3]) (t := 62) ?_; intro gb154 hg w11 hbox hb; have n0_ := Aside0.mk (zbb BK153.out hb); have n1_ := Aside0.mk (below_step (zw1 HB.out GE153.out) hb); have BK154 := Aside0.mk (hbox); have GW154 := Aside0.mk (zg hg (below_size (zw1 HB.out GE153.out))); have GE154 := GW154; have NB153_154 := Aside0.mk (zlt hg BK153.out); have NB154_153 := Aside0.mk (zgt hg BK153.out); clear BK153 HB; have BK153 := n0_; have HB := n1_; clear n0_ n1_; clear hb hbox hg; have hnb12 := NB153_154.out; have hnc12 := NB154_153.out; have hcz13_0 := zc BK153.out 0; have hcz13_1 := zc BK153.out 1; have hfz13_0 := blk_frozen BK153.out 0; have hfz13_1 := blk_frozen BK153.out 1) | (go_at_call 86; (with_reducible refine (word_Bytes.calls a0_0 a0_1 a3 t155 _ A5.out).mono ?_); rintro e w14 ⟨rfl, hb⟩; have n0_ := Aside0.mk (zbb BK153.out hb); have n1_ := Aside0.mk (zbb BK154.out hb); have n2_ := Aside0.mk (below_step (zw2 HB.out GE153.out GE154.out) hb); clear BK153 BK154 HB; have BK153 := n0_; have BK154 := n1_; have HB := n2_; clear n0_ n1_ n2_; (try clear hb); (try clear hb2); (try clear hk); (try clear hi); have hcz15_0 := zc BK154.out 0; have hcz15_1 := zc BK154.out 1; have hcz15_2 := zc BK154.out 2; have hcz15_3 := zc BK154.out 3; have hfz15_0 := blk_frozen BK154.out 0; have hfz15_1 := blk_frozen BK154.out 1; have hfz15_2 := blk_frozen BK154.out 2; have hfz15_3 := blk_frozen BK154.out 3; have p156 : 0 ≤ (a2_2 : Int) := zdec; have q156 : a2_2 < (l1.length : Int) := zdec; obtain ⟨ad156, A156_1, c156_1, e156, hx156_0, hx156_1, hl156_1, hi156_1⟩ := at_T76 HR1.out a2_2 p156 q156; cases e156; replace hx156_0 := zh HB.out hx156_0; replace hx156_1 := zh HB.out hx156_1; have HR156_1 := Aside0.mk hi156_1; have HC156_1 := Aside0.mk hl156_1; clear hi156_1 hl156_1; replace p156 := eq_true p156; replace q156 := eq_true q156; have p157 : 0 ≤ (a2_2 : Int) := zdec; have q157 : a2_2 < (l1.length : Int) := zdec; obtain ⟨ad157, A157_1, c157_1, e157, hx157_0, hx157_1, hl157_1, hi157_1⟩ := at_T76 HR1.out a2_2 p157 q157; obtain rfl : ad156 = ad157 := (by injection e157); replace hx157_0 := zh HB.out hx157_0; replace hx157_1 := zh HB.out hx157_1; have HR157_1 := Aside0.mk hi157_1; have HC157_1 := Aside0.mk hl157_1; clear hi157_1 hl157_1; replace p157 := eq_true p157; replace q157 := eq_true q157; have ea_ := Option.some.inj (hx156_1.symm.trans hx157_1); injection ea_ with ea_ en_ ec_; subst ea_; subst ec_; clear en_)); try go_wp2_with (first | ((with_reducible refine gate_dst (N := 4) rfl ?_); refine zbox (N := 4) (cs := #[.bool a0_0, .int .i64 a0_1]) (t := 29) ?_; intro gb153 hg w10 hbox hb; have n0_ := Aside0.mk (below_step (zw0 HB.out) hb); have BK153 := Aside0.mk (hbox); have GW153 := Aside0.mk (zg hg (below_size (zw0 HB.out))); have GE153 := GW153; clear HB; have HB := n0_; clear n0_; clear hb hbox hg) | ((with_reducible refine gate_dst (N := 6) rfl ?_); refine zbox (N := 6) (cs := #[.bool a2_0, .int .i64 a2_1, .int .i64 a2_2, .int .i64 a2_3]) (t := 62) ?_; intro gb154 hg w11 hbox hb; have n0_ := Aside0.mk (zbb BK153.out hb); have n1_ := Aside0.mk (below_step (zw1 HB.out GE153.out) hb); have BK154 := Aside0.mk (hbox); have GW154 := Aside0.mk (zg hg (below_size (zw1 HB.out GE153.out))); have GE154 := GW154; have NB153_154 := Aside0.mk (zlt hg BK153.out); have NB154_153 := Aside0.mk (zgt hg BK153.out); clear BK153 HB; have BK153 := n0_; have HB := n1_; clear n0_ n1_; clear hb hbox hg; have hnb12 := NB153_154.out; have hnc12 := NB154_153.out; have hcz13_0 := zc BK153.out 0; have hcz13_1 := zc BK153.out 1; have hfz13_0 := blk_frozen BK153.out 0; have hfz13_1 := blk_frozen BK153.out 1) | (go_at_call 86; (with_reducible refine (word_Bytes.calls a0_0 a0_1 a3 t155 _ A5.out).mono ?_); rintro e w14 ⟨rfl, hb⟩; have n0_ := Aside0.mk (zbb BK153.out hb); have n1_ := Aside0.mk (zbb BK154.out hb); have n2_ := Aside0.mk (below_step (zw2 HB.out GE153.out GE154.out) hb); clear BK153 BK154 HB; have BK153 := n0_; have BK154 := n1_; have HB := n2_; clear n0_ n1_ n2_; (try clear hb); (try clear hb2); (try clear hk); (try clear hi); have hcz15_0 := zc BK154.out 0; have hcz15_1 := zc BK154.out 1; have hcz15_2 := zc BK154.out 2; have hcz15_3 := zc BK154.out 3; have hfz15_0 := blk_frozen BK154.out 0; have hfz15_1 := blk_frozen BK154.out 1; have hfz15_2 := blk_frozen BK154.out 2; have hfz15_3 := blk_frozen BK154.out 3; have p156 : 0 ≤ (a2_2 : Int) := zdec; have q156 : a2_2 < (l1.length : Int) := zdec; obtain ⟨ad156, A156_1, c156_1, e156, hx156_0, hx156_1, hl156_1, hi156_1⟩ := at_T76 HR1.out a2_2 p156 q156; cases e156; replace hx156_0 := zh HB.out hx156_0; replace hx156_1 := zh HB.out hx156_1; have HR156_1 := Aside0.mk hi156_1; have HC156_1 := Aside0.mk hl156_1; clear hi156_1 hl156_1; replace p156 := eq_true p156; replace q156 := eq_true q156; have p157 : 0 ≤ (a2_2 : Int) := zdec; have q157 : a2_2 < (l1.length : Int) := zdec; obtain ⟨ad157, A157_1, c157_1, e157, hx157_0, hx157_1, hl157_1, hi157_1⟩ := at_T76 HR1.out a2_2 p157 q157; obtain rfl : ad156 = ad157 := (by injection e157); replace hx157_0 := zh HB.out hx157_0; replace hx157_1 := zh HB.out hx157_1; have HR157_1 := Aside0.mk hi157_1; have HC157_1 := Aside0.mk hl157_1; clear hi157_1 hl157_1; replace p157 := eq_true p157; replace q157 := eq_true q157; have ea_ := Option.some.inj (hx156_1.symm.trans hx157_1); injection ea_ with ea_ en_ ec_; subst ea_; subst ec_; clear en_)))
   go_ret
   exact ⟨ze, zw2 HB.out GE153.out GE154.out⟩
  rw [if_neg c9] at H
  have c9b0 : decide ((((rd_T76 l1 a2_2).f1).length : Int) < (wrap64 (a2_3 + t155))) = false := decide_eq_false c9
  clear c9
  by_cases c16 : t155 = 0
  ·rw [if_pos c16] at H
   exact absurd H (by simp)
  rw [if_neg c16] at H
  have c16b0 : (t155 == 0) = false := beq_eq_false_iff_ne.mpr c16
  have c16b1 : (t155 != 0) = true := bne_iff_ne.mpr c16
  by_cases c17 : (Int.tmod a2_3 t155) = 0
  rotate_left
  ·rw [if_neg c17] at H
   have c17b0 : ((Int.tmod a2_3 t155) == 0) = false := beq_eq_false_iff_ne.mpr c17
   have c17b1 : ((Int.tmod a2_3 t155) != 0) = true := bne_iff_ne.mpr c17
   obtain rfl := Option.some.inj H
   go_enter Try.func103, Try.ntmps103
   go_wp2_with (first | ((with_reducible refine gate_dst (N := 4) rfl ?_); refine zbox (N := 4) (cs := #[.bool a0_0, .int .i64 a0_1]) (t := 29) ?_; intro gb153 hg w24 hbox hb; have n0_ := Aside0.mk (below_step (zw0 HB.out) hb); have BK153 := Aside0.mk (hbox); have GW153 := Aside0.mk (zg hg (below_size (zw0 HB.out))); have GE153 := GW153; clear HB; have HB := n0_; clear n0_; clear hb hbox hg) | ((with_reducible refine gate_dst (N := 6) rfl ?_); refine zbox (N := 6) (cs := #[.bool a2_0, .int .i64 a2_1, .int .i64 a2_2, .int .i64 a2_3]) (t := 62) ?_; intro gb154 hg w25 hbox hb; have n0_ := Aside0.mk (zbb BK153.out hb); have n1_ := Aside0.mk (below_step (zw1 HB.out GE153.out) hb); have BK154 := Aside0.mk (hbox); have GW154 := Aside0.mk (zg hg (below_size (zw1 HB.out GE153.out))); have GE154 := GW154; have NB153_154 := Aside0.mk (zlt hg BK153.out); have NB154_153 := Aside0.mk (zgt hg BK153.out); clear BK153 HB; have BK153 := n0_; have HB := n1_; clear n0_ n1_; clear hb hbox hg; have hnb26 := NB153_154.out; have hnc26 := NB154_153.out; have hcz27_0 := zc BK153.out 0; have hcz27_1 := zc BK153.out 1; have hfz27_0 := blk_frozen BK153.out 0; have hfz27_1 := blk_frozen BK153.out 1) | (go_at_call 86; (with_reducible refine (word_Bytes.calls a0_0 a0_1 a3 t155 _ A5.out).mono ?_); rintro e w28 ⟨rfl, hb⟩; have n0_ := Aside0.mk (zbb BK153.out hb); have n1_ := Aside0.mk (zbb BK154.out hb); have n2_ := Aside0.mk (below_step (zw2 HB.out GE153.out GE154.out) hb); clear BK153 BK154 HB; have BK153 := n0_; have BK154 := n1_; have HB := n2_; clear n0_ n1_ n2_; (try clear hb); (try clear hb2); (try clear hk); (try clear hi); have hcz29_0 := zc BK154.out 0; have hcz29_1 := zc BK154.out 1; have hcz29_2 := zc BK154.out 2; have hcz29_3 := zc BK154.out 3; have hfz29_0 := blk_frozen BK154.out 0; have hfz29_1 := blk_frozen BK154.out 1; have hfz29_2 := blk_frozen BK154.out 2; have hfz29_3 := blk_frozen BK154.out 3; have p156 : 0 ≤ (a2_2 : Int) := zdec; have q156 : a2_2 < (l1.length : Int) := zdec; obtain ⟨ad156, A156_1, c156_1, e156, hx156_0, hx156_1, hl156_1, hi156_1⟩ := at_T76 HR1.out a2_2 p156 q156; cases e156; replace hx156_0 := zh HB.out hx156_0; replace hx156_1 := zh HB.out hx156_1; have HR156_1 := Aside0.mk hi156_1; have HC156_1 := Aside0.mk hl156_1; clear hi156_1 hl156_1; replace p156 := eq_true p156; replace q156 := eq_true q156; have p157 : 0 ≤ (a2_2 : Int) := zdec; have q157 : a2_2 < (l1.length : Int) := zdec; obtain ⟨ad157, A157_1, c157_1, e157, hx157_0, hx157_1, hl157_1, hi157_1⟩ := at_T76 HR1.out a2_2 p157 q157; obtain rfl : ad156 = ad157 := (by injection e157); replace hx157_0 := zh HB.out hx157_0; replace hx157_1 := zh HB.out hx157_1; have HR157_1 := Aside0.mk hi157_1; have HC157_1 := Aside0.mk hl157_1; clear hi157_1 hl157_1; replace p157 := eq_true p157; replace q157 := eq_true q157; have ea_ := Option.some.inj (hx156_1.symm.trans hx157_1); injection ea_ with ea_ en_ ec_; subst ea_; subst ec_; clear en_))
   repeat (go_quiet (first | ((with_reducible refine gate_dst (N := 4) rfl ?_); refine zbox (N := 4) (cs := #[.bool a0_0, .int .i64 a0_1]) (t := 29) ?_; intro gb153 hg w24 hbox hb; have n0_ := Aside0.mk (below_step (zw0 HB.out) hb); have BK153 := Aside0.mk (hbox); have GW153 := Aside0.mk (zg hg (below_size (zw0 HB.out))); have GE153 := GW153; clear HB; have HB := n0_; clear n0_; clear hb hbox hg) | ((with_reducible refine gate_dst (N := 6) rfl ?_); refine zbox (N := 6) (cs := #[.bool a2_0, .int .i64 a2_1, .int .i64 a2_2, .int .i64 a2_3]) (t := 62) ?_; intro gb154 hg w25 hbox hb; have n0_ := Aside0.mk (zbb BK153.out hb); have n1_ := Aside0.mk (below_step (zw1 HB.out GE153.out) hb); have BK154 := Aside0.mk (hbox); have GW154 := Aside0.mk (zg hg (below_size (zw1 HB.out GE153.out))); have GE154 := GW154; have NB153_154 := Aside0.mk (zlt hg BK153.out); have NB154_153 := Aside0.mk (zgt hg BK153.out); clear BK153 HB; have BK153 := n0_; have HB := n1_; clear n0_ n1_; clear hb hbox hg; have hnb26 := NB153_154.out; have hnc26 := NB154_153.out; have hcz27_0 := zc BK153.out 0; have hcz27_1 := zc BK153.out 1; have hfz27_0 := blk_frozen BK153.out 0; have hfz27_1 := blk_frozen BK153.out 1) | (go_at_call 86; (with_reducible refine (word_Bytes.calls a0_0 a0_1 a3 t155 _ A5.out).mono ?_); rintro e w28 ⟨rfl, hb⟩; have n0_ := Aside0.mk (zbb BK153.out hb); have n1_ := Aside0.mk (zbb BK154.out hb); have n2_ := Aside0.mk (below_step (zw2 HB.out GE153.out GE154.out) hb); clear BK153 BK154 HB; have BK153 := n0_; have BK154 := n1_; have HB := n2_; clear n0_ n1_ n2_; (try clear hb); (try clear hb2); (try clear hk); (try clear hi); have hcz29_0 := zc BK154.out 0; have hcz29_1 := zc BK154.out 1; have hcz29_2 := zc BK154.out 2; have hcz29_3 := zc BK154.out 3; have hfz29_0 := blk_frozen BK154.out 0; have hfz29_1 := blk_frozen BK154.out 1; have hfz29_2 := blk_frozen BK154.out 2; have hfz29_3 := blk_frozen BK154.out 3; have p156 : 0 ≤ (a2_2 : Int) := zdec; have q156 : a2_2 < (l1.length : Int) := zdec; obtain ⟨ad156, A156_1, c156_1, e156, hx156_0, hx156_1, hl156_1, hi156_1⟩ := at_T76 HR1.out a2_2 p156 q156; cases e156; replace hx156_0 := zh HB.out hx156_0; replace hx156_1 := zh HB.out hx156_1; have HR156_1 := Aside0.mk hi156_1; have HC156_1 := Aside0.mk hl156_1; clear hi156_1 hl156_1; replace p156 := eq_true p156; replace q156 := eq_true q156; have p157 : 0 ≤ (a2_2 : Int) := zdec; have q157 : a2_2 < (l1.length : Int) := zdec; obtain ⟨ad157, A157_1, c157_1, e157, hx157_0, hx157_1, hl157_1, hi157_1⟩ := at_T76 HR1.out a2_2 p157 q157; obtain rfl : ad156 = ad157 := (by injection e157); replace hx157_0 := zh HB.out hx157_0; replace hx157_1 := zh HB.out hx157_1; have HR157_1 := Aside0.mk hi157_1; have HC157_1 := Aside0.mk hl157_1; clear hi157_1 hl157_1; replace p157 := eq_true p157; replace q157 := eq_true q157; have ea_ := Option.some.inj (hx156_1.symm.trans hx157_1); injection ea_ with ea_ en_ ec_; subst ea_; subst ec_; clear en_)); try go_wp2_with (first | ((with_reducible refine gate_dst (N := 4) rfl ?_); refine zbox (N := 4) (cs := #[.bool a0_0, .int .i64 a0_1]) (t := 29) ?_; intro gb153 hg w24 hbox hb; have n0_ := Aside0.mk (below_step (zw0 HB.out) hb); have BK153 := Aside0.mk (hbox); have GW153 := Aside0.mk (zg hg (below_size (zw0 HB.out))); have GE153 := GW153; clear HB; have HB := n0_; clear n0_; clear hb hbox hg) | ((with_reducible refine gate_dst (N := 6) rfl ?_); refine zbox (N := 6) (cs := #[.bool a2_0, .int .i64 a2_1, .int .i64 a2_2, .int .i64 a2_3]) (t := 62) ?_; intro gb154 hg w25 hbox hb; have n0_ := Aside0.mk (zbb BK153.out hb); have n1_ := Aside0.mk (below_step (zw1 HB.out GE153.out) hb); have BK154 := Aside0.mk (hbox); have GW154 := Aside0.mk (zg hg (below_size (zw1 HB.out GE153.out))); have GE154 := GW154; have NB153_154 := Aside0.mk (zlt hg BK153.out); have NB154_153 := Aside0.mk (zgt hg BK153.out); clear BK153 HB; have BK153 := n0_; have HB := n1_; clear n0_ n1_; clear hb hbox hg; have hnb26 := NB153_154.out; have hnc26 := NB154_153.out; have hcz27_0 := zc BK153.out 0; have hcz27_1 := zc BK153.out 1; have hfz27_0 := blk_frozen BK153.out 0; have hfz27_1 := blk_frozen BK153.out 1) | (go_at_call 86; (with_reducible refine (word_Bytes.calls a0_0 a0_1 a3 t155 _ A5.out).mono ?_); rintro e w28 ⟨rfl, hb⟩; have n0_ := Aside0.mk (zbb BK153.out hb); have n1_ := Aside0.mk (zbb BK154.out hb); have n2_ := Aside0.mk (below_step (zw2 HB.out GE153.out GE154.out) hb); clear BK153 BK154 HB; have BK153 := n0_; have BK154 := n1_; have HB := n2_; clear n0_ n1_ n2_; (try clear hb); (try clear hb2); (try clear hk); (try clear hi); have hcz29_0 := zc BK154.out 0; have hcz29_1 := zc BK154.out 1; have hcz29_2 := zc BK154.out 2; have hcz29_3 := zc BK154.out 3; have hfz29_0 := blk_frozen BK154.out 0; have hfz29_1 := blk_frozen BK154.out 1; have hfz29_2 := blk_frozen BK154.out 2; have hfz29_3 := blk_frozen BK154.out 3; have p156 : 0 ≤ (a2_2 : Int) := zdec; have q156 : a2_2 < (l1.length : Int) := zdec; obtain ⟨ad156, A156_1, c156_1, e156, hx156_0, hx156_1, hl156_1, hi156_1⟩ := at_T76 HR1.out a2_2 p156 q156; cases e156; replace hx156_0 := zh HB.out hx156_0; replace hx156_1 := zh HB.out hx156_1; have HR156_1 := Aside0.mk hi156_1; have HC156_1 := Aside0.mk hl156_1; clear hi156_1 hl156_1; replace p156 := eq_true p156; replace q156 := eq_true q156; have p157 : 0 ≤ (a2_2 : Int) := zdec; have q157 : a2_2 < (l1.length : Int) := zdec; obtain ⟨ad157, A157_1, c157_1, e157, hx157_0, hx157_1, hl157_1, hi157_1⟩ := at_T76 HR1.out a2_2 p157 q157; obtain rfl : ad156 = ad157 := (by injection e157); replace hx157_0 := zh HB.out hx157_0; replace hx157_1 := zh HB.out hx157_1; have HR157_1 := Aside0.mk hi157_1; have HC157_1 := Aside0.mk hl157_1; clear hi157_1 hl157_1; replace p157 := eq_true p157; replace q157 := eq_true q157; have ea_ := Option.some.inj (hx156_1.symm.trans hx157_1); injection ea_ with ea_ en_ ec_; subst ea_; subst ec_; clear en_)))
   go_ret
   exact ⟨ze, zw2 HB.out GE153.out GE154.out⟩
  rw [if_pos c17] at H
  have c17b0 : ((Int.tmod a2_3 t155) == 0) = true := beq_iff_eq.mpr c17
  have c17b1 : ((Int.tmod a2_3 t155) != 0) = false := bne_eq_false_iff_eq.mpr c17
  clear c17
  obtain rfl := Option.some.inj H
  go_enter Try.func103, Try.ntmps103
  go_wp2_with (first | ((with_reducible refine gate_dst (N := 4) rfl ?_); refine zbox (N := 4) (cs := #[.bool a0_0, .int .i64 a0_1]) (t := 29) ?_; intro gb153 hg w18 hbox hb; have n0_ := Aside0.mk (below_step (zw0 HB.out) hb); have BK153 := Aside0.mk (hbox); have GW153 := Aside0.mk (zg hg (below_size (zw0 HB.out))); have GE153 := GW153; clear HB; have HB := n0_; clear n0_; clear hb hbox hg) | ((with_reducible refine gate_dst (N := 6) rfl ?_); refine zbox (N := 6) (cs := #[.bool a2_0, .int .i64 a2_1, .int .i64 a2_2, .int .i64 a2_3]) (t := 62) ?_; intro gb154 hg w19 hbox hb; have n0_ := Aside0.mk (zbb BK153.out hb); have n1_ := Aside0.mk (below_step (zw1 HB.out GE153.out) hb); have BK154 := Aside0.mk (hbox); have GW154 := Aside0.mk (zg hg (below_size (zw1 HB.out GE153.out))); have GE154 := GW154; have NB153_154 := Aside0.mk (zlt hg BK153.out); have NB154_153 := Aside0.mk (zgt hg BK153.out); clear BK153 HB; have BK153 := n0_; have HB := n1_; clear n0_ n1_; clear hb hbox hg; have hnb20 := NB153_154.out; have hnc20 := NB154_153.out; have hcz21_0 := zc BK153.out 0; have hcz21_1 := zc BK153.out 1; have hfz21_0 := blk_frozen BK153.out 0; have hfz21_1 := blk_frozen BK153.out 1) | (go_at_call 86; (with_reducible refine (word_Bytes.calls a0_0 a0_1 a3 t155 _ A5.out).mono ?_); rintro e w22 ⟨rfl, hb⟩; have n0_ := Aside0.mk (zbb BK153.out hb); have n1_ := Aside0.mk (zbb BK154.out hb); have n2_ := Aside0.mk (below_step (zw2 HB.out GE153.out GE154.out) hb); clear BK153 BK154 HB; have BK153 := n0_; have BK154 := n1_; have HB := n2_; clear n0_ n1_ n2_; (try clear hb); (try clear hb2); (try clear hk); (try clear hi); have hcz23_0 := zc BK154.out 0; have hcz23_1 := zc BK154.out 1; have hcz23_2 := zc BK154.out 2; have hcz23_3 := zc BK154.out 3; have hfz23_0 := blk_frozen BK154.out 0; have hfz23_1 := blk_frozen BK154.out 1; have hfz23_2 := blk_frozen BK154.out 2; have hfz23_3 := blk_frozen BK154.out 3; have p156 : 0 ≤ (a2_2 : Int) := zdec; have q156 : a2_2 < (l1.length : Int) := zdec; obtain ⟨ad156, A156_1, c156_1, e156, hx156_0, hx156_1, hl156_1, hi156_1⟩ := at_T76 HR1.out a2_2 p156 q156; cases e156; replace hx156_0 := zh HB.out hx156_0; replace hx156_1 := zh HB.out hx156_1; have HR156_1 := Aside0.mk hi156_1; have HC156_1 := Aside0.mk hl156_1; clear hi156_1 hl156_1; replace p156 := eq_true p156; replace q156 := eq_true q156; have p157 : 0 ≤ (a2_2 : Int) := zdec; have q157 : a2_2 < (l1.length : Int) := zdec; obtain ⟨ad157, A157_1, c157_1, e157, hx157_0, hx157_1, hl157_1, hi157_1⟩ := at_T76 HR1.out a2_2 p157 q157; obtain rfl : ad156 = ad157 := (by injection e157); replace hx157_0 := zh HB.out hx157_0; replace hx157_1 := zh HB.out hx157_1; have HR157_1 := Aside0.mk hi157_1; have HC157_1 := Aside0.mk hl157_1; clear hi157_1 hl157_1; replace p157 := eq_true p157; replace q157 := eq_true q157; have ea_ := Option.some.inj (hx156_1.symm.trans hx157_1); injection ea_ with ea_ en_ ec_; subst ea_; subst ec_; clear en_))
  repeat (go_quiet (first | ((with_reducible refine gate_dst (N := 4) rfl ?_); refine zbox (N := 4) (cs := #[.bool a0_0, .int .i64 a0_1]) (t := 29) ?_; intro gb153 hg w18 hbox hb; have n0_ := Aside0.mk (below_step (zw0 HB.out) hb); have BK153 := Aside0.mk (hbox); have GW153 := Aside0.mk (zg hg (below_size (zw0 HB.out))); have GE153 := GW153; clear HB; have HB := n0_; clear n0_; clear hb hbox hg) | ((with_reducible refine gate_dst (N := 6) rfl ?_); refine zbox (N := 6) (cs := #[.bool a2_0, .int .i64 a2_1, .int .i64 a2_2, .int .i64 a2_3]) (t := 62) ?_; intro gb154 hg w19 hbox hb; have n0_ := Aside0.mk (zbb BK153.out hb); have n1_ := Aside0.mk (below_step (zw1 HB.out GE153.out) hb); have BK154 := Aside0.mk (hbox); have GW154 := Aside0.mk (zg hg (below_size (zw1 HB.out GE153.out))); have GE154 := GW154; have NB153_154 := Aside0.mk (zlt hg BK153.out); have NB154_153 := Aside0.mk (zgt hg BK153.out); clear BK153 HB; have BK153 := n0_; have HB := n1_; clear n0_ n1_; clear hb hbox hg; have hnb20 := NB153_154.out; have hnc20 := NB154_153.out; have hcz21_0 := zc BK153.out 0; have hcz21_1 := zc BK153.out 1; have hfz21_0 := blk_frozen BK153.out 0; have hfz21_1 := blk_frozen BK153.out 1) | (go_at_call 86; (with_reducible refine (word_Bytes.calls a0_0 a0_1 a3 t155 _ A5.out).mono ?_); rintro e w22 ⟨rfl, hb⟩; have n0_ := Aside0.mk (zbb BK153.out hb); have n1_ := Aside0.mk (zbb BK154.out hb); have n2_ := Aside0.mk (below_step (zw2 HB.out GE153.out GE154.out) hb); clear BK153 BK154 HB; have BK153 := n0_; have BK154 := n1_; have HB := n2_; clear n0_ n1_ n2_; (try clear hb); (try clear hb2); (try clear hk); (try clear hi); have hcz23_0 := zc BK154.out 0; have hcz23_1 := zc BK154.out 1; have hcz23_2 := zc BK154.out 2; have hcz23_3 := zc BK154.out 3; have hfz23_0 := blk_frozen BK154.out 0; have hfz23_1 := blk_frozen BK154.out 1; have hfz23_2 := blk_frozen BK154.out 2; have hfz23_3 := blk_frozen BK154.out 3; have p156 : 0 ≤ (a2_2 : Int) := zdec; have q156 : a2_2 < (l1.length : Int) := zdec; obtain ⟨ad156, A156_1, c156_1, e156, hx156_0, hx156_1, hl156_1, hi156_1⟩ := at_T76 HR1.out a2_2 p156 q156; cases e156; replace hx156_0 := zh HB.out hx156_0; replace hx156_1 := zh HB.out hx156_1; have HR156_1 := Aside0.mk hi156_1; have HC156_1 := Aside0.mk hl156_1; clear hi156_1 hl156_1; replace p156 := eq_true p156; replace q156 := eq_true q156; have p157 : 0 ≤ (a2_2 : Int) := zdec; have q157 : a2_2 < (l1.length : Int) := zdec; obtain ⟨ad157, A157_1, c157_1, e157, hx157_0, hx157_1, hl157_1, hi157_1⟩ := at_T76 HR1.out a2_2 p157 q157; obtain rfl : ad156 = ad157 := (by injection e157); replace hx157_0 := zh HB.out hx157_0; replace hx157_1 := zh HB.out hx157_1; have HR157_1 := Aside0.mk hi157_1; have HC157_1 := Aside0.mk hl157_1; clear hi157_1 hl157_1; replace p157 := eq_true p157; replace q157 := eq_true q157; have ea_ := Option.some.inj (hx156_1.symm.trans hx157_1); injection ea_ with ea_ en_ ec_; subst ea_; subst ec_; clear en_)); try go_wp2_with (first | ((with_reducible refine gate_dst (N := 4) rfl ?_); refine zbox (N := 4) (cs := #[.bool a0_0, .int .i64 a0_1]) (t := 29) ?_; intro gb153 hg w18 hbox hb; have n0_ := Aside0.mk (below_step (zw0 HB.out) hb); have BK153 := Aside0.mk (hbox); have GW153 := Aside0.mk (zg hg (below_size (zw0 HB.out))); have GE153 := GW153; clear HB; have HB := n0_; clear n0_; clear hb hbox hg) | ((with_reducible refine gate_dst (N := 6) rfl ?_); refine zbox (N := 6) (cs := #[.bool a2_0, .int .i64 a2_1, .int .i64 a2_2, .int .i64 a2_3]) (t := 62) ?_; intro gb154 hg w19 hbox hb; have n0_ := Aside0.mk (zbb BK153.out hb); have n1_ := Aside0.mk (below_step (zw1 HB.out GE153.out) hb); have BK154 := Aside0.mk (hbox); have GW154 := Aside0.mk (zg hg (below_size (zw1 HB.out GE153.out))); have GE154 := GW154; have NB153_154 := Aside0.mk (zlt hg BK153.out); have NB154_153 := Aside0.mk (zgt hg BK153.out); clear BK153 HB; have BK153 := n0_; have HB := n1_; clear n0_ n1_; clear hb hbox hg; have hnb20 := NB153_154.out; have hnc20 := NB154_153.out; have hcz21_0 := zc BK153.out 0; have hcz21_1 := zc BK153.out 1; have hfz21_0 := blk_frozen BK153.out 0; have hfz21_1 := blk_frozen BK153.out 1) | (go_at_call 86; (with_reducible refine (word_Bytes.calls a0_0 a0_1 a3 t155 _ A5.out).mono ?_); rintro e w22 ⟨rfl, hb⟩; have n0_ := Aside0.mk (zbb BK153.out hb); have n1_ := Aside0.mk (zbb BK154.out hb); have n2_ := Aside0.mk (below_step (zw2 HB.out GE153.out GE154.out) hb); clear BK153 BK154 HB; have BK153 := n0_; have BK154 := n1_; have HB := n2_; clear n0_ n1_ n2_; (try clear hb); (try clear hb2); (try clear hk); (try clear hi); have hcz23_0 := zc BK154.out 0; have hcz23_1 := zc BK154.out 1; have hcz23_2 := zc BK154.out 2; have hcz23_3 := zc BK154.out 3; have hfz23_0 := blk_frozen BK154.out 0; have hfz23_1 := blk_frozen BK154.out 1; have hfz23_2 := blk_frozen BK154.out 2; have hfz23_3 := blk_frozen BK154.out 3; have p156 : 0 ≤ (a2_2 : Int) := zdec; have q156 : a2_2 < (l1.length : Int) := zdec; obtain ⟨ad156, A156_1, c156_1, e156, hx156_0, hx156_1, hl156_1, hi156_1⟩ := at_T76 HR1.out a2_2 p156 q156; cases e156; replace hx156_0 := zh HB.out hx156_0; replace hx156_1 := zh HB.out hx156_1; have HR156_1 := Aside0.mk hi156_1; have HC156_1 := Aside0.mk hl156_1; clear hi156_1 hl156_1; replace p156 := eq_true p156; replace q156 := eq_true q156; have p157 : 0 ≤ (a2_2 : Int) := zdec; have q157 : a2_2 < (l1.length : Int) := zdec; obtain ⟨ad157, A157_1, c157_1, e157, hx157_0, hx157_1, hl157_1, hi157_1⟩ := at_T76 HR1.out a2_2 p157 q157; obtain rfl : ad156 = ad157 := (by injection e157); replace hx157_0 := zh HB.out hx157_0; replace hx157_1 := zh HB.out hx157_1; have HR157_1 := Aside0.mk hi157_1; have HC157_1 := Aside0.mk hl157_1; clear hi157_1 hl157_1; replace p157 := eq_true p157; replace q157 := eq_true q157; have ea_ := Option.some.inj (hx156_1.symm.trans hx157_1); injection ea_ with ea_ en_ ec_; subst ea_; subst ec_; clear en_)))
  go_ret
  exact ⟨ze, zw2 HB.out GE153.out GE154.out⟩
 ·rw [if_neg c6] at H
  exact absurd H (by simp)

/-! api_Byte_118 -/
def api_Byte_118.l0 : Nat → List (S74) → Int → Int → Option ((List (S74)))
 | 0, _, _, _ => none
 | k + 1, x0, x2, x3 => if x2 < x3 then (if 0 ≤ x3 then (if x3 < (x0.length : Int) then (if 0 ≤ x2 then (if x2 < (x0.length : Int) then (api_Byte_118.l0 k ((x0.set (x2 : Int).toNat (⟨(rd_T74 x0 x3).f0, (rd_T74 x0 x3).f1, (rd_T74 x0 x3).f2, (rd_T74 x0 x3).f3, (rd_T74 x0 x3).f4⟩ : S74)).set (x3 : Int).toNat (⟨(rd_T74 x0 x2).f0, (rd_T74 x0 x2).f1, (rd_T74 x0 x2).f2, (rd_T74 x0 x2).f3, (rd_T74 x0 x2).f4⟩ : S74)) (wrap64 (x2 + 1)) (wrap64 (x3 - 1))) else (none)) else (none)) else (none)) else (none)) else (some x0)
def api_Byte_118.f (k : Nat) (l0 : List (S74)) : Option ((List (S74))) := api_Byte_118.l0 k l0 0 (wrap64 ((l0.length : Int) - 1))
theorem api_Byte_118.mono_l : ∀ k, (∀ y0 y1 y2, LeO (api_Byte_118.l0 k y0 y1 y2) (api_Byte_118.l0 (k + 1) y0 y1 y2))
 | 0 => fun _ _ _ r h => by simp [api_Byte_118.l0] at h
 | k + 1 => by
  have ih0 := api_Byte_118.mono_l k
  ·intro y0 y1 y2
   unfold api_Byte_118.l0
   repeat' first
   | (with_reducible apply ih0)
   | (with_reducible apply LeO.refl)
   | (with_reducible apply LeO.none)
   | (with_reducible refine LeO.ite ?_ ?_)
   | (with_reducible refine LeO.bind ?_ (fun _ => ?_))
theorem api_Byte_118.mono : ∀ a0 k, LeO (api_Byte_118.f k a0) (api_Byte_118.f (k + 1) a0) := by
 intro a0 k
 have ih0 := api_Byte_118.mono_l k
 unfold api_Byte_118.f
 repeat' first
   | (with_reducible apply ih0)
   | (with_reducible apply LeO.refl)
   | (with_reducible apply LeO.none)
   | (with_reducible refine LeO.ite ?_ ?_)
   | (with_reducible refine LeO.bind ?_ (fun _ => ?_))
def api_Byte_118.T3 : Bool × List (List Nat × List Nat) := (true, [([], []), ([], []), ([], []), ([], []), ([], []), ([], []), ([4, 5], [4, 5]), ([6], [6]), ([], []), ([], []), ([8, 9], [8, 9]), ([10], [10]), ([0, 1, 0, 1, 4, 5, 6, 7, 11], [0, 1]), ([12, 7, 0, 1, 4, 5, 6, 7, 11], [7, 12]), ([2, 3, 0, 1, 2, 3, 4, 5, 6, 7, 8, 9, 10, 11, 12, 13], [2, 3]), ([14, 11, 13, 0, 1, 2, 3, 4, 5, 6, 7, 8, 9, 10, 11, 12, 13], [11, 14])])
def api_Byte_118.B3 : List Nat := [0, 0, 0, 0, 0, 0, 48, 112, 0, 0, 768, 1792, 4083, 8179, 16383, 32767]
theorem api_Byte_118.tab3 : rtab .any (opsOf Try.f118 3) = api_Byte_118.T3 := by kernel_rfl
theorem api_Byte_118.bits3 : waitsOk api_Byte_118.T3.2 api_Byte_118.B3 = true := by kernel_rfl
set_option maxHeartbeats 8000000 in
set_option maxRecDepth 100000 in
theorem api_Byte_118.calls (k : Nat) (P0_ : Nat → Prop) (u9000_ : Value) (l0 : List (S74)) (r : List (S74)) (w0 w : World) (hB : Below w0.heap.size w0 w) (ho0 : Kd.R k74 74 w w0.heap.size P0_ u9000_ l0) (h : api_Byte_118.f k l0 = some r) :
  Calls Try.prog 118 #[u9000_] w fun e w' => e = .returned (.tuple #[]) ∧ Kd.R k74 74 w' w0.heap.size (fun k_ => (P0_ k_ ∨ w.heap.size ≤ k_)) u9000_ r ∧ Below w0.heap.size w0 w' ∧ Kept w w' (fun k_ => P0_ k_) := by
 have hu74 := Try.underlying74
 have HO0 := Aside0.mk (show Kd.R k74 74 w w0.heap.size (fun k_ => (P0_ k_ ∨ w.heap.size ≤ k_)) u9000_ l0 from Kd.R_mono ho0 (fun k_ hk => (.inl hk)))
 have HK := Aside0.mk (Kept.refl w (fun k_ => P0_ k_))
 have HW0 := Aside0.mk hB.size
 have HB := Aside0.mk hB
 clear hB
 have H : (api_Byte_118.l0 k l0 0 (wrap64 ((l0.length : Int) - 1))) = some r := h
 clear h
 have H' := Aside0.mk H
 clear H
 obtain ⟨Ao2, co2, eo2⟩ := Kd.R_slice HO0.out
 subst eo2
 go_enter Try.func118, Try.ntmps118
 go_wp2
 go_loopg [2, 3] k (fun kq v2 v3 w' => ∃ (x0_1 : List (S74)) (x2_1 : Int) (x3_1 : Int), v2 = .int .i64 x2_1 ∧ v3 = .int .i64 x3_1 ∧ Aside0 (api_Byte_118.l0 kq x0_1 x2_1 x3_1 = some r) ∧ Aside0 (kq ≤ k) ∧ Aside0 (Kd.R k74 74 w' w0.heap.size (fun k_ => (P0_ k_ ∨ w.heap.size ≤ k_)) (.slice Ao2 l0.length co2) x0_1) ∧ Aside0 (Kept w w' (fun k_ => P0_ k_)) ∧ Aside0 (Below w0.heap.size w0 w'))
 case atStart => exact ⟨(l0), (0), (wrap64 ((l0.length : Int) - 1)), (zr), (zr), H', ⟨Nat.le_refl _⟩, ⟨by (with_reducible repeat (first | apply Kd.R_alloc | apply Kd.R_drewN | apply Kd.R_drew)); exact HO0.out⟩, ⟨by repeat (first | (with_reducible first | exact HK.out | apply Kept.alloc | apply Kept.drewN | apply Kept.drew) | exact HK.out)⟩, ⟨zw0 HB.out⟩⟩
 case round =>
  clear H'
  try clear c1; try clear p2
  obtain ⟨x0_1, x2_1, x3_1, rfl, rfl, HA, HK1, HO_0, HK, HB⟩ := hrel
  have hl0_1 := (Kd.R_reads' HO_0.out).1
  rw [hl0_1] at HO_0
  (try simp only [hl0_1])
  cases gk with
  | zero => exact absurd HA.out (by simp [api_Byte_118.l0])
  | succ k1 =>
   have H := HA.out
   clear HA
   simp only [api_Byte_118.l0] at H
   by_cases c3 : x2_1 < x3_1
   ·rw [if_pos c3] at H
    have c3b0 : decide (x2_1 < x3_1) = true := decide_eq_true c3
    clear c3
    by_cases c4 : 0 ≤ x3_1
    rotate_left
    ·rw [if_neg c4] at H
     exact absurd H (by simp)
    rw [if_pos c4] at H
    have c4b0 : decide (0 ≤ x3_1) = true := decide_eq_true c4
    clear c4
    by_cases c5 : x3_1 < (x0_1.length : Int)
    rotate_left
    ·rw [if_neg c5] at H
     exact absurd H (by simp)
    rw [if_pos c5] at H
    have c5b0 : decide (x3_1 < (x0_1.length : Int)) = true := decide_eq_true c5
    clear c5
    by_cases c6 : 0 ≤ x2_1
    rotate_left
    ·rw [if_neg c6] at H
     exact absurd H (by simp)
    rw [if_pos c6] at H
    have c6b0 : decide (0 ≤ x2_1) = true := decide_eq_true c6
    clear c6
    by_cases c7 : x2_1 < (x0_1.length : Int)
    rotate_left
    ·rw [if_neg c7] at H
     exact absurd H (by simp)
    rw [if_pos c7] at H
    have c7b0 : decide (x2_1 < (x0_1.length : Int)) = true := decide_eq_true c7
    clear c7
    obtain ⟨y160, hy160⟩ : ∃ y_ : List (S74), y_ = (x0_1.set (x2_1 : Int).toNat (⟨(rd_T74 x0_1 x3_1).f0, (rd_T74 x0_1 x3_1).f1, (rd_T74 x0_1 x3_1).f2, (rd_T74 x0_1 x3_1).f3, (rd_T74 x0_1 x3_1).f4⟩ : S74)) := ⟨_, rfl⟩
    replace H : (api_Byte_118.l0 k1 (y160.set (x3_1 : Int).toNat (⟨(rd_T74 x0_1 x2_1).f0, (rd_T74 x0_1 x2_1).f1, (rd_T74 x0_1 x2_1).f2, (rd_T74 x0_1 x2_1).f3, (rd_T74 x0_1 x2_1).f4⟩ : S74)) (wrap64 (x2_1 + 1)) (wrap64 (x3_1 - 1))) = some r := by first | (rw [hy160]; with_reducible exact H) | (have H2_ := (Option.bind_some _ _).symm.trans H; rw [hy160]; with_reducible exact H2_) | (have H2_ := (Option.bind_some _ _).symm.trans H; with_reducible exact H2_) | with_reducible exact H | (rw [hy160]; exact H) | exact H
    have Ny160 := Aside0.mk hy160
    clear hy160
    obtain ⟨y161, hy161⟩ : ∃ y_ : List (S74), y_ = (y160.set (x3_1 : Int).toNat (⟨(rd_T74 x0_1 x2_1).f0, (rd_T74 x0_1 x2_1).f1, (rd_T74 x0_1 x2_1).f2, (rd_T74 x0_1 x2_1).f3, (rd_T74 x0_1 x2_1).f4⟩ : S74)) := ⟨_, rfl⟩
    replace H : (api_Byte_118.l0 k1 y161 (wrap64 (x2_1 + 1)) (wrap64 (x3_1 - 1))) = some r := by first | (rw [hy161]; with_reducible exact H) | (have H2_ := (Option.bind_some _ _).symm.trans H; rw [hy161]; with_reducible exact H2_) | (have H2_ := (Option.bind_some _ _).symm.trans H; with_reducible exact H2_) | with_reducible exact H | (rw [hy161]; exact H) | exact H
    have Ny161 := Aside0.mk hy161
    clear hy161
    have H' := Aside0.mk H
    clear H
    try go_wp2
    have n0_ := Aside0.mk (Kd.R_drew HO_0.out)
    have n1_ := Aside0.mk (Kept.drew HK.out)
    have n2_ := Aside0.mk (below_drew1 HB.out)
    clear HO_0
    clear HK
    clear HB
    have HO_0 := n0_
    have HK := n1_
    have HB := n2_
    clear n0_ n1_ n2_
    have p158 : 0 ≤ (x3_1 : Int) := zdec
    have q158 : x3_1 < (x0_1.length : Int) := zdec
    obtain ⟨ad158, e158, hx158_0, hx158_1, hx158_2, hx158_3, hx158_4⟩ := at_T74 (Kd.R_reads' HO_0.out).2.2 x3_1 p158 q158
    cases e158
    replace p158 := eq_true p158
    replace q158 := eq_true q158
    have p159 : 0 ≤ (x2_1 : Int) := zdec
    have q159 : x2_1 < (x0_1.length : Int) := zdec
    obtain ⟨ad159, e159, hx159_0, hx159_1, hx159_2, hx159_3, hx159_4⟩ := at_T74 (Kd.R_reads' HO_0.out).2.2 x2_1 p159 q159
    obtain rfl : ad158 = ad159 := (by injection e159)
    replace p159 := eq_true p159
    replace q159 := eq_true q159
    have p8 : 0 ≤ (x2_1 : Int) := zdec
    have q8 : (x2_1 : Int) < ((x0_1.length : Int) : Int) := zdec
    obtain ⟨go8, co8, eo8, gb8, gl8, cl8, HG8⟩ := Kd.R_form HO_0.out (by omega)
    (first | cases eo8 | (injection eo8 with ea_ en_ ec_; (first | subst ea_ | (injection ea_ with ea_; subst ea_)); subst ec_; clear en_))
    have GB8 := Aside0.mk gb8
    have GG8 := Aside0.mk HG8
    clear gb8 gl8 HG8
    have HMgo8 := Aside0.mk (show (P0_ go8 ∨ w.heap.size ≤ go8) from (HO_0.out.1 _ rfl))
    (first | simp only [add_plain] at hx158_0 | skip)
    (first | simp only [add_plain] at hx158_1 | skip)
    (first | simp only [add_plain] at hx158_2 | skip)
    (first | simp only [add_plain] at hx158_3 | skip)
    (first | simp only [add_plain] at hx158_4 | skip)
    (first | simp only [add_plain] at hx159_0 | skip)
    (first | simp only [add_plain] at hx159_1 | skip)
    (first | simp only [add_plain] at hx159_2 | skip)
    (first | simp only [add_plain] at hx159_3 | skip)
    (first | simp only [add_plain] at hx159_4 | skip)
    obtain ⟨ce8, hcl8, hM8, hcc8, hfr8⟩ := Kd.R_elem HO_0.out z74 (x2_1 : Int) p8 q8
    obtain rfl := k74_openM hM8
    have hx8_0 : World.cell? _ ⟨go8, (x2_1 : Int).toNat * 5, none⟩ = some (.int .i64 ((rd_T74 x0_1 x2_1).f0)) := hcc8 0 _ rfl
    have hx8_1 : World.cell? _ ⟨go8, (x2_1 : Int).toNat * 5 + 1, none⟩ = some (.int .i64 ((rd_T74 x0_1 x2_1).f1)) := hcc8 1 _ rfl
    have hx8_2 : World.cell? _ ⟨go8, (x2_1 : Int).toNat * 5 + 2, none⟩ = some (.int .i64 ((rd_T74 x0_1 x2_1).f2)) := hcc8 2 _ rfl
    have hx8_3 : World.cell? _ ⟨go8, (x2_1 : Int).toNat * 5 + 3, none⟩ = some (.int .i64 ((rd_T74 x0_1 x2_1).f3)) := hcc8 3 _ rfl
    have hx8_4 : World.cell? _ ⟨go8, (x2_1 : Int).toNat * 5 + 4, none⟩ = some (.int .i64 ((rd_T74 x0_1 x2_1).f4)) := hcc8 4 _ rfl
    have hf8_0 : World.frozen? _ ⟨go8, (x2_1 : Int).toNat * 5, none⟩ = false := hfr8 0
    have hf8_1 : World.frozen? _ ⟨go8, (x2_1 : Int).toNat * 5 + 1, none⟩ = false := hfr8 1
    have hf8_2 : World.frozen? _ ⟨go8, (x2_1 : Int).toNat * 5 + 2, none⟩ = false := hfr8 2
    have hf8_3 : World.frozen? _ ⟨go8, (x2_1 : Int).toNat * 5 + 3, none⟩ = false := hfr8 3
    have hf8_4 : World.frozen? _ ⟨go8, (x2_1 : Int).toNat * 5 + 4, none⟩ = false := hfr8 4
    clear hcl8 hcc8 hfr8 hM8
    replace p8 := eq_true p8
    replace q8 := eq_true q8
    obtain ⟨ce11, hcl11, hM11, hcc11, hfr11⟩ := Kd.R_elem HO_0.out z74 (x2_1 : Int) (zdec) (by have h_ : (x2_1 : Int) < ((x0_1.length : Int) : Int) := zdec; first | exact h_ | (have e_ := (Kd.R_reads' HO_0.out).1; omega) | simpa using h_)
    obtain rfl := k74_openM hM11
    have HP11 := (Kd.R_seg HO_0.out (x2_1 : Int) (zdec) (by have h_ : (x2_1 : Int) < ((x0_1.length : Int) : Int) := zdec; first | exact h_ | (have e_ := (Kd.R_reads' HO_0.out).1; omega) | simpa using h_) (seg := [.int .i64 ((rd_T74 x0_1 x3_1).f0), .int .i64 ((rd_T74 x0_1 x3_1).f1), .int .i64 ((rd_T74 x0_1 x3_1).f2), .int .i64 ((rd_T74 x0_1 x3_1).f3), .int .i64 ((rd_T74 x0_1 x3_1).f4)]) (j := 0) hcl11 hcc11 (show 5 ≤ 5 from by decide) (x' := (⟨(rd_T74 x0_1 x3_1).f0, (rd_T74 x0_1 x3_1).f1, (rd_T74 x0_1 x3_1).f2, (rd_T74 x0_1 x3_1).f3, (rd_T74 x0_1 x3_1).f4⟩ : S74)) (k74_mkM _ _ _ (⟨(rd_T74 x0_1 x3_1).f0, (rd_T74 x0_1 x3_1).f1, (rd_T74 x0_1 x3_1).f2, (rd_T74 x0_1 x3_1).f3, (rd_T74 x0_1 x3_1).f4⟩ : S74) ) (fun _ hk => hk)).1
    rw [← Ny160.out] at HP11
    have HQ11 := Aside0.mk HP11
    clear hcl11 hcc11 hfr11 hM11 HP11
    have p9 : 0 ≤ (x3_1 : Int) := zdec
    have q9 : (x3_1 : Int) < ((x0_1.length : Int) : Int) := zdec
    obtain ⟨ce9, hcl9, hM9, hcc9, hfr9⟩ := Kd.R_elem HQ11.out z74 (x3_1 : Int) p9 q9
    obtain rfl := k74_openM hM9
    have hx9_0 : World.cell? _ ⟨go8, (x3_1 : Int).toNat * 5, none⟩ = some (.int .i64 ((rd_T74 y160 x3_1).f0)) := hcc9 0 _ rfl
    have hx9_1 : World.cell? _ ⟨go8, (x3_1 : Int).toNat * 5 + 1, none⟩ = some (.int .i64 ((rd_T74 y160 x3_1).f1)) := hcc9 1 _ rfl
    have hx9_2 : World.cell? _ ⟨go8, (x3_1 : Int).toNat * 5 + 2, none⟩ = some (.int .i64 ((rd_T74 y160 x3_1).f2)) := hcc9 2 _ rfl
    have hx9_3 : World.cell? _ ⟨go8, (x3_1 : Int).toNat * 5 + 3, none⟩ = some (.int .i64 ((rd_T74 y160 x3_1).f3)) := hcc9 3 _ rfl
    have hx9_4 : World.cell? _ ⟨go8, (x3_1 : Int).toNat * 5 + 4, none⟩ = some (.int .i64 ((rd_T74 y160 x3_1).f4)) := hcc9 4 _ rfl
    have hf9_0 : World.frozen? _ ⟨go8, (x3_1 : Int).toNat * 5, none⟩ = false := hfr9 0
    have hf9_1 : World.frozen? _ ⟨go8, (x3_1 : Int).toNat * 5 + 1, none⟩ = false := hfr9 1
    have hf9_2 : World.frozen? _ ⟨go8, (x3_1 : Int).toNat * 5 + 2, none⟩ = false := hfr9 2
    have hf9_3 : World.frozen? _ ⟨go8, (x3_1 : Int).toNat * 5 + 3, none⟩ = false := hfr9 3
    have hf9_4 : World.frozen? _ ⟨go8, (x3_1 : Int).toNat * 5 + 4, none⟩ = false := hfr9 4
    clear hcl9 hcc9 hfr9 hM9
    replace p9 := eq_true p9
    replace q9 := eq_true q9
    obtain ⟨ce12, hcl12, hM12, hcc12, hfr12⟩ := Kd.R_elem HQ11.out z74 (x3_1 : Int) (zdec) (by have h_ : (x3_1 : Int) < ((x0_1.length : Int) : Int) := zdec; first | exact h_ | (have e_ := (Kd.R_reads' HO_0.out).1; omega) | simpa using h_)
    obtain rfl := k74_openM hM12
    have HP12 := (Kd.R_seg HQ11.out (x3_1 : Int) (zdec) (by have h_ : (x3_1 : Int) < ((x0_1.length : Int) : Int) := zdec; first | exact h_ | (have e_ := (Kd.R_reads' HO_0.out).1; omega) | simpa using h_) (seg := [.int .i64 ((rd_T74 x0_1 x2_1).f0), .int .i64 ((rd_T74 x0_1 x2_1).f1), .int .i64 ((rd_T74 x0_1 x2_1).f2), .int .i64 ((rd_T74 x0_1 x2_1).f3), .int .i64 ((rd_T74 x0_1 x2_1).f4)]) (j := 0) hcl12 hcc12 (show 5 ≤ 5 from by decide) (x' := (⟨(rd_T74 x0_1 x2_1).f0, (rd_T74 x0_1 x2_1).f1, (rd_T74 x0_1 x2_1).f2, (rd_T74 x0_1 x2_1).f3, (rd_T74 x0_1 x2_1).f4⟩ : S74)) (k74_mkM _ _ _ (⟨(rd_T74 x0_1 x2_1).f0, (rd_T74 x0_1 x2_1).f1, (rd_T74 x0_1 x2_1).f2, (rd_T74 x0_1 x2_1).f3, (rd_T74 x0_1 x2_1).f4⟩ : S74) ) (fun _ hk => hk)).1
    rw [← Ny161.out] at HP12
    have HQ12 := Aside0.mk HP12
    clear hcl12 hcc12 hfr12 hM12 HP12
    have zlt_ : x2_1.toNat < x3_1.toNat := sw_lt _ _ (of_decide_eq_true (c6b0 : decide (0 ≤ x2_1) = true)) (of_decide_eq_true (c3b0 : decide (x2_1 < x3_1) = true))
    have ze0_ := sw_ne _ _ zlt_
    have zf0_ := sw_ne' _ _ zlt_
    obtain ⟨za0_, zb0_, zc0_, zd0_⟩ := swn 5 _ _ 0 zlt_ (by decide)
    obtain ⟨za1_, zb1_, zc1_, zd1_⟩ := swn 5 _ _ 1 zlt_ (by decide)
    obtain ⟨za2_, zb2_, zc2_, zd2_⟩ := swn 5 _ _ 2 zlt_ (by decide)
    obtain ⟨za3_, zb3_, zc3_, zd3_⟩ := swn 5 _ _ 3 zlt_ (by decide)
    obtain ⟨za4_, zb4_, zc4_, zd4_⟩ := swn 5 _ _ 4 zlt_ (by decide)
    simp only [Nat.add_zero] at za0_ zb0_ zc0_ zd0_
    clear zlt_
    rw [World.frozen?_setCells] at hf9_0 hf9_1 hf9_2 hf9_3 hf9_4
    refine start_ (n := 16) (S := fun w' => w'.cell? ⟨go8, ((x3_1).toNat * 5), none⟩ = some (.int .i64 ((rd_T74 x0_1 x3_1).f0)) ∧ w'.cell? ⟨go8, ((x3_1).toNat * 5) + 1, none⟩ = some (.int .i64 ((rd_T74 x0_1 x3_1).f1)) ∧ w'.cell? ⟨go8, ((x3_1).toNat * 5) + 2, none⟩ = some (.int .i64 ((rd_T74 x0_1 x3_1).f2)) ∧ w'.cell? ⟨go8, ((x3_1).toNat * 5) + 3, none⟩ = some (.int .i64 ((rd_T74 x0_1 x3_1).f3)) ∧ w'.cell? ⟨go8, ((x3_1).toNat * 5) + 4, none⟩ = some (.int .i64 ((rd_T74 x0_1 x3_1).f4)) ∧ w'.cell? ⟨go8, ((x2_1).toNat * 5), none⟩ = some (.int .i64 ((rd_T74 x0_1 x2_1).f0)) ∧ w'.cell? ⟨go8, ((x2_1).toNat * 5) + 1, none⟩ = some (.int .i64 ((rd_T74 x0_1 x2_1).f1)) ∧ w'.cell? ⟨go8, ((x2_1).toNat * 5) + 2, none⟩ = some (.int .i64 ((rd_T74 x0_1 x2_1).f2)) ∧ w'.cell? ⟨go8, ((x2_1).toNat * 5) + 3, none⟩ = some (.int .i64 ((rd_T74 x0_1 x2_1).f3)) ∧ w'.cell? ⟨go8, ((x2_1).toNat * 5) + 4, none⟩ = some (.int .i64 ((rd_T74 x0_1 x2_1).f4))) (ds := [13, 15]) #[false,false,false,false,false,false,false,false,false,false,false,false,false,false,false,false] (by kernel_rfl) rfl rfl ⟨hx158_0, hx158_1, hx158_2, hx158_3, hx158_4, hx159_0, hx159_1, hx159_2, hx159_3, hx159_4⟩ (fun hHeld => ?_); refine with_tabW api_Byte_118.tab3 api_Byte_118.bits3 (fun HT_ HW_ => ?_)
    generalize wr.drew = w10 at HO_0 HK HB GG8 HQ11 HQ12 hf8_0 hf8_1 hf8_2 hf8_3 hf8_4 hf9_0 hf9_1 hf9_2 hf9_3 hf9_4 hx158_0 hx158_1 hx158_2 hx158_3 hx158_4 hx159_0 hx159_1 hx159_2 hx159_3 hx159_4 hx8_0 hx8_1 hx8_2 hx8_3 hx8_4 hx9_0 hx9_1 hx9_2 hx9_3 hx9_4 hHeld ⊢
    refine zq 0 (some 14) HT_ ?_; refine zq 1 (some 15) HT_ ?_; refine zq 2 (some 16) HT_ ?_; refine zq 3 (some 17) HT_ ?_; refine zq 4 (some 18) HT_ ?_; refine zq 5 (some 19) HT_ ?_; refine zq 6 (some 20) HT_ ?_; refine zq 8 (some 22) HT_ ?_; refine zq 9 (some 23) HT_ ?_; refine zq 10 (some 24) HT_ ?_; refine zt 7 (some 21) HT_ HW_ hHeld ?_; refine zt 11 (some 25) HT_ HW_ hHeld ?_; refine zq 12 (some 26) HT_ ?_
    refine last_ (i := 13) (N := none) #[true,true,true,true,true,true,true,true,true,true,true,true,true,true,false,false] rfl rfl (one_of HT_.out (by kernel_rfl)) (by decide) (fun K hK => ?_)
    refine skip_ (w1 := ?_) (by rfl) rfl ?_ ?_
    rotate_left
    ·go_simp
     rfl
    refine hK.out _ _ ?_
    clear hK K
    refine zq 14 (some 27) HT_ ?_
    refine last_ (i := 15) (N := none) #[true,true,true,true,true,true,true,true,true,true,true,true,true,true,true,true] rfl rfl (one_of HT_.out (by kernel_rfl)) (by decide) (fun K hK => ?_)
    refine skip_ (w1 := ?_) (by rfl) rfl ?_ ?_
    rotate_left
    ·go_simp
     rfl
    refine hK.out _ _ ?_
    clear hK K
    refine done_ (done_of HT_.out (by kernel_rfl)) ?_
    try go_wp2
    (try simp only [← hl0_1])
    go_roundg k1
    case measure => have := HK1.out; omega
    case rel => exact ⟨(y161), (wrap64 (x2_1 + 1)), (wrap64 (x3_1 - 1)), (zr), (zr), H', ⟨by have := HK1.out; omega⟩, ⟨by (try simp only [hl0_1]); (with_reducible repeat (first | apply Kd.R_alloc | apply Kd.R_drewN | apply Kd.R_drew)); exact HQ12.out⟩, ⟨by repeat (first | (with_reducible first | exact HK.out | apply Kept.alloc | apply Kept.drewN | apply Kept.drew | refine Kept.setCell ?_ HMgo8.out _ | refine Kept.setCell ?_ HMgo8.out _ | refine Kept.setCell ?_ HMgo8.out _ | refine Kept.setCell ?_ HMgo8.out _ | refine Kept.setCell ?_ HMgo8.out _ | refine Kept.setCell ?_ HMgo8.out _ | refine Kept.setCell ?_ HMgo8.out _ | refine Kept.setCell ?_ HMgo8.out _ | refine Kept.setCell ?_ HMgo8.out _ | refine Kept.setCell ?_ HMgo8.out _) | exact HK.out)⟩, ⟨by repeat (first | (with_reducible first | exact HB.out | apply below_alloc | apply pw_below_drewN | apply below_drew1 | refine below_set ?_ GB8.out | refine below_set ?_ GB8.out | refine below_set ?_ GB8.out | refine below_set ?_ GB8.out | refine below_set ?_ GB8.out | refine below_set ?_ GB8.out | refine below_set ?_ GB8.out | refine below_set ?_ GB8.out | refine below_set ?_ GB8.out | refine below_set ?_ GB8.out) | exact HB.out)⟩⟩
   ·rw [if_neg c3] at H
    have c3b0 : decide (x2_1 < x3_1) = false := decide_eq_false c3
    clear c3
    obtain rfl := Option.some.inj H
    go_wp2
    first | go_end0 | ((try simp only [Exit.inBlock, Exit.then]); refine bodyPost_ret (results_none rfl _ _ _) rfl ?_)
    exact ⟨ze, (by first | exact (by (with_reducible repeat (first | apply Kd.R_alloc | apply Kd.R_drewN | apply Kd.R_drew)); exact HO_0.out) | (simp only [hl0_1]; exact (by (with_reducible repeat (first | apply Kd.R_alloc | apply Kd.R_drewN | apply Kd.R_drew)); exact HO_0.out))), zw0 HB.out, by repeat (first | (with_reducible first | exact HK.out | apply Kept.alloc | apply Kept.drewN | apply Kept.drew) | exact HK.out)⟩

end Go.Proofs.Ytjoplkillkhiaaa.Q2
