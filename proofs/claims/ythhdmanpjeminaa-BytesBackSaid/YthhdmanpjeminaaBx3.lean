-- Written by this session's own edition of the print.
import Derived.Test.YthhdmanpjeminaaBx0
import Derived.Test.YthhdmanpjeminaaBx2
import Derived.Test.YthhdmanpjeminaaUSq
import Derived.Test.YthhdmanpjeminaaUSq2
namespace Go.Proofs.Ythhdmanpjeminaa.B
open Go.RowKit Go.Proofs.Ythhdmanpjeminaa.Fn Go.Proofs.YthhdmanpjeminaaW.PrintWords Go.Proofs.YthhdmanpjeminaaW.PrintLast Go.Proofs.YthhdmanpjeminaaW.PrintMore
attribute [local go_sem] max2_int min2_int max_two min_two max_three min_three max_four min_four   -- for this text's walks alone
set_option linter.unusedVariables false
set_option linter.unusedSimpArgs false

attribute [local go_sem high] eqA51
/-! cellarlaw8_Heavy -/
def cellarlaw8_Heavy.f (l0_0 : List (S38)) (l0_1 : List (S33)) (l0_2 : List (S51)) : Option (Bool) := some (decide ((wrap64 ((wrap64 ((l0_0.length : Int) + (l0_1.length : Int))) + (l0_2.length : Int))) > 300))
set_option maxHeartbeats 8000000 in
set_option maxRecDepth 100000 in
theorem cellarlaw8_Heavy.calls (A0_0 : Option Addr) (c0_0 : Nat) (l0_0 : List (S38)) (A0_1 : Option Addr) (c0_1 : Nat) (l0_1 : List (S33)) (A0_2 : Option Addr) (c0_2 : Nat) (l0_2 : List (S51)) (r : Bool) (w : World) (hr0_0 : Kd.C k38 w A0_0 l0_0.length l0_0) (hc0_0 : l0_0.length ≤ c0_0) (hr0_1 : Kd.C k33 w A0_1 l0_1.length l0_1) (hc0_1 : l0_1.length ≤ c0_1) (hr0_2 : Kd.C k51 w A0_2 l0_2.length l0_2) (hc0_2 : l0_2.length ≤ c0_2) (h : cellarlaw8_Heavy.f l0_0 l0_1 l0_2 = some r) :
  Calls Try.prog 13 #[.agg #[.slice A0_0 l0_0.length c0_0, .slice A0_1 l0_1.length c0_1, .slice A0_2 l0_2.length c0_2]] w fun e w' => e = .returned (.bool r) ∧ Below w.heap.size w w' := by
 have hu26 := Try.underlying26
 have HR0_0 := Aside0.mk hr0_0
 have HC0_0 := Aside0.mk hc0_0
 clear hr0_0 hc0_0
 have HR0_1 := Aside0.mk hr0_1
 have HC0_1 := Aside0.mk hc0_1
 clear hr0_1 hc0_1
 have HR0_2 := Aside0.mk hr0_2
 have HC0_2 := Aside0.mk hc0_2
 clear hr0_2 hc0_2
 have HB := Aside0.mk (Below.refl w.heap.size w)
 have H : (some (decide ((wrap64 ((wrap64 ((l0_0.length : Int) + (l0_1.length : Int))) + (l0_2.length : Int))) > 300))) = some r := h
 clear h
 obtain rfl := Option.some.inj H
 go_enter Try.func13, Try.ntmps13
 go_wp2_with (first | ((with_reducible refine gate_dst (N := 1) rfl ?_); refine zbox (N := 1) (cs := #[.slice A0_0 l0_0.length c0_0, .slice A0_1 l0_1.length c0_1, .slice A0_2 l0_2.length c0_2]) (t := 26) ?_; intro gb101 hg w2 hbox hb; have n0_ := Aside0.mk (below_step (zw0 HB.out) hb); have BK101 := Aside0.mk (hbox); have GW101 := Aside0.mk (zg hg (below_size (zw0 HB.out))); have GE101 := GW101; clear HB; have HB := n0_; clear n0_; clear hb hbox hg; have hcz3_0 := zc BK101.out 0; have hcz3_1 := zc BK101.out 1; have hcz3_2 := zc BK101.out 2; have hfz3_0 := blk_frozen BK101.out 0; have hfz3_1 := blk_frozen BK101.out 1; have hfz3_2 := blk_frozen BK101.out 2))
 go_ret
 exact ⟨ze, zw1 HB.out GE101.out⟩

/-! word_May -/
def word_May.f (a0_0 : Bool) (a0_1 : Int) : Option (Bool) := if a0_1 = 2 then (some true) else (some (a0_1 == 4))
set_option maxHeartbeats 8000000 in
set_option maxRecDepth 100000 in
theorem word_May.calls (a0_0 : Bool) (a0_1 : Int) (r : Bool) (w : World) (h : word_May.f a0_0 a0_1 = some r) :
  Calls Try.prog 34 #[.agg #[.bool a0_0, .int .i64 a0_1]] w fun e w' => e = .returned (.bool r) ∧ Below w.heap.size w w' := by
 have hu38 := Try.underlying38
 have HB := Aside0.mk (Below.refl w.heap.size w)
 have H : (if a0_1 = 2 then (some true) else (some (a0_1 == 4))) = some r := h
 clear h
 by_cases c2 : a0_1 = 2
 ·rw [if_pos c2] at H
  have c2b0 : (a0_1 == 2) = true := beq_iff_eq.mpr c2
  have c2b1 : (a0_1 != 2) = false := bne_eq_false_iff_eq.mpr c2
  clear c2
  obtain rfl := Option.some.inj H
  go_enter Try.func34, Try.ntmps34
  go_wp2_with (first | ((with_reducible refine gate_dst (N := 1) rfl ?_); refine zbox (N := 1) (cs := #[.bool a0_0, .int .i64 a0_1]) (t := 38) ?_; intro gb102 hg w3 hbox hb; have n0_ := Aside0.mk (below_step (zw0 HB.out) hb); have BK102 := Aside0.mk (hbox); have GW102 := Aside0.mk (zg hg (below_size (zw0 HB.out))); have GE102 := GW102; clear HB; have HB := n0_; clear n0_; clear hb hbox hg; have hcz4_0 := zc BK102.out 0; have hcz4_1 := zc BK102.out 1; have hfz4_0 := blk_frozen BK102.out 0; have hfz4_1 := blk_frozen BK102.out 1))
  go_ret
  exact ⟨ze, zw1 HB.out GE102.out⟩
 ·rw [if_neg c2] at H
  have c2b0 : (a0_1 == 2) = false := beq_eq_false_iff_ne.mpr c2
  have c2b1 : (a0_1 != 2) = true := bne_iff_ne.mpr c2
  obtain rfl := Option.some.inj H
  go_enter Try.func34, Try.ntmps34
  go_wp2_with (first | ((with_reducible refine gate_dst (N := 1) rfl ?_); refine zbox (N := 1) (cs := #[.bool a0_0, .int .i64 a0_1]) (t := 38) ?_; intro gb102 hg w5 hbox hb; have n0_ := Aside0.mk (below_step (zw0 HB.out) hb); have BK102 := Aside0.mk (hbox); have GW102 := Aside0.mk (zg hg (below_size (zw0 HB.out))); have GE102 := GW102; clear HB; have HB := n0_; clear n0_; clear hb hbox hg; have hcz6_0 := zc BK102.out 0; have hcz6_1 := zc BK102.out 1; have hfz6_0 := blk_frozen BK102.out 0; have hfz6_1 := blk_frozen BK102.out 1))
  go_ret
  exact ⟨ze, zw1 HB.out GE102.out⟩

/-! word_IsScalar -/
def word_IsScalar.f (a0 : Int) : Option (Bool) := if a0 ≥ 1 then (some (decide (a0 ≤ 7))) else (some false)
set_option maxHeartbeats 8000000 in
set_option maxRecDepth 100000 in
theorem word_IsScalar.calls (a0 : Int) (r : Bool) (w : World) (h : word_IsScalar.f a0 = some r) :
  Calls Try.prog 35 #[.int .i64 a0] w fun e w' => e = .returned (.bool r) ∧ Drawn0 w w' := by
 have H : (if a0 ≥ 1 then (some (decide (a0 ≤ 7))) else (some false)) = some r := h
 clear h
 by_cases c2 : a0 ≥ 1
 ·rw [if_pos c2] at H
  have c2b0 : decide (1 ≤ a0) = true := decide_eq_true c2
  clear c2
  obtain rfl := Option.some.inj H
  go_enter Try.func35, Try.ntmps35
  go_wp2
  go_ret
  exact ⟨zr, by repeat (first | exact Drawn0.refl _ | apply Drawn0.step)⟩
 ·rw [if_neg c2] at H
  have c2b0 : decide (1 ≤ a0) = false := decide_eq_false c2
  clear c2
  obtain rfl := Option.some.inj H
  go_enter Try.func35, Try.ntmps35
  go_wp2
  go_ret
  exact ⟨zr, by repeat (first | exact Drawn0.refl _ | apply Drawn0.step)⟩

/-! word_Of -/
def word_Of.f (a0 : Int) : Option (Int) := if 0 ≤ (wrap64 (Int.tdiv (wrap64 (a0 - 1)) 2)) then (some (shl .i64 8 (wrap64 (Int.tdiv (wrap64 (a0 - 1)) 2)))) else (none)
set_option maxHeartbeats 8000000 in
set_option maxRecDepth 100000 in
theorem word_Of.calls (a0 : Int) (r : Int) (w : World) (h : word_Of.f a0 = some r) :
  Calls Try.prog 48 #[.int .i64 a0] w fun e w' => e = .returned (.int .i64 r) ∧ Drawn0 w w' := by
 have H : (if 0 ≤ (wrap64 (Int.tdiv (wrap64 (a0 - 1)) 2)) then (some (shl .i64 8 (wrap64 (Int.tdiv (wrap64 (a0 - 1)) 2)))) else (none)) = some r := h
 clear h
 obtain ⟨ji2, hji2⟩ : ∃ j_ : Int, (wrap64 (Int.tdiv (wrap64 (a0 - 1)) 2)) = j_ := ⟨_, rfl⟩
 replace H : (if 0 ≤ (ji2) then (some (shl .i64 8 (ji2))) else (none)) = some r := by first | (rw [hji2] at H; exact H) | (simp only [hji2] at H ⊢; exact H)
 have hji2w : (IntKind.i64.wrap (Int.tdiv (wrap64 (a0 - 1)) 2)) = ji2 := (i64_w _).trans hji2
 by_cases c3 : 0 ≤ (ji2)
 ·rw [if_pos c3] at H
  have c3b0 := eq_true c3
  have c3b1 : decide (0 ≤ (ji2)) = true := decide_eq_true c3
  clear c3
  obtain ⟨ji4, hji4⟩ : ∃ j_ : Int, (shl .i64 8 (ji2)) = j_ := ⟨_, rfl⟩
  replace H : (some ji4) = some r := by first | (rw [hji4] at H; exact H) | (simp only [hji4] at H ⊢; exact H)
  have hji4_ : (IntKind.i64.wrap (8 * 2 ^ min (ji2).toNat 64)) = ji4 := hji4
  have hji4z : (ji2) ≤ 64 → (IntKind.i64.wrap (8 * 2 ^ (ji2).toNat)) = ji4 := shl_small hji4
  have hji4y : (wrap64 (8 * 2 ^ min (ji2).toNat 64)) = ji4 := (i64_w _).symm.trans hji4_
  have hji4x : (ji2) ≤ 64 → (wrap64 (8 * 2 ^ (ji2).toNat)) = ji4 := fun h_ => (i64_w _).symm.trans (hji4z h_)
  obtain rfl := Option.some.inj H
  go_enter Try.func48, Try.ntmps48
  go_wp2
  go_ret
  exact ⟨by first | rfl | (simp; done) | (simp only [← hji2, ← hji4] <;> (first | rfl | simp)) | (simp [*]; done), by repeat (first | exact Drawn0.refl _ | apply Drawn0.step)⟩
 ·rw [if_neg c3] at H
  exact absurd H (by simp)

/-! word_Bytes -/
def word_Bytes.f (a0_0 : Bool) (a0_1 : Int) (a1 : Int) : Option (Int) := if a1 = 7 then (some a0_1) else ((word_Of.f a1).bind fun t104 => (some (wrap64 (Int.tdiv t104 8))))
set_option maxHeartbeats 8000000 in
set_option maxRecDepth 100000 in
theorem word_Bytes.calls (a0_0 : Bool) (a0_1 : Int) (a1 : Int) (r : Int) (w : World) (h : word_Bytes.f a0_0 a0_1 a1 = some r) :
  Calls Try.prog 36 #[.agg #[.bool a0_0, .int .i64 a0_1], .int .i64 a1] w fun e w' => e = .returned (.int .i64 r) ∧ Below w.heap.size w w' := by
 have hu38 := Try.underlying38
 have HB := Aside0.mk (Below.refl w.heap.size w)
 have H : (if a1 = 7 then (some a0_1) else ((word_Of.f a1).bind fun t104 => (some (wrap64 (Int.tdiv t104 8))))) = some r := h
 clear h
 by_cases c3 : a1 = 7
 ·rw [if_pos c3] at H
  have c3b0 : (a1 == 7) = true := beq_iff_eq.mpr c3
  have c3b1 : (a1 != 7) = false := bne_eq_false_iff_eq.mpr c3
  clear c3
  obtain rfl := Option.some.inj H
  go_enter Try.func36, Try.ntmps36
  go_wp2_with (first | ((with_reducible refine gate_dst (N := 2) rfl ?_); refine zbox (N := 2) (cs := #[.bool a0_0, .int .i64 a0_1]) (t := 38) ?_; intro gb103 hg w4 hbox hb; have n0_ := Aside0.mk (below_step (zw0 HB.out) hb); have BK103 := Aside0.mk (hbox); have GW103 := Aside0.mk (zg hg (below_size (zw0 HB.out))); have GE103 := GW103; clear HB; have HB := n0_; clear n0_; clear hb hbox hg; have hcz5_0 := zc BK103.out 0; have hcz5_1 := zc BK103.out 1; have hfz5_0 := blk_frozen BK103.out 0; have hfz5_1 := blk_frozen BK103.out 1))
  go_ret
  exact ⟨ze, zw1 HB.out GE103.out⟩
 ·rw [if_neg c3] at H
  have c3b0 : (a1 == 7) = false := beq_eq_false_iff_ne.mpr c3
  have c3b1 : (a1 != 7) = true := bne_iff_ne.mpr c3
  replace H := Option.bind_eq_some_iff.mp H
  obtain ⟨t104, A60, H⟩ := H
  replace H : (some (wrap64 (Int.tdiv t104 8))) = some r := H
  have A6 := Aside0.mk A60
  clear A60
  obtain rfl := Option.some.inj H
  go_enter Try.func36, Try.ntmps36
  go_wp2_with (first | ((with_reducible refine gate_dst (N := 2) rfl ?_); refine zbox (N := 2) (cs := #[.bool a0_0, .int .i64 a0_1]) (t := 38) ?_; intro gb103 hg w7 hbox hb; have n0_ := Aside0.mk (below_step (zw0 HB.out) hb); have BK103 := Aside0.mk (hbox); have GW103 := Aside0.mk (zg hg (below_size (zw0 HB.out))); have GE103 := GW103; clear HB; have HB := n0_; clear n0_; clear hb hbox hg) | ((with_reducible refine gate_callee (f := 48) rfl ?_); refine zgo (some 10) Try.func48 #[.int .i64 a1] ?_; (with_reducible refine (word_Of.calls a1 t104 _ A6.out).mono ?_); rintro e w' ⟨rfl, ⟨nd, rfl⟩⟩; refine ⟨_, rfl, ?_⟩))
  go_ret
  exact ⟨ze, zw1 HB.out GE103.out⟩

/-! bytes_up -/
def bytes_up.f (a0 : Int) (a1 : Int) : Option (Bool) := if a0 ≥ 0 then (some (decide (a0 ≤ a1))) else (some false)
set_option maxHeartbeats 8000000 in
set_option maxRecDepth 100000 in
theorem bytes_up.calls (a0 : Int) (a1 : Int) (r : Bool) (w : World) (h : bytes_up.f a0 a1 = some r) :
  Calls Try.prog 50 #[.int .i64 a0, .int .i64 a1] w fun e w' => e = .returned (.bool r) ∧ Drawn0 w w' := by
 have H : (if a0 ≥ 0 then (some (decide (a0 ≤ a1))) else (some false)) = some r := h
 clear h
 by_cases c3 : a0 ≥ 0
 ·rw [if_pos c3] at H
  have c3b0 : decide (0 ≤ a0) = true := decide_eq_true c3
  clear c3
  obtain rfl := Option.some.inj H
  go_enter Try.func50, Try.ntmps50
  go_wp2
  go_ret
  exact ⟨zr, by repeat (first | exact Drawn0.refl _ | apply Drawn0.step)⟩
 ·rw [if_neg c3] at H
  have c3b0 : decide (0 ≤ a0) = false := decide_eq_false c3
  clear c3
  obtain rfl := Option.some.inj H
  go_enter Try.func50, Try.ntmps50
  go_wp2
  go_ret
  exact ⟨zr, by repeat (first | exact Drawn0.refl _ | apply Drawn0.step)⟩

/-! bytes_Is -/
def bytes_Is.f (a0_0 : Int) (a0_1 : Int) (a0_2 : Int) (a0_3 : Int) (a0_4 : Int) : Option (Bool) := if a0_0 = 0 then (some (a0_0 == 0 && (a0_1 == 0 && (a0_2 == 0 && (a0_3 == 0 && (a0_4 == 0)))))) else (if a0_0 = 1 then ((bytes_up.f a0_1 255).bind fun t106 => (if t106 = true then (some (a0_0 == 1 && (a0_2 == 0 && (a0_3 == 0 && (a0_4 == 0))))) else (some false))) else (if a0_0 = 2 then (if a0_1 = 0 then (if a0_2 ≥ 1 then (if a0_2 ≤ 32 then ((bytes_up.f a0_3 32).bind fun t107 => (if t107 = true then ((bytes_up.f a0_4 3).bind fun t108 => (some t108)) else (some false))) else (some false)) else (some false)) else (some false)) else (some false)))
set_option maxHeartbeats 8000000 in
set_option maxRecDepth 100000 in
theorem bytes_Is.calls (a0_0 : Int) (a0_1 : Int) (a0_2 : Int) (a0_3 : Int) (a0_4 : Int) (r : Bool) (w : World) (h : bytes_Is.f a0_0 a0_1 a0_2 a0_3 a0_4 = some r) :
  Calls Try.prog 39 #[.agg #[.int .i64 a0_0, .int .i64 a0_1, .int .i64 a0_2, .int .i64 a0_3, .int .i64 a0_4]] w fun e w' => e = .returned (.bool r) ∧ Below w.heap.size w w' := by
 have hu51 := Try.underlying51
 have HB := Aside0.mk (Below.refl w.heap.size w)
 have H : (if a0_0 = 0 then (some (a0_0 == 0 && (a0_1 == 0 && (a0_2 == 0 && (a0_3 == 0 && (a0_4 == 0)))))) else (if a0_0 = 1 then ((bytes_up.f a0_1 255).bind fun t106 => (if t106 = true then (some (a0_0 == 1 && (a0_2 == 0 && (a0_3 == 0 && (a0_4 == 0))))) else (some false))) else (if a0_0 = 2 then (if a0_1 = 0 then (if a0_2 ≥ 1 then (if a0_2 ≤ 32 then ((bytes_up.f a0_3 32).bind fun t107 => (if t107 = true then ((bytes_up.f a0_4 3).bind fun t108 => (some t108)) else (some false))) else (some false)) else (some false)) else (some false)) else (some false)))) = some r := h
 clear h
 by_cases c2 : a0_0 = 0
 ·rw [if_pos c2] at H
  have c2b0 : (a0_0 == 0) = true := beq_iff_eq.mpr c2
  have c2b1 : (a0_0 != 0) = false := bne_eq_false_iff_eq.mpr c2
  clear c2
  obtain rfl := Option.some.inj H
  go_enter Try.func39, Try.ntmps39
  go_wp2_with (first | ((with_reducible refine gate_dst (N := 1) rfl ?_); refine zbox (N := 1) (cs := #[.int .i64 a0_0, .int .i64 a0_1, .int .i64 a0_2, .int .i64 a0_3, .int .i64 a0_4]) (t := 51) ?_; intro gb105 hg w3 hbox hb; have n0_ := Aside0.mk (below_step (zw0 HB.out) hb); have BK105 := Aside0.mk (hbox); have GW105 := Aside0.mk (zg hg (below_size (zw0 HB.out))); have GE105 := GW105; clear HB; have HB := n0_; clear n0_; clear hb hbox hg; have hcz4_0 := zc BK105.out 0; have hcz4_1 := zc BK105.out 1; have hcz4_2 := zc BK105.out 2; have hcz4_3 := zc BK105.out 3; have hcz4_4 := zc BK105.out 4; have hfz4_0 := blk_frozen BK105.out 0; have hfz4_1 := blk_frozen BK105.out 1; have hfz4_2 := blk_frozen BK105.out 2; have hfz4_3 := blk_frozen BK105.out 3; have hfz4_4 := blk_frozen BK105.out 4))
  go_ret
  exact ⟨ze, zw1 HB.out GE105.out⟩
 ·rw [if_neg c2] at H
  have c2b0 : (a0_0 == 0) = false := beq_eq_false_iff_ne.mpr c2
  have c2b1 : (a0_0 != 0) = true := bne_iff_ne.mpr c2
  by_cases c5 : a0_0 = 1
  ·rw [if_pos c5] at H
   have c5b0 : (a0_0 == 1) = true := beq_iff_eq.mpr c5
   have c5b1 : (a0_0 != 1) = false := bne_eq_false_iff_eq.mpr c5
   clear c5
   replace H := Option.bind_eq_some_iff.mp H
   obtain ⟨t106, A60, H⟩ := H
   replace H : (if t106 = true then (some (a0_0 == 1 && (a0_2 == 0 && (a0_3 == 0 && (a0_4 == 0))))) else (some false)) = some r := H
   have A6 := Aside0.mk A60
   clear A60
   by_cases c7 : t106 = true
   ·subst c7
    have H1 : (some (a0_0 == 1 && (a0_2 == 0 && (a0_3 == 0 && (a0_4 == 0))))) = some r := by rw [if_pos rfl] at H; exact H
    clear H
    have H := H1
    clear H1
    obtain rfl := Option.some.inj H
    go_enter Try.func39, Try.ntmps39
    go_wp2_with (first | ((with_reducible refine gate_dst (N := 1) rfl ?_); refine zbox (N := 1) (cs := #[.int .i64 a0_0, .int .i64 a0_1, .int .i64 a0_2, .int .i64 a0_3, .int .i64 a0_4]) (t := 51) ?_; intro gb105 hg w8 hbox hb; have n0_ := Aside0.mk (below_step (zw0 HB.out) hb); have BK105 := Aside0.mk (hbox); have GW105 := Aside0.mk (zg hg (below_size (zw0 HB.out))); have GE105 := GW105; clear HB; have HB := n0_; clear n0_; clear hb hbox hg; have hcz9_0 := zc BK105.out 0; have hcz9_1 := zc BK105.out 1; have hcz9_2 := zc BK105.out 2; have hcz9_3 := zc BK105.out 3; have hcz9_4 := zc BK105.out 4; have hfz9_0 := blk_frozen BK105.out 0; have hfz9_1 := blk_frozen BK105.out 1; have hfz9_2 := blk_frozen BK105.out 2; have hfz9_3 := blk_frozen BK105.out 3; have hfz9_4 := blk_frozen BK105.out 4) | ((with_reducible refine gate_callee (f := 50) rfl ?_); refine zgo (some 14) Try.func50 #[.int .i64 a0_1, .int .i64 255] ?_; (with_reducible refine (bytes_up.calls a0_1 255 true _ A6.out).mono ?_); rintro e w' ⟨rfl, ⟨nd, rfl⟩⟩; refine ⟨_, rfl, ?_⟩))
    go_ret
    exact ⟨ze, zw1 HB.out GE105.out⟩
   replace c7 := Bool.eq_false_iff.mpr c7
   subst c7
   have H1 : (some false) = some r := by rw [if_neg (show ¬ (false = true) by decide)] at H; exact H
   clear H
   have H := H1
   clear H1
   obtain rfl := Option.some.inj H
   go_enter Try.func39, Try.ntmps39
   go_wp2_with (first | ((with_reducible refine gate_dst (N := 1) rfl ?_); refine zbox (N := 1) (cs := #[.int .i64 a0_0, .int .i64 a0_1, .int .i64 a0_2, .int .i64 a0_3, .int .i64 a0_4]) (t := 51) ?_; intro gb105 hg w10 hbox hb; have n0_ := Aside0.mk (below_step (zw0 HB.out) hb); have BK105 := Aside0.mk (hbox); have GW105 := Aside0.mk (zg hg (below_size (zw0 HB.out))); have GE105 := GW105; clear HB; have HB := n0_; clear n0_; clear hb hbox hg; have hcz11_0 := zc BK105.out 0; have hcz11_1 := zc BK105.out 1; have hcz11_2 := zc BK105.out 2; have hcz11_3 := zc BK105.out 3; have hcz11_4 := zc BK105.out 4; have hfz11_0 := blk_frozen BK105.out 0; have hfz11_1 := blk_frozen BK105.out 1; have hfz11_2 := blk_frozen BK105.out 2; have hfz11_3 := blk_frozen BK105.out 3; have hfz11_4 := blk_frozen BK105.out 4) | ((with_reducible refine gate_callee (f := 50) rfl ?_); refine zgo (some 14) Try.func50 #[.int .i64 a0_1, .int .i64 255] ?_; (with_reducible refine (bytes_up.calls a0_1 255 false _ A6.out).mono ?_); rintro e w' ⟨rfl, ⟨nd, rfl⟩⟩; refine ⟨_, rfl, ?_⟩))
   go_ret
   exact ⟨ze, zw1 HB.out GE105.out⟩
  ·rw [if_neg c5] at H
   have c5b0 : (a0_0 == 1) = false := beq_eq_false_iff_ne.mpr c5
   have c5b1 : (a0_0 != 1) = true := bne_iff_ne.mpr c5
   by_cases c12 : a0_0 = 2
   ·rw [if_pos c12] at H
    have c12b0 : (a0_0 == 2) = true := beq_iff_eq.mpr c12
    have c12b1 : (a0_0 != 2) = false := bne_eq_false_iff_eq.mpr c12
    clear c12
    by_cases c13 : a0_1 = 0
    rotate_left
    ·rw [if_neg c13] at H
     have c13b0 : (a0_1 == 0) = false := beq_eq_false_iff_ne.mpr c13
     have c13b1 : (a0_1 != 0) = true := bne_iff_ne.mpr c13
     obtain rfl := Option.some.inj H
     go_enter Try.func39, Try.ntmps39
     go_wp2_with (first | ((with_reducible refine gate_dst (N := 1) rfl ?_); refine zbox (N := 1) (cs := #[.int .i64 a0_0, .int .i64 a0_1, .int .i64 a0_2, .int .i64 a0_3, .int .i64 a0_4]) (t := 51) ?_; intro gb105 hg w27 hbox hb; have n0_ := Aside0.mk (below_step (zw0 HB.out) hb); have BK105 := Aside0.mk (hbox); have GW105 := Aside0.mk (zg hg (below_size (zw0 HB.out))); have GE105 := GW105; clear HB; have HB := n0_; clear n0_; clear hb hbox hg; have hcz28_0 := zc BK105.out 0; have hcz28_1 := zc BK105.out 1; have hcz28_2 := zc BK105.out 2; have hcz28_3 := zc BK105.out 3; have hcz28_4 := zc BK105.out 4; have hfz28_0 := blk_frozen BK105.out 0; have hfz28_1 := blk_frozen BK105.out 1; have hfz28_2 := blk_frozen BK105.out 2; have hfz28_3 := blk_frozen BK105.out 3; have hfz28_4 := blk_frozen BK105.out 4))
     go_ret
     exact ⟨ze, zw1 HB.out GE105.out⟩
    rw [if_pos c13] at H
    have c13b0 : (a0_1 == 0) = true := beq_iff_eq.mpr c13
    have c13b1 : (a0_1 != 0) = false := bne_eq_false_iff_eq.mpr c13
    clear c13
    by_cases c14 : a0_2 ≥ 1
    rotate_left
    ·rw [if_neg c14] at H
     have c14b0 : decide (1 ≤ a0_2) = false := decide_eq_false c14
     clear c14
     obtain rfl := Option.some.inj H
     go_enter Try.func39, Try.ntmps39
     go_wp2_with (first | ((with_reducible refine gate_dst (N := 1) rfl ?_); refine zbox (N := 1) (cs := #[.int .i64 a0_0, .int .i64 a0_1, .int .i64 a0_2, .int .i64 a0_3, .int .i64 a0_4]) (t := 51) ?_; intro gb105 hg w25 hbox hb; have n0_ := Aside0.mk (below_step (zw0 HB.out) hb); have BK105 := Aside0.mk (hbox); have GW105 := Aside0.mk (zg hg (below_size (zw0 HB.out))); have GE105 := GW105; clear HB; have HB := n0_; clear n0_; clear hb hbox hg; have hcz26_0 := zc BK105.out 0; have hcz26_1 := zc BK105.out 1; have hcz26_2 := zc BK105.out 2; have hcz26_3 := zc BK105.out 3; have hcz26_4 := zc BK105.out 4; have hfz26_0 := blk_frozen BK105.out 0; have hfz26_1 := blk_frozen BK105.out 1; have hfz26_2 := blk_frozen BK105.out 2; have hfz26_3 := blk_frozen BK105.out 3; have hfz26_4 := blk_frozen BK105.out 4))
     go_ret
     exact ⟨ze, zw1 HB.out GE105.out⟩
    rw [if_pos c14] at H
    have c14b0 : decide (1 ≤ a0_2) = true := decide_eq_true c14
    clear c14
    by_cases c15 : a0_2 ≤ 32
    rotate_left
    ·rw [if_neg c15] at H
     have c15b0 : decide (a0_2 ≤ 32) = false := decide_eq_false c15
     clear c15
     obtain rfl := Option.some.inj H
     go_enter Try.func39, Try.ntmps39
     go_wp2_with (first | ((with_reducible refine gate_dst (N := 1) rfl ?_); refine zbox (N := 1) (cs := #[.int .i64 a0_0, .int .i64 a0_1, .int .i64 a0_2, .int .i64 a0_3, .int .i64 a0_4]) (t := 51) ?_; intro gb105 hg w23 hbox hb; have n0_ := Aside0.mk (below_step (zw0 HB.out) hb); have BK105 := Aside0.mk (hbox); have GW105 := Aside0.mk (zg hg (below_size (zw0 HB.out))); have GE105 := GW105; clear HB; have HB := n0_; clear n0_; clear hb hbox hg; have hcz24_0 := zc BK105.out 0; have hcz24_1 := zc BK105.out 1; have hcz24_2 := zc BK105.out 2; have hcz24_3 := zc BK105.out 3; have hcz24_4 := zc BK105.out 4; have hfz24_0 := blk_frozen BK105.out 0; have hfz24_1 := blk_frozen BK105.out 1; have hfz24_2 := blk_frozen BK105.out 2; have hfz24_3 := blk_frozen BK105.out 3; have hfz24_4 := blk_frozen BK105.out 4))
     go_ret
     exact ⟨ze, zw1 HB.out GE105.out⟩
    rw [if_pos c15] at H
    have c15b0 : decide (a0_2 ≤ 32) = true := decide_eq_true c15
    clear c15
    replace H := Option.bind_eq_some_iff.mp H
    obtain ⟨t107, A160, H⟩ := H
    replace H : (if t107 = true then ((bytes_up.f a0_4 3).bind fun t108 => (some t108)) else (some false)) = some r := H
    have A16 := Aside0.mk A160
    clear A160
    by_cases c17 : t107 = true
    rotate_left
    ·replace c17 := Bool.eq_false_iff.mpr c17
     subst c17
     have H1 : (some false) = some r := by rw [if_neg (show ¬ (false = true) by decide)] at H; exact H
     clear H
     have H := H1
     clear H1
     obtain rfl := Option.some.inj H
     go_enter Try.func39, Try.ntmps39
     go_wp2_with (first | ((with_reducible refine gate_dst (N := 1) rfl ?_); refine zbox (N := 1) (cs := #[.int .i64 a0_0, .int .i64 a0_1, .int .i64 a0_2, .int .i64 a0_3, .int .i64 a0_4]) (t := 51) ?_; intro gb105 hg w21 hbox hb; have n0_ := Aside0.mk (below_step (zw0 HB.out) hb); have BK105 := Aside0.mk (hbox); have GW105 := Aside0.mk (zg hg (below_size (zw0 HB.out))); have GE105 := GW105; clear HB; have HB := n0_; clear n0_; clear hb hbox hg; have hcz22_0 := zc BK105.out 0; have hcz22_1 := zc BK105.out 1; have hcz22_2 := zc BK105.out 2; have hcz22_3 := zc BK105.out 3; have hcz22_4 := zc BK105.out 4; have hfz22_0 := blk_frozen BK105.out 0; have hfz22_1 := blk_frozen BK105.out 1; have hfz22_2 := blk_frozen BK105.out 2; have hfz22_3 := blk_frozen BK105.out 3; have hfz22_4 := blk_frozen BK105.out 4) | (go_at_call 50; (with_reducible refine (bytes_up.calls a0_3 32 false _ A16.out).mono ?_); rintro e w' ⟨rfl, ⟨nd, rfl⟩⟩))
     go_ret
     exact ⟨ze, zw1 HB.out GE105.out⟩
    subst c17
    have H1 : ((bytes_up.f a0_4 3).bind fun t108 => (some t108)) = some r := by rw [if_pos rfl] at H; exact H
    clear H
    have H := H1
    clear H1
    replace H := Option.bind_eq_some_iff.mp H
    obtain ⟨t108, A180, H⟩ := H
    replace H : (some t108) = some r := H
    have A18 := Aside0.mk A180
    clear A180
    obtain rfl := Option.some.inj H
    go_enter Try.func39, Try.ntmps39
    go_wp2_with (first | ((with_reducible refine gate_dst (N := 1) rfl ?_); refine zbox (N := 1) (cs := #[.int .i64 a0_0, .int .i64 a0_1, .int .i64 a0_2, .int .i64 a0_3, .int .i64 a0_4]) (t := 51) ?_; intro gb105 hg w19 hbox hb; have n0_ := Aside0.mk (below_step (zw0 HB.out) hb); have BK105 := Aside0.mk (hbox); have GW105 := Aside0.mk (zg hg (below_size (zw0 HB.out))); have GE105 := GW105; clear HB; have HB := n0_; clear n0_; clear hb hbox hg; have hcz20_0 := zc BK105.out 0; have hcz20_1 := zc BK105.out 1; have hcz20_2 := zc BK105.out 2; have hcz20_3 := zc BK105.out 3; have hcz20_4 := zc BK105.out 4; have hfz20_0 := blk_frozen BK105.out 0; have hfz20_1 := blk_frozen BK105.out 1; have hfz20_2 := blk_frozen BK105.out 2; have hfz20_3 := blk_frozen BK105.out 3; have hfz20_4 := blk_frozen BK105.out 4) | (go_at_call 50; (with_reducible refine (bytes_up.calls a0_3 32 true _ A16.out).mono ?_); rintro e w' ⟨rfl, ⟨nd, rfl⟩⟩) | (go_at_call 50; (with_reducible refine (bytes_up.calls a0_4 3 t108 _ A18.out).mono ?_); rintro e w' ⟨rfl, ⟨nd, rfl⟩⟩))
    go_ret
    exact ⟨ze, zw1 HB.out GE105.out⟩
   ·rw [if_neg c12] at H
    have c12b0 : (a0_0 == 2) = false := beq_eq_false_iff_ne.mpr c12
    have c12b1 : (a0_0 != 2) = true := bne_iff_ne.mpr c12
    obtain rfl := Option.some.inj H
    go_enter Try.func39, Try.ntmps39
    go_wp2_with (first | ((with_reducible refine gate_dst (N := 1) rfl ?_); refine zbox (N := 1) (cs := #[.int .i64 a0_0, .int .i64 a0_1, .int .i64 a0_2, .int .i64 a0_3, .int .i64 a0_4]) (t := 51) ?_; intro gb105 hg w29 hbox hb; have n0_ := Aside0.mk (below_step (zw0 HB.out) hb); have BK105 := Aside0.mk (hbox); have GW105 := Aside0.mk (zg hg (below_size (zw0 HB.out))); have GE105 := GW105; clear HB; have HB := n0_; clear n0_; clear hb hbox hg; have hcz30_0 := zc BK105.out 0; have hcz30_1 := zc BK105.out 1; have hcz30_2 := zc BK105.out 2; have hcz30_3 := zc BK105.out 3; have hcz30_4 := zc BK105.out 4; have hfz30_0 := blk_frozen BK105.out 0; have hfz30_1 := blk_frozen BK105.out 1; have hfz30_2 := blk_frozen BK105.out 2; have hfz30_3 := blk_frozen BK105.out 3; have hfz30_4 := blk_frozen BK105.out 4))
    go_ret
    exact ⟨ze, zw1 HB.out GE105.out⟩

/-! bytes_Get_1 -/
def bytes_Get_1.f (a0_0 : Int) (a0_1 : Int) (a0_2 : Int) (a0_3 : Int) (a0_4 : Int) : Option (Bool) := (bytes_Is.f a0_0 a0_1 a0_2 a0_3 a0_4).bind fun t110 => (some (!t110))
set_option maxHeartbeats 8000000 in
set_option maxRecDepth 100000 in
theorem bytes_Get_1.calls (a0_0 : Int) (a0_1 : Int) (a0_2 : Int) (a0_3 : Int) (a0_4 : Int) (r : Bool) (w : World) (h : bytes_Get_1.f a0_0 a0_1 a0_2 a0_3 a0_4 = some r) :
  Calls Try.prog 38 #[.agg #[.int .i64 a0_0, .int .i64 a0_1, .int .i64 a0_2, .int .i64 a0_3, .int .i64 a0_4]] w fun e w' => e = .returned (.bool r) ∧ Below w.heap.size w w' := by
 have hu51 := Try.underlying51
 have HB := Aside0.mk (Below.refl w.heap.size w)
 have H : ((bytes_Is.f a0_0 a0_1 a0_2 a0_3 a0_4).bind fun t110 => (some (!t110))) = some r := h
 clear h
 replace H := Option.bind_eq_some_iff.mp H
 obtain ⟨t110, A20, H⟩ := H
 replace H : (some (!t110)) = some r := H
 have A2 := Aside0.mk A20
 clear A20
 obtain rfl := Option.some.inj H
 go_enter Try.func38, Try.ntmps38
 go_wp2_with (first | ((with_reducible refine gate_dst (N := 1) rfl ?_); refine zbox (N := 1) (cs := #[.int .i64 a0_0, .int .i64 a0_1, .int .i64 a0_2, .int .i64 a0_3, .int .i64 a0_4]) (t := 51) ?_; intro gb109 hg w3 hbox hb; have n0_ := Aside0.mk (below_step (zw0 HB.out) hb); have BK109 := Aside0.mk (hbox); have GW109 := Aside0.mk (zg hg (below_size (zw0 HB.out))); have GE109 := GW109; clear HB; have HB := n0_; clear n0_; clear hb hbox hg; have hcz4_0 := zc BK109.out 0; have hcz4_1 := zc BK109.out 1; have hcz4_2 := zc BK109.out 2; have hcz4_3 := zc BK109.out 3; have hcz4_4 := zc BK109.out 4; have hfz4_0 := blk_frozen BK109.out 0; have hfz4_1 := blk_frozen BK109.out 1; have hfz4_2 := blk_frozen BK109.out 2; have hfz4_3 := blk_frozen BK109.out 3; have hfz4_4 := blk_frozen BK109.out 4) | ((with_reducible refine gate_callee (f := 39) rfl ?_); refine zgo (some 4) Try.func39 #[.agg #[.int .i64 a0_0, .int .i64 a0_1, .int .i64 a0_2, .int .i64 a0_3, .int .i64 a0_4]] ?_; (with_reducible refine (bytes_Is.calls a0_0 a0_1 a0_2 a0_3 a0_4 t110 _ A2.out).mono ?_); rintro e w5 ⟨rfl, hb⟩; refine ⟨_, rfl, ?_⟩; have n0_ := Aside0.mk (zbb BK109.out hb); have n1_ := Aside0.mk (below_step (zw1 HB.out GE109.out) hb); clear BK109 HB; have BK109 := n0_; have HB := n1_; clear n0_ n1_; (try clear hb); (try clear hb2); (try clear hk); (try clear hi)))
 go_ret
 exact ⟨ze, zw1 HB.out GE109.out⟩

/-! slices.IndexFunc[[]cellar/api.Byte,cellar/api.Byte] -/
set_option maxHeartbeats 4000000 in
set_option maxRecDepth 100000 in
theorem IndexFunc_T51 (p : S51 → Option Bool) (g : Nat) (lb : Array Value) (eg : ∀ args w, (callFunc g args).run Try.prog w = .ok (.enter g args) w) (A : Option Addr) (c : Nat) (l : List S51) (r : Int) (w : World)
    (hr : Kd.C k51 w A l.length l) (hp : PredK Try.prog k51 g lb (fun cs => .agg cs.toArray) p w) (h : idxO p 0 l = some r) :
    Calls Try.prog 49 #[.slice A l.length c, .func (.func g) #[] lb] w fun e w' => e = .returned (.int .i64 r) ∧ Below w.heap.size w w' := by
  have hbig := hr.2.1
  have HR := Aside0.mk hr
  have HP := Aside0.mk hp
  have H0 := Aside0.mk h
  have hu := Try.underlying51
  clear hr hp h
  go_enter Try.func49, Try.ntmps49
  go_wp2
  go_loopg [5, 8] l.length (fun gg _ s8 wr => ∃ kk : Nat, kk ≤ l.length ∧ l.length - kk ≤ gg ∧ s8 = .int .i64 kk ∧ Aside0 (Below w.heap.size w wr) ∧ Aside0 (idxO p kk (l.drop kk) = some r))
  case atStart => exact ⟨0, Nat.zero_le _, by omega, rfl, ⟨Below.refl _ w⟩, H0⟩
  case round =>
    obtain ⟨kk, hkk, hg, rfl, BW, A0_⟩ := hrel
    clear H0
    by_cases hlt : kk < l.length
    · have hltz : (kk : Int) < (l.length : Int) := by omega
      obtain ⟨ad, e0, hx0, hx1, hx2, hx3, hx4⟩ := at_T51 (Kd.C_below HR.out BW.out) (kk : Int) (by omega) (by omega)
      cases e0
      rw [Int.toNat_natCast] at hx0 hx1 hx2 hx3 hx4
      have hA := A0_.out
      have hd : l.drop kk = rd_T51 l (kk : Int) :: l.drop (kk + 1) := by
        show l.drop kk = l.getD kk z51 :: l.drop (kk + 1)
        rw [List.drop_eq_getElem_cons hlt, List.getD_eq_getElem?_getD, List.getElem?_eq_getElem hlt]
        rfl
      rw [hd] at hA
      simp only [idxO] at hA
      obtain ⟨b, hb, hA⟩ := Option.bind_eq_some_iff.1 hA
      have hcall := HP.out wr (rd_T51 l (kk : Int)) _ b BW.out (k51_mk wr _) hb
      clear hd hb A0_
      cases b with
      | true =>
        rw [if_pos rfl] at hA
        injection hA with hA
        subst hA
        go_wp2_with (go_at_fn g; refine hcall.mono ?_; rintro e w' ⟨rfl, hb'⟩)
        go_ret
        exact ⟨by first | rfl | (simp; done), below_step BW.out hb'⟩
      | false =>
        rw [if_neg (by decide)] at hA
        have HA := Aside0.mk hA
        clear hA
        go_wp2_with (go_at_fn g; refine hcall.mono ?_; rintro e w' ⟨rfl, hb'⟩)
        go_roundg (l.length - (kk + 1))
        case measure => omega
        case rel => exact ⟨kk + 1, by omega, by omega, by go_num, ⟨below_step BW.out hb'⟩, ⟨by have := HA.out; simpa using this⟩⟩
    · have hltz : ¬ (kk : Int) < (l.length : Int) := by omega
      have hA := A0_.out
      rw [List.drop_eq_nil_of_le (by omega)] at hA
      simp only [idxO, Option.some.injEq] at hA
      subst hA
      clear A0_
      go_wp2
      go_ret
      exact ⟨by first | rfl | (simp; done), BW.out⟩

/-! slices.ContainsFunc[[]cellar/api.Byte,cellar/api.Byte] -/
set_option maxHeartbeats 4000000 in
theorem ContainsFunc_T51 (p : S51 → Option Bool) (g : Nat) (lb : Array Value) (eg : ∀ args w, (callFunc g args).run Try.prog w = .ok (.enter g args) w) (A : Option Addr) (c : Nat) (l : List S51) (r : Bool) (w : World)
    (hr : Kd.C k51 w A l.length l) (hp : PredK Try.prog k51 g lb (fun cs => .agg cs.toArray) p w) (h : anyO p l = some r) :
    Calls Try.prog 37 #[.slice A l.length c, .func (.func g) #[] lb] w fun e w' => e = .returned (.bool r) ∧ Below w.heap.size w w' := by
  obtain ⟨j, hj, hd⟩ := idx_any p l 0 r (Int.le_refl 0) h
  have HI := Aside0.mk (IndexFunc_T51 p g lb eg A c l j w hr hp hj)
  subst hd
  clear hr hp h hj
  go_enter Try.func37, Try.ntmps37
  go_wp2_with (go_at_call 49; refine HI.out.mono ?_; rintro e w' ⟨rfl, hb'⟩)
  go_ret
  exact ⟨by first | rfl | (simp; done), hb'⟩
def api_Byte_37.f (l : List S51) (g : Nat) : Option Bool := if g = 38 then anyO (fun x => bytes_Get_1.f x.f0 x.f1 x.f2 x.f3 x.f4) l else (none)
theorem api_Byte_37.calls (A0 : Option Addr) (c0 : Nat) (l : List S51) (g : Nat) (r : Bool) (w : World) (hr0 : Kd.C k51 w A0 l.length l) (hc0 : l.length ≤ c0) (h : api_Byte_37.f l g = some r) :
    Calls Try.prog 37 #[.slice A0 l.length c0, .func (.func g) #[] #[]] w fun e w' => e = .returned (.bool r) ∧ Below w.heap.size w w' := by
  unfold api_Byte_37.f at h
  by_cases e38 : g = 38
  · subst e38
    rw [if_pos rfl] at h
    exact ContainsFunc_T51 _ 38 #[] (enters_of Try.func38 (by kernel_rfl) rfl) A0 c0 l r w hr0 (fun W x cs b hb hK hx => by
      obtain rfl := k51_open hK
      exact (bytes_Get_1.calls x.f0 x.f1 x.f2 x.f3 x.f4 b W hx).mono fun e w' ⟨he, hd⟩ => ⟨he, hd⟩) h
  rw [if_neg e38] at h
  exact absurd h (by simp)

/-! cellar/bytes.state$1 -/
theorem state_pred (B : Nat) (n : Int) (w : World) (hB : B < w.heap.size) (hcell : w.cell? ⟨B, 0, none⟩ = some (.int .i64 n)) :
    PredK Try.prog k51 56 #[.pointer (some ⟨B, 0, none⟩)] (fun cs => .agg cs.toArray) (fun x => some (x.f0 == n)) w := fun W x cs b hb hK hx => by
  obtain rfl := k51_open hK
  injection hx with hx
  subst hx
  have hc : W.cell? ⟨B, 0, none⟩ = some (.int .i64 n) := (hb.cell (p := ⟨B, 0, none⟩) hB).trans hcell
  have hBW : B < W.heap.size := Nat.lt_of_lt_of_le hB hb.size
  have hne : B ≠ W.heap.size := by omega
  have hu := Try.underlying51
  clear hcell
  show Calls Try.prog 56 #[.agg #[.int .i64 x.f0, .int .i64 x.f1, .int .i64 x.f2, .int .i64 x.f3, .int .i64 x.f4], .pointer (some ⟨B, 0, none⟩)] W _
  go_enter Try.func56, Try.ntmps56
  go_wp2
  all_goals (go_ret; exact ⟨by first | rfl | (simp; done), by repeat (first | exact Below.refl _ _ | apply below_alloc | apply pw_below_drewN | apply below_drew1)⟩)

/-! cellar/bytes.state -/
def bytes_state.f (l : List S51) (n : Int) : Option Bool := anyO (fun x => some (x.f0 == n)) l
set_option maxHeartbeats 4000000 in
theorem bytes_state.calls (A0 : Option Addr) (c0 : Nat) (l : List S51) (n : Int) (r : Bool) (w : World) (hr0 : Kd.C k51 w A0 l.length l) (hc0 : l.length ≤ c0) (h : bytes_state.f l n = some r) :
    Calls Try.prog 51 #[.slice A0 l.length c0, .int .i64 n] w fun e w' => e = .returned (.bool r) ∧ Below w.heap.size w w' := by
  have hb0 : Below w.heap.size w (w.alloc (.cells #[.int .i64 n] 3)) := below_alloc (Below.refl _ _) _
  have HC := Aside0.mk (ContainsFunc_T51 _ 56 #[.pointer (some ⟨w.heap.size, 0, none⟩)] (enters_of Try.func56 (by kernel_rfl) rfl) A0 c0 l r (w.alloc (.cells #[.int .i64 n] 3)) (Kd.C_below hr0 hb0) (state_pred w.heap.size n _ (by simp) (by simp)) h)
  have HB := Aside0.mk hb0
  clear hr0 hc0 h hb0
  go_enter Try.func51, Try.ntmps51
  go_wp2_with (go_at_call 37; refine HC.out.mono ?_; rintro e w' ⟨rfl, hb'⟩)
  go_ret
  exact ⟨by first | rfl | (simp; done), below_step HB.out hb'⟩

end Go.Proofs.Ythhdmanpjeminaa.B
