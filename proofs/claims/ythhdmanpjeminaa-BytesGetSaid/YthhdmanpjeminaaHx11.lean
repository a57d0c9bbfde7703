-- Written by this session's own edition of the print.
import Derived.Test.YthhdmanpjeminaaHx0
import Derived.Test.YthhdmanpjeminaaHx6
import Derived.Test.YthhdmanpjeminaaSq
import Derived.Test.YthhdmanpjeminaaSq2
namespace Go.Proofs.Ythhdmanpjeminaa.H
open Go.RowKit Go.Proofs.Ythhdmanpjeminaa.Fn Go.Proofs.YthhdmanpjeminaaW.PrintWords Go.Proofs.YthhdmanpjeminaaW.PrintLast Go.Proofs.YthhdmanpjeminaaW.PrintMore
attribute [local go_sem] max2_int min2_int max_two min_two max_three min_three max_four min_four   -- for this text's walks alone
set_option linter.unusedVariables false
set_option linter.unusedSimpArgs false

/-! cellarlaw8_num -/
def cellarlaw8_num.f (a0 : Int) : Option (Int) := some a0
set_option maxHeartbeats 8000000 in
set_option maxRecDepth 100000 in
theorem cellarlaw8_num.calls (a0 : Int) (r : Int) (w : World) (h : cellarlaw8_num.f a0 = some r) :
  Calls Try.prog 23 #[.int .i64 a0] w fun e w' => e = .returned (.int .i64 r) ∧ Drawn0 w w' := by
 have H : (some a0) = some r := h
 clear h
 obtain rfl := Option.some.inj H
 go_enter Try.func23, Try.ntmps23
 go_wp2
 go_ret
 exact ⟨zr, by repeat (first | exact Drawn0.refl _ | apply Drawn0.step)⟩

/-! word_IsKind -/
def word_IsKind.f (a0 : Int) : Option (Bool) := if a0 ≥ 1 then (some (decide (a0 ≤ 6))) else (some false)
set_option maxHeartbeats 8000000 in
set_option maxRecDepth 100000 in
theorem word_IsKind.calls (a0 : Int) (r : Bool) (w : World) (h : word_IsKind.f a0 = some r) :
  Calls Try.prog 53 #[.int .i64 a0] w fun e w' => e = .returned (.bool r) ∧ Drawn0 w w' := by
 have H : (if a0 ≥ 1 then (some (decide (a0 ≤ 6))) else (some false)) = some r := h
 clear h
 by_cases c2 : a0 ≥ 1
 ·rw [if_pos c2] at H
  have c2b0 : decide (1 ≤ a0) = true := decide_eq_true c2
  clear c2
  obtain rfl := Option.some.inj H
  go_enter Try.func53, Try.ntmps53
  go_wp2
  go_ret
  exact ⟨zr, by repeat (first | exact Drawn0.refl _ | apply Drawn0.step)⟩
 ·rw [if_neg c2] at H
  have c2b0 : decide (1 ≤ a0) = false := decide_eq_false c2
  clear c2
  obtain rfl := Option.some.inj H
  go_enter Try.func53, Try.ntmps53
  go_wp2
  go_ret
  exact ⟨zr, by repeat (first | exact Drawn0.refl _ | apply Drawn0.step)⟩

/-! word_Most -/
def word_Most.f (a0 : Int) : Option (Int) := if 0 ≤ a0 then (some (wrap64 ((shl .i64 1 a0) - 1))) else (none)
set_option maxHeartbeats 8000000 in
set_option maxRecDepth 100000 in
theorem word_Most.calls (a0 : Int) (r : Int) (w : World) (h : word_Most.f a0 = some r) :
  Calls Try.prog 57 #[.int .i64 a0] w fun e w' => e = .returned (.int .i64 r) ∧ Drawn0 w w' := by
 have H : (if 0 ≤ a0 then (some (wrap64 ((shl .i64 1 a0) - 1))) else (none)) = some r := h
 clear h
 by_cases c2 : 0 ≤ a0
 ·rw [if_pos c2] at H
  have c2b0 := eq_true c2
  have c2b1 : decide (0 ≤ a0) = true := decide_eq_true c2
  clear c2
  obtain ⟨ji3, hji3⟩ : ∃ j_ : Int, (shl .i64 1 a0) = j_ := ⟨_, rfl⟩
  replace H : (some (wrap64 ((ji3) - 1))) = some r := by first | (rw [hji3] at H; exact H) | (simp only [hji3] at H ⊢; exact H)
  have hji3_ : (IntKind.i64.wrap (1 * 2 ^ min a0.toNat 64)) = ji3 := hji3
  have hji3z : a0 ≤ 64 → (IntKind.i64.wrap (1 * 2 ^ a0.toNat)) = ji3 := shl_small hji3
  have hji3u : (IntKind.i64.wrap (2 ^ min a0.toNat 64)) = ji3 := by have h_ := hji3_; rw [Int.one_mul] at h_; exact h_
  have hji3v : a0 ≤ 64 → (IntKind.i64.wrap (2 ^ a0.toNat)) = ji3 := fun hle_ => by have h_ := hji3z hle_; rw [Int.one_mul] at h_; exact h_
  have hji3y : (wrap64 (1 * 2 ^ min a0.toNat 64)) = ji3 := (i64_w _).symm.trans hji3_
  have hji3x : a0 ≤ 64 → (wrap64 (1 * 2 ^ a0.toNat)) = ji3 := fun h_ => (i64_w _).symm.trans (hji3z h_)
  obtain rfl := Option.some.inj H
  go_enter Try.func57, Try.ntmps57
  go_wp2
  go_ret
  exact ⟨by first | rfl | (simp; done) | (simp only [← hji3] <;> (first | rfl | simp)) | (simp [*]; done), by repeat (first | exact Drawn0.refl _ | apply Drawn0.step)⟩
 ·rw [if_neg c2] at H
  exact absurd H (by simp)

/-! word_Is -/
def word_Is.f (a0 : Int) (a1 : Int) : Option (Bool) := if a0 ≥ 0 then ((word_Most.f a1).bind fun t245 => (some (decide (a0 ≤ t245)))) else (some false)
set_option maxHeartbeats 8000000 in
set_option maxRecDepth 100000 in
theorem word_Is.calls (a0 : Int) (a1 : Int) (r : Bool) (w : World) (h : word_Is.f a0 a1 = some r) :
  Calls Try.prog 54 #[.int .i64 a0, .int .i64 a1] w fun e w' => e = .returned (.bool r) ∧ Drawn0 w w' := by
 have H : (if a0 ≥ 0 then ((word_Most.f a1).bind fun t245 => (some (decide (a0 ≤ t245)))) else (some false)) = some r := h
 clear h
 by_cases c3 : a0 ≥ 0
 ·rw [if_pos c3] at H
  have c3b0 : decide (0 ≤ a0) = true := decide_eq_true c3
  clear c3
  replace H := Option.bind_eq_some_iff.mp H
  obtain ⟨t245, A40, H⟩ := H
  replace H : (some (decide (a0 ≤ t245))) = some r := H
  have A4 := Aside0.mk A40
  clear A40
  obtain rfl := Option.some.inj H
  go_enter Try.func54, Try.ntmps54
  go_wp2_with (first | (go_at_call 57; (with_reducible refine (word_Most.calls a1 t245 _ A4.out).mono ?_); rintro e w' ⟨rfl, ⟨nd, rfl⟩⟩))
  go_ret
  exact ⟨zr, by repeat (first | exact Drawn0.refl _ | apply Drawn0.step)⟩
 ·rw [if_neg c3] at H
  have c3b0 : decide (0 ≤ a0) = false := decide_eq_false c3
  clear c3
  obtain rfl := Option.some.inj H
  go_enter Try.func54, Try.ntmps54
  go_wp2
  go_ret
  exact ⟨zr, by repeat (first | exact Drawn0.refl _ | apply Drawn0.step)⟩

/-! bytes_May -/
def bytes_May.f (a0 : Int) (a1_0 : Bool) (a1_1 : Int) (a1_2 : Int) (a1_3 : Int) : Option (Bool) := (word_IsKind.f a0).bind fun t247 => (if t247 = true then (if a1_0 = true then (some false) else ((word_Of.f a0).bind fun t248 => ((word_Is.f a1_1 t248).bind fun t249 => (if t249 = true then (if a1_2 = 0 then (some (a1_3 == 0)) else (some false)) else (some false))))) else (if a0 = 7 then (if a1_0 = true then (if a1_1 = 0 then ((bytes_up.f a1_2 32).bind fun t250 => (if t250 = true then ((bytes_up.f a1_3 32).bind fun t251 => (if t251 = true then (if a1_2 > 0 then (some true) else (some (a1_3 == 0))) else (some false))) else (some false))) else (some false)) else (some false)) else (some false)))
set_option maxHeartbeats 8000000 in
set_option maxRecDepth 100000 in
theorem bytes_May.calls (a0 : Int) (a1_0 : Bool) (a1_1 : Int) (a1_2 : Int) (a1_3 : Int) (r : Bool) (w : World) (h : bytes_May.f a0 a1_0 a1_1 a1_2 a1_3 = some r) :
  Calls Try.prog 43 #[.int .i64 a0, .agg #[.bool a1_0, .int .i64 a1_1, .int .i64 a1_2, .int .i64 a1_3]] w fun e w' => e = .returned (.bool r) ∧ Below w.heap.size w w' := by
 have hu33 := Try.underlying33
 have HB := Aside0.mk (Below.refl w.heap.size w)
 have H : ((word_IsKind.f a0).bind fun t247 => (if t247 = true then (if a1_0 = true then (some false) else ((word_Of.f a0).bind fun t248 => ((word_Is.f a1_1 t248).bind fun t249 => (if t249 = true then (if a1_2 = 0 then (some (a1_3 == 0)) else (some false)) else (some false))))) else (if a0 = 7 then (if a1_0 = true then (if a1_1 = 0 then ((bytes_up.f a1_2 32).bind fun t250 => (if t250 = true then ((bytes_up.f a1_3 32).bind fun t251 => (if t251 = true then (if a1_2 > 0 then (some true) else (some (a1_3 == 0))) else (some false))) else (some false))) else (some false)) else (some false)) else (some false)))) = some r := h
 clear h
 replace H := Option.bind_eq_some_iff.mp H
 obtain ⟨t247, A30, H⟩ := H
 replace H : (if t247 = true then (if a1_0 = true then (some false) else ((word_Of.f a0).bind fun t248 => ((word_Is.f a1_1 t248).bind fun t249 => (if t249 = true then (if a1_2 = 0 then (some (a1_3 == 0)) else (some false)) else (some false))))) else (if a0 = 7 then (if a1_0 = true then (if a1_1 = 0 then ((bytes_up.f a1_2 32).bind fun t250 => (if t250 = true then ((bytes_up.f a1_3 32).bind fun t251 => (if t251 = true then (if a1_2 > 0 then (some true) else (some (a1_3 == 0))) else (some false))) else (some false))) else (some false)) else (some false)) else (some false))) = some r := H
 have A3 := Aside0.mk A30
 clear A30
 by_cases c4 : t247 = true
 ·subst c4
  have H1 : (if a1_0 = true then (some false) else ((word_Of.f a0).bind fun t248 => ((word_Is.f a1_1 t248).bind fun t249 => (if t249 = true then (if a1_2 = 0 then (some (a1_3 == 0)) else (some false)) else (some false))))) = some r := by rw [if_pos rfl] at H; exact H
  clear H
  have H := H1
  clear H1
  by_cases c5 : a1_0 = true
  ·subst c5
   have H1 : (some false) = some r := by rw [if_pos rfl] at H; exact H
   clear H
   have H := H1
   clear H1
   obtain rfl := Option.some.inj H
   go_enter Try.func43, Try.ntmps43
   go_wp2_with (first | ((with_reducible refine gate_dst (N := 3) rfl ?_); refine zbox (N := 3) (cs := #[.bool true, .int .i64 a1_1, .int .i64 a1_2, .int .i64 a1_3]) (t := 33) ?_; intro gb246 hg w6 hbox hb; have n0_ := Aside0.mk (below_step (zw0 HB.out) hb); have BK246 := Aside0.mk (hbox); have GW246 := Aside0.mk (zg hg (below_size (zw0 HB.out))); have GE246 := GW246; clear HB; have HB := n0_; clear n0_; clear hb hbox hg) | (go_at_call 53; (with_reducible refine (word_IsKind.calls a0 true _ A3.out).mono ?_); rintro e w' ⟨rfl, ⟨nd, rfl⟩⟩; (try first | exact ⟨rfl, _, World.drewN_drewN _ _ _⟩ | exact ⟨rfl, _, Eq.trans (World.drewN_drewN _ _ _) (congrArg (World.drewN _) (Nat.add_assoc _ _ _))⟩); have hcz7_0 := zc BK246.out 0; have hcz7_1 := zc BK246.out 1; have hcz7_2 := zc BK246.out 2; have hcz7_3 := zc BK246.out 3; have hfz7_0 := blk_frozen BK246.out 0; have hfz7_1 := blk_frozen BK246.out 1; have hfz7_2 := blk_frozen BK246.out 2; have hfz7_3 := blk_frozen BK246.out 3))
   repeat (go_quiet (first | ((with_reducible refine gate_dst (N := 3) rfl ?_); refine zbox (N := 3) (cs := #[.bool true, .int .i64 a1_1, .int .i64 a1_2, .int .i64 a1_3]) (t := 33) ?_; intro gb246 hg w6 hbox hb; have n0_ := Aside0.mk (below_step (zw0 HB.out) hb); have BK246 := Aside0.mk (hbox); have GW246 := Aside0.mk (zg hg (below_size (zw0 HB.out))); have GE246 := GW246; clear HB; have HB := n0_; clear n0_; clear hb hbox hg) | (go_at_call 53; (with_reducible refine (word_IsKind.calls a0 true _ A3.out).mono ?_); rintro e w' ⟨rfl, ⟨nd, rfl⟩⟩; (try first | exact ⟨rfl, _, World.drewN_drewN _ _ _⟩ | exact ⟨rfl, _, Eq.trans (World.drewN_drewN _ _ _) (congrArg (World.drewN _) (Nat.add_assoc _ _ _))⟩); have hcz7_0 := zc BK246.out 0; have hcz7_1 := zc BK246.out 1; have hcz7_2 := zc BK246.out 2; have hcz7_3 := zc BK246.out 3; have hfz7_0 := blk_frozen BK246.out 0; have hfz7_1 := blk_frozen BK246.out 1; have hfz7_2 := blk_frozen BK246.out 2; have hfz7_3 := blk_frozen BK246.out 3)); try go_wp2_with (first | ((with_reducible refine gate_dst (N := 3) rfl ?_); refine zbox (N := 3) (cs := #[.bool true, .int .i64 a1_1, .int .i64 a1_2, .int .i64 a1_3]) (t := 33) ?_; intro gb246 hg w6 hbox hb; have n0_ := Aside0.mk (below_step (zw0 HB.out) hb); have BK246 := Aside0.mk (hbox); have GW246 := Aside0.mk (zg hg (below_size (zw0 HB.out))); have GE246 := GW246; clear HB; have HB := n0_; clear n0_; clear hb hbox hg) | (go_at_call 53; (with_reducible refine (word_IsKind.calls a0 true _ A3.out).mono ?_); rintro e w' ⟨rfl, ⟨nd, rfl⟩⟩; (try first | exact ⟨rfl, _, World.drewN_drewN _ _ _⟩ | exact ⟨rfl, _, Eq.trans (World.drewN_drewN _ _ _) (congrArg (World.drewN _) (Nat.add_assoc _ _ _))⟩); have hcz7_0 := zc BK246.out 0; have hcz7_1 := zc BK246.out 1; have hcz7_2 := zc BK246.out 2; have hcz7_3 := zc BK246.out 3; have hfz7_0 := blk_frozen BK246.out 0; have hfz7_1 := blk_frozen BK246.out 1; have hfz7_2 := blk_frozen BK246.out 2; have hfz7_3 := blk_frozen BK246.out 3)))
   go_ret
   exact ⟨ze, zw1 HB.out GE246.out⟩
  replace c5 := Bool.eq_false_iff.mpr c5
  subst c5
  have H1 : ((word_Of.f a0).bind fun t248 => ((word_Is.f a1_1 t248).bind fun t249 => (if t249 = true then (if a1_2 = 0 then (some (a1_3 == 0)) else (some false)) else (some false)))) = some r := by rw [if_neg (show ¬ (false = true) by decide)] at H; exact H
  clear H
  have H := H1
  clear H1
  replace H := Option.bind_eq_some_iff.mp H
  obtain ⟨t248, A80, H⟩ := H
  replace H : ((word_Is.f a1_1 t248).bind fun t249 => (if t249 = true then (if a1_2 = 0 then (some (a1_3 == 0)) else (some false)) else (some false))) = some r := H
  have A8 := Aside0.mk A80
  clear A80
  replace H := Option.bind_eq_some_iff.mp H
  obtain ⟨t249, A90, H⟩ := H
  replace H : (if t249 = true then (if a1_2 = 0 then (some (a1_3 == 0)) else (some false)) else (some false)) = some r := H
  have A9 := Aside0.mk A90
  clear A90
  by_cases c10 : t249 = true
  rotate_left
  ·replace c10 := Bool.eq_false_iff.mpr c10
   subst c10
   have H1 : (some false) = some r := by rw [if_neg (show ¬ (false = true) by decide)] at H; exact H
   clear H
   have H := H1
   clear H1
   obtain rfl := Option.some.inj H
   go_enter Try.func43, Try.ntmps43
   go_wp2_with (first | ((with_reducible refine gate_dst (N := 3) rfl ?_); refine zbox (N := 3) (cs := #[.bool false, .int .i64 a1_1, .int .i64 a1_2, .int .i64 a1_3]) (t := 33) ?_; intro gb246 hg w16 hbox hb; have n0_ := Aside0.mk (below_step (zw0 HB.out) hb); have BK246 := Aside0.mk (hbox); have GW246 := Aside0.mk (zg hg (below_size (zw0 HB.out))); have GE246 := GW246; clear HB; have HB := n0_; clear n0_; clear hb hbox hg) | (go_at_call 53; (with_reducible refine (word_IsKind.calls a0 true _ A3.out).mono ?_); rintro e w' ⟨rfl, ⟨nd, rfl⟩⟩; (try first | exact ⟨rfl, _, World.drewN_drewN _ _ _⟩ | exact ⟨rfl, _, Eq.trans (World.drewN_drewN _ _ _) (congrArg (World.drewN _) (Nat.add_assoc _ _ _))⟩); have hcz17_0 := zc BK246.out 0; have hcz17_1 := zc BK246.out 1; have hcz17_2 := zc BK246.out 2; have hcz17_3 := zc BK246.out 3; have hfz17_0 := blk_frozen BK246.out 0; have hfz17_1 := blk_frozen BK246.out 1; have hfz17_2 := blk_frozen BK246.out 2; have hfz17_3 := blk_frozen BK246.out 3) | (go_at_call 48; (with_reducible refine (word_Of.calls a0 t248 _ A8.out).mono ?_); rintro e w' ⟨rfl, ⟨nd, rfl⟩⟩; (try first | exact ⟨rfl, _, World.drewN_drewN _ _ _⟩ | exact ⟨rfl, _, Eq.trans (World.drewN_drewN _ _ _) (congrArg (World.drewN _) (Nat.add_assoc _ _ _))⟩)) | (go_at_call 54; (with_reducible refine (word_Is.calls a1_1 t248 false _ A9.out).mono ?_); rintro e w' ⟨rfl, ⟨nd, rfl⟩⟩; (try first | exact ⟨rfl, _, World.drewN_drewN _ _ _⟩ | exact ⟨rfl, _, Eq.trans (World.drewN_drewN _ _ _) (congrArg (World.drewN _) (Nat.add_assoc _ _ _))⟩)))
   repeat (go_quiet (first | ((with_reducible refine gate_dst (N := 3) rfl ?_); refine zbox (N := 3) (cs := #[.bool false, .int .i64 a1_1, .int .i64 a1_2, .int .i64 a1_3]) (t := 33) ?_; intro gb246 hg w16 hbox hb; have n0_ := Aside0.mk (below_step (zw0 HB.out) hb); have BK246 := Aside0.mk (hbox); have GW246 := Aside0.mk (zg hg (below_size (zw0 HB.out))); have GE246 := GW246; clear HB; have HB := n0_; clear n0_; clear hb hbox hg) | (go_at_call 53; (with_reducible refine (word_IsKind.calls a0 true _ A3.out).mono ?_); rintro e w' ⟨rfl, ⟨nd, rfl⟩⟩; (try first | exact ⟨rfl, _, World.drewN_drewN _ _ _⟩ | exact ⟨rfl, _, Eq.trans (World.drewN_drewN _ _ _) (congrArg (World.drewN _) (Nat.add_assoc _ _ _))⟩); have hcz17_0 := zc BK246.out 0; have hcz17_1 := zc BK246.out 1; have hcz17_2 := zc BK246.out 2; have hcz17_3 := zc BK246.out 3; have hfz17_0 := blk_frozen BK246.out 0; have hfz17_1 := blk_frozen BK246.out 1; have hfz17_2 := blk_frozen BK246.out 2; have hfz17_3 := blk_frozen BK246.out 3) | (go_at_call 48; (with_reducible refine (word_Of.calls a0 t248 _ A8.out).mono ?_); rintro e w' ⟨rfl, ⟨nd, rfl⟩⟩; (try first | exact ⟨rfl, _, World.drewN_drewN _ _ _⟩ | exact ⟨rfl, _, Eq.trans (World.drewN_drewN _ _ _) (congrArg (World.drewN _) (Nat.add_assoc _ _ _))⟩)) | (go_at_call 54; (with_reducible refine (word_Is.calls a1_1 t248 false _ A9.out).mono ?_); rintro e w' ⟨rfl, ⟨nd, rfl⟩⟩; (try first | exact ⟨rfl, _, World.drewN_drewN _ _ _⟩ | exact ⟨rfl, _, Eq.trans (World.drewN_drewN _ _ _) (congrArg (World.drewN _) (Nat.add_assoc _ _ _))⟩))); try go_wp2_with (first | ((with_reducible refine gate_dst (N := 3) rfl ?_); refine zbox (N := 3) (cs := #[.bool false, .int .i64 a1_1, .int .i64 a1_2, .int .i64 a1_3]) (t := 33) ?_; intro gb246 hg w16 hbox hb; have n0_ := Aside0.mk (below_step (zw0 HB.out) hb); have BK246 := Aside0.mk (hbox); have GW246 := Aside0.mk (zg hg (below_size (zw0 HB.out))); have GE246 := GW246; clear HB; have HB := n0_; clear n0_; clear hb hbox hg) | (go_at_call 53; (with_reducible refine (word_IsKind.calls a0 true _ A3.out).mono ?_); rintro e w' ⟨rfl, ⟨nd, rfl⟩⟩; (try first | exact ⟨rfl, _, World.drewN_drewN _ _ _⟩ | exact ⟨rfl, _, Eq.trans (World.drewN_drewN _ _ _) (congrArg (World.drewN _) (Nat.add_assoc _ _ _))⟩); have hcz17_0 := zc BK246.out 0; have hcz17_1 := zc BK246.out 1; have hcz17_2 := zc BK246.out 2; have hcz17_3 := zc BK246.out 3; have hfz17_0 := blk_frozen BK246.out 0; have hfz17_1 := blk_frozen BK246.out 1; have hfz17_2 := blk_frozen BK246.out 2; have hfz17_3 := blk_frozen BK246.out 3) | (go_at_call 48; (with_reducible refine (word_Of.calls a0 t248 _ A8.out).mono ?_); rintro e w' ⟨rfl, ⟨nd, rfl⟩⟩; (try first | exact ⟨rfl, _, World.drewN_drewN _ _ _⟩ | exact ⟨rfl, _, Eq.trans (World.drewN_drewN _ _ _) (congrArg (World.drewN _) (Nat.add_assoc _ _ _))⟩)) | (go_at_call 54; (with_reducible refine (word_Is.calls a1_1 t248 false _ A9.out).mono ?_); rintro e w' ⟨rfl, ⟨nd, rfl⟩⟩; (try first | exact ⟨rfl, _, World.drewN_drewN _ _ _⟩ | exact ⟨rfl, _, Eq.trans (World.drewN_drewN _ _ _) (congrArg (World.drewN _) (Nat.add_assoc _ _ _))⟩))))
   go_ret
   exact ⟨ze, zw1 HB.out GE246.out⟩
  subst c10
  have H1 : (if a1_2 = 0 then (some (a1_3 == 0)) else (some false)) = some r := by rw [if_pos rfl] at H; exact H
  clear H
  have H := H1
  clear H1
  by_cases c11 : a1_2 = 0
  rotate_left
  ·rw [if_neg c11] at H
   have c11b0 : (a1_2 == 0) = false := beq_eq_false_iff_ne.mpr c11
   have c11b1 : (a1_2 != 0) = true := bne_iff_ne.mpr c11
   obtain rfl := Option.some.inj H
   go_enter Try.func43, Try.ntmps43
   go_wp2_with (first | ((with_reducible refine gate_dst (N := 3) rfl ?_); refine zbox (N := 3) (cs := #[.bool false, .int .i64 a1_1, .int .i64 a1_2, .int .i64 a1_3]) (t := 33) ?_; intro gb246 hg w14 hbox hb; have n0_ := Aside0.mk (below_step (zw0 HB.out) hb); have BK246 := Aside0.mk (hbox); have GW246 := Aside0.mk (zg hg (below_size (zw0 HB.out))); have GE246 := GW246; clear HB; have HB := n0_; clear n0_; clear hb hbox hg) | (go_at_call 53; (with_reducible refine (word_IsKind.calls a0 true _ A3.out).mono ?_); rintro e w' ⟨rfl, ⟨nd, rfl⟩⟩; (try first | exact ⟨rfl, _, World.drewN_drewN _ _ _⟩ | exact ⟨rfl, _, Eq.trans (World.drewN_drewN _ _ _) (congrArg (World.drewN _) (Nat.add_assoc _ _ _))⟩); have hcz15_0 := zc BK246.out 0; have hcz15_1 := zc BK246.out 1; have hcz15_2 := zc BK246.out 2; have hcz15_3 := zc BK246.out 3; have hfz15_0 := blk_frozen BK246.out 0; have hfz15_1 := blk_frozen BK246.out 1; have hfz15_2 := blk_frozen BK246.out 2; have hfz15_3 := blk_frozen BK246.out 3) | (go_at_call 48; (with_reducible refine (word_Of.calls a0 t248 _ A8.out).mono ?_); rintro e w' ⟨rfl, ⟨nd, rfl⟩⟩; (try first | exact ⟨rfl, _, World.drewN_drewN _ _ _⟩ | exact ⟨rfl, _, Eq.trans (World.drewN_drewN _ _ _) (congrArg (World.drewN _) (Nat.add_assoc _ _ _))⟩)) | (go_at_call 54; (with_reducible refine (word_Is.calls a1_1 t248 true _ A9.out).mono ?_); rintro e w' ⟨rfl, ⟨nd, rfl⟩⟩; (try first | exact ⟨rfl, _, World.drewN_drewN _ _ _⟩ | exact ⟨rfl, _, Eq.trans (World.drewN_drewN _ _ _) (congrArg (World.drewN _) (Nat.add_assoc _ _ _))⟩)))
   repeat (go_quiet (first | ((with_reducible refine gate_dst (N := 3) rfl ?_); refine zbox (N := 3) (cs := #[.bool false, .int .i64 a1_1, .int .i64 a1_2, .int .i64 a1_3]) (t := 33) ?_; intro gb246 hg w14 hbox hb; have n0_ := Aside0.mk (below_step (zw0 HB.out) hb); have BK246 := Aside0.mk (hbox); have GW246 := Aside0.mk (zg hg (below_size (zw0 HB.out))); have GE246 := GW246; clear HB; have HB := n0_; clear n0_; clear hb hbox hg) | (go_at_call 53; (with_reducible refine (word_IsKind.calls a0 true _ A3.out).mono ?_); rintro e w' ⟨rfl, ⟨nd, rfl⟩⟩; (try first | exact ⟨rfl, _, World.drewN_drewN _ _ _⟩ | exact ⟨rfl, _, Eq.trans (World.drewN_drewN _ _ _) (congrArg (World.drewN _) (Nat.add_assoc _ _ _))⟩); have hcz15_0 := zc BK246.out 0; have hcz15_1 := zc BK246.out 1; have hcz15_2 := zc BK246.out 2; have hcz15_3 := zc BK246.out 3; have hfz15_0 := blk_frozen BK246.out 0; have hfz15_1 := blk_frozen BK246.out 1; have hfz15_2 := blk_frozen BK246.out 2; have hfz15_3 := blk_frozen BK246.out 3) | (go_at_call 48; (with_reducible refine (word_Of.calls a0 t248 _ A8.out).mono ?_); rintro e w' ⟨rfl, ⟨nd, rfl⟩⟩; (try first | exact ⟨rfl, _, World.drewN_drewN _ _ _⟩ | exact ⟨rfl, _, Eq.trans (World.drewN_drewN _ _ _) (congrArg (World.drewN _) (Nat.add_assoc _ _ _))⟩)) | (go_at_call 54; (with_reducible refine (word_Is.calls a1_1 t248 true _ A9.out).mono ?_); rintro e w' ⟨rfl, ⟨nd, rfl⟩⟩; (try first | exact ⟨rfl, _, World.drewN_drewN _ _ _⟩ | exact ⟨rfl, _, Eq.trans (World.drewN_drewN _ _ _) (congrArg (World.drewN _) (Nat.add_assoc _ _ _))⟩))); try go_wp2_with (first | ((with_reducible refine gate_dst (N := 3) rfl ?_); refine zbox (N := 3) (cs := #[.bool false, .int .i64 a1_1, .int .i64 a1_2, .int .i64 a1_3]) (t := 33) ?_; intro gb246 hg w14 hbox hb; have n0_ := Aside0.mk (below_step (zw0 HB.out) hb); have BK246 := Aside0.mk (hbox); have GW246 := Aside0.mk (zg hg (below_size (zw0 HB.out))); have GE246 := GW246; clear HB; have HB := n0_; clear n0_; clear hb hbox hg) | (go_at_call 53; (with_reducible refine (word_IsKind.calls a0 true _ A3.out).mono ?_); rintro e w' ⟨rfl, ⟨nd, rfl⟩⟩; (try first | exact ⟨rfl, _, World.drewN_drewN _ _ _⟩ | exact ⟨rfl, _, Eq.trans (World.drewN_drewN _ _ _) (congrArg (World.drewN _) (Nat.add_assoc _ _ _))⟩); have hcz15_0 := zc BK246.out 0; have hcz15_1 := zc BK246.out 1; have hcz15_2 := zc BK246.out 2; have hcz15_3 := zc BK246.out 3; have hfz15_0 := blk_frozen BK246.out 0; have hfz15_1 := blk_frozen BK246.out 1; have hfz15_2 := blk_frozen BK246.out 2; have hfz15_3 := blk_frozen BK246.out 3) | (go_at_call 48; (with_reducible refine (word_Of.calls a0 t248 _ A8.out).mono ?_); rintro e w' ⟨rfl, ⟨nd, rfl⟩⟩; (try first | exact ⟨rfl, _, World.drewN_drewN _ _ _⟩ | exact ⟨rfl, _, Eq.trans (World.drewN_drewN _ _ _) (congrArg (World.drewN _) (Nat.add_assoc _ _ _))⟩)) | (go_at_call 54; (with_reducible refine (word_Is.calls a1_1 t248 true _ A9.out).mono ?_); rintro e w' ⟨rfl, ⟨nd, rfl⟩⟩; (try first | exact ⟨rfl, _, World.drewN_drewN _ _ _⟩ | exact ⟨rfl, _, Eq.trans (World.drewN_drewN _ _ _) (congrArg (World.drewN _) (Nat.add_assoc _ _ _))⟩))))
   go_ret
   exact ⟨ze, zw1 HB.out GE246.out⟩
  rw [if_pos c11] at H
  have c11b0 : (a1_2 == 0) = true := beq_iff_eq.mpr c11
  have c11b1 : (a1_2 != 0) = false := bne_eq_false_iff_eq.mpr c11
  clear c11
  obtain rfl := Option.some.inj H
  go_enter Try.func43, Try.ntmps43
  go_wp2_with (first | ((with_reducible refine gate_dst (N := 3) rfl ?_); refine zbox (N := 3) (cs := #[.bool false, .int .i64 a1_1, .int .i64 a1_2, .int .i64 a1_3]) (t := 33) ?_; intro gb246 hg w12 hbox hb; have n0_ := Aside0.mk (below_step (zw0 HB.out) hb); have BK246 := Aside0.mk (hbox); have GW246 := Aside0.mk (zg hg (below_size (zw0 HB.out))); have GE246 := GW246; clear HB; have HB := n0_; clear n0_; clear hb hbox hg) | (go_at_call 53; (with_reducible refine (word_IsKind.calls a0 true _ A3.out).mono ?_); rintro e w' ⟨rfl, ⟨nd, rfl⟩⟩; (try first | exact ⟨rfl, _, World.drewN_drewN _ _ _⟩ | exact ⟨rfl, _, Eq.trans (World.drewN_drewN _ _ _) (congrArg (World.drewN _) (Nat.add_assoc _ _ _))⟩); have hcz13_0 := zc BK246.out 0; have hcz13_1 := zc BK246.out 1; have hcz13_2 := zc BK246.out 2; have hcz13_3 := zc BK246.out 3; have hfz13_0 := blk_frozen BK246.out 0; have hfz13_1 := blk_frozen BK246.out 1; have hfz13_2 := blk_frozen BK246.out 2; have hfz13_3 := blk_frozen BK246.out 3) | (go_at_call 48; (with_reducible refine (word_Of.calls a0 t248 _ A8.out).mono ?_); rintro e w' ⟨rfl, ⟨nd, rfl⟩⟩; (try first | exact ⟨rfl, _, World.drewN_drewN _ _ _⟩ | exact ⟨rfl, _, Eq.trans (World.drewN_drewN _ _ _) (congrArg (World.drewN _) (Nat.add_assoc _ _ _))⟩)) | (go_at_call 54; (with_reducible refine (word_Is.calls a1_1 t248 true _ A9.out).mono ?_); rintro e w' ⟨rfl, ⟨nd, rfl⟩⟩; (try first | exact ⟨rfl, _, World.drewN_drewN _ _ _⟩ | exact ⟨rfl, _, Eq.trans (World.drewN_drewN _ _ _) (congrArg (World.drewN _) (Nat.add_assoc _ _ _))⟩)))
  repeat (go_quiet (first | ((with_reducible refine gate_dst (N := 3) rfl ?_); refine zbox (N := 3) (cs := #[.bool false, .int .i64 a1_1, .int .i64 a1_2, .int .i64 a1_3]) (t := 33) ?_; intro gb246 hg w12 hbox hb; have n0_ := Aside0.mk (below_step (zw0 HB.out) hb); have BK246 := Aside0.mk (hbox); have GW246 := Aside0.mk (zg hg (below_size (zw0 HB.out))); have GE246 := GW246; clear HB; have HB := n0_; clear n0_; clear hb hbox hg) | (go_at_call 53; (with_reducible refine (word_IsKind.calls a0 true _ A3.out).mono ?_); rintro e w' ⟨rfl, ⟨nd, rfl⟩⟩; (try first | exact ⟨rfl, _, World.drewN_drewN _ _ _⟩ | exact ⟨rfl, _, Eq.trans (World.drewN_drewN _ _ _) (congrArg (World.drewN _) (Nat.add_assoc _ _ _))⟩); have hcz13_0 := zc BK246.out 0; have hcz13_1 := zc BK246.out 1; have hcz13_2 := zc BK246.out 2; have hcz13_3 := zc BK246.out 3; have hfz13_0 := blk_frozen BK246.out 0; have hfz13_1 := blk_frozen BK246.out 1; have hfz13_2 := blk_frozen BK246.out 2; have hfz13_3 := blk_frozen BK246.out 3) | (go_at_call 48; (with_reducible refine (word_Of.calls a0 t248 _ A8.out).mono ?_); rintro e w' ⟨rfl, ⟨nd, rfl⟩⟩; (try first | exact ⟨rfl, _, World.drewN_drewN _ _ _⟩ | exact ⟨rfl, _, Eq.trans (World.drewN_drewN _ _ _) (congrArg (World.drewN _) (Nat.add_assoc _ _ _))⟩)) | (go_at_call 54; (with_reducible refine (word_Is.calls a1_1 t248 true _ A9.out).mono ?_); rintro e w' ⟨rfl, ⟨nd, rfl⟩⟩; (try first | exact ⟨rfl, _, World.drewN_drewN _ _ _⟩ | exact ⟨rfl, _, Eq.trans (World.drewN_drewN _ _ _) (congrArg (World.drewN _) (Nat.add_assoc _ _ _))⟩))); try go_wp2_with (first | ((with_reducible refine gate_dst (N := 3) rfl ?_); refine zbox (N := 3) (cs := #[.bool false, .int .i64 a1_1, .int .i64 a1_2, .int .i64 a1_3]) (t := 33) ?_; intro gb246 hg w12 hbox hb; have n0_ := Aside0.mk (below_step (zw0 HB.out) hb); have BK246 := Aside0.mk (hbox); have GW246 := Aside0.mk (zg hg (below_size (zw0 HB.out))); have GE246 := GW246; clear HB; have HB := n0_; clear n0_; clear hb hbox hg) | (go_at_call 53; (with_reducible refine (word_IsKind.calls a0 true _ A3.out).mono ?_); rintro e w' ⟨rfl, ⟨nd, rfl⟩⟩; (try first | exact ⟨rfl, _, World.drewN_drewN _ _ _⟩ | exact ⟨rfl, _, Eq.trans (World.drewN_drewN _ _ _) (congrArg (World.drewN _) (Nat.add_assoc _ _ _))⟩); have hcz13_0 := zc BK246.out 0; have hcz13_1 := zc BK246.out 1; have hcz13_2 := zc BK246.out 2; have hcz13_3 := zc BK246.out 3; have hfz13_0 := blk_frozen BK246.out 0; have hfz13_1 := blk_frozen BK246.out 1; have hfz13_2 := blk_frozen BK246.out 2; have hfz13_3 := blk_frozen BK246.out 3) | (go_at_call 48; (with_reducible refine (word_Of.calls a0 t248 _ A8.out).mono ?_); rintro e w' ⟨rfl, ⟨nd, rfl⟩⟩; (try first | exact ⟨rfl, _, World.drewN_drewN _ _ _⟩ | exact ⟨rfl, _, Eq.trans (World.drewN_drewN _ _ _) (congrArg (World.drewN _) (Nat.add_assoc _ _ _))⟩)) | (go_at_call 54; (with_reducible refine (word_Is.calls a1_1 t248 true _ A9.out).mono ?_); rintro e w' ⟨rfl, ⟨nd, rfl⟩⟩; (try first | exact ⟨rfl, _, World.drewN_drewN _ _ _⟩ | exact ⟨rfl, _, Eq.trans (World.drewN_drewN _ _ _) (congrArg (World.drewN _) (Nat.add_assoc _ _ _))⟩))))
  go_ret
  exact ⟨ze, zw1 HB.out GE246.out⟩
 ·replace c4 := Bool.eq_false_iff.mpr c4
  subst c4
  have H1 : (if a0 = 7 then (if a1_0 = true then (if a1_1 = 0 then ((bytes_up.f a1_2 32).bind fun t250 => (if t250 = true then ((bytes_up.f a1_3 32).bind fun t251 => (if t251 = true then (if a1_2 > 0 then (some true) else (some (a1_3 == 0))) else (some false))) else (some false))) else (some false)) else (some false)) else (some false)) = some r := by rw [if_neg (show ¬ (false = true) by decide)] at H; exact H
  clear H
  have H := H1
  clear H1
  by_cases c18 : a0 = 7
  ·rw [if_pos c18] at H
   have c18b0 : (a0 == 7) = true := beq_iff_eq.mpr c18
   have c18b1 : (a0 != 7) = false := bne_eq_false_iff_eq.mpr c18
   clear c18
   by_cases c19 : a1_0 = true
   rotate_left
   ·replace c19 := Bool.eq_false_iff.mpr c19
    subst c19
    have H1 : (some false) = some r := by rw [if_neg (show ¬ (false = true) by decide)] at H; exact H
    clear H
    have H := H1
    clear H1
    obtain rfl := Option.some.inj H
    go_enter Try.func43, Try.ntmps43
    go_wp2_with (first | ((with_reducible refine gate_dst (N := 3) rfl ?_); refine zbox (N := 3) (cs := #[.bool false, .int .i64 a1_1, .int .i64 a1_2, .int .i64 a1_3]) (t := 33) ?_; intro gb246 hg w36 hbox hb; have n0_ := Aside0.mk (below_step (zw0 HB.out) hb); have BK246 := Aside0.mk (hbox); have GW246 := Aside0.mk (zg hg (below_size (zw0 HB.out))); have GE246 := GW246; clear HB; have HB := n0_; clear n0_; clear hb hbox hg) | (go_at_call 53; (with_reducible refine (word_IsKind.calls a0 false _ A3.out).mono ?_); rintro e w' ⟨rfl, ⟨nd, rfl⟩⟩; (try first | exact ⟨rfl, _, World.drewN_drewN _ _ _⟩ | exact ⟨rfl, _, Eq.trans (World.drewN_drewN _ _ _) (congrArg (World.drewN _) (Nat.add_assoc _ _ _))⟩); have hcz37_0 := zc BK246.out 0; have hcz37_1 := zc BK246.out 1; have hcz37_2 := zc BK246.out 2; have hcz37_3 := zc BK246.out 3; have hfz37_0 := blk_frozen BK246.out 0; have hfz37_1 := blk_frozen BK246.out 1; have hfz37_2 := blk_frozen BK246.out 2; have hfz37_3 := blk_frozen BK246.out 3))
    repeat (go_quiet (first | ((with_reducible refine gate_dst (N := 3) rfl ?_); refine zbox (N := 3) (cs := #[.bool false, .int .i64 a1_1, .int .i64 a1_2, .int .i64 a1_3]) (t := 33) ?_; intro gb246 hg w36 hbox hb; have n0_ := Aside0.mk (below_step (zw0 HB.out) hb); have BK246 := Aside0.mk (hbox); have GW246 := Aside0.mk (zg hg (below_size (zw0 HB.out))); have GE246 := GW246; clear HB; have HB := n0_; clear n0_; clear hb hbox hg) | (go_at_call 53; (with_reducible refine (word_IsKind.calls a0 false _ A3.out).mono ?_); rintro e w' ⟨rfl, ⟨nd, rfl⟩⟩; (try first | exact ⟨rfl, _, World.drewN_drewN _ _ _⟩ | exact ⟨rfl, _, Eq.trans (World.drewN_drewN _ _ _) (congrArg (World.drewN _) (Nat.add_assoc _ _ _))⟩); have hcz37_0 := zc BK246.out 0; have hcz37_1 := zc BK246.out 1; have hcz37_2 := zc BK246.out 2; have hcz37_3 := zc BK246.out 3; have hfz37_0 := blk_frozen BK246.out 0; have hfz37_1 := blk_frozen BK246.out 1; have hfz37_2 := blk_frozen BK246.out 2; have hfz37_3 := blk_frozen BK246.out 3)); try go_wp2_with (first | ((with_reducible refine gate_dst (N := 3) rfl ?_); refine zbox (N := 3) (cs := #[.bool false, .int .i64 a1_1, .int .i64 a1_2, .int .i64 a1_3]) (t := 33) ?_; intro gb246 hg w36 hbox hb; have n0_ := Aside0.mk (below_step (zw0 HB.out) hb); have BK246 := Aside0.mk (hbox); have GW246 := Aside0.mk (zg hg (below_size (zw0 HB.out))); have GE246 := GW246; clear HB; have HB := n0_; clear n0_; clear hb hbox hg) | (go_at_call 53; (with_reducible refine (word_IsKind.calls a0 false _ A3.out).mono ?_); rintro e w' ⟨rfl, ⟨nd, rfl⟩⟩; (try first | exact ⟨rfl, _, World.drewN_drewN _ _ _⟩ | exact ⟨rfl, _, Eq.trans (World.drewN_drewN _ _ _) (congrArg (World.drewN _) (Nat.add_assoc _ _ _))⟩); have hcz37_0 := zc BK246.out 0; have hcz37_1 := zc BK246.out 1; have hcz37_2 := zc BK246.out 2; have hcz37_3 := zc BK246.out 3; have hfz37_0 := blk_frozen BK246.out 0; have hfz37_1 := blk_frozen BK246.out 1; have hfz37_2 := blk_frozen BK246.out 2; have hfz37_3 := blk_frozen BK246.out 3)))
    go_ret
    exact ⟨ze, zw1 HB.out GE246.out⟩
   subst c19
   have H1 : (if a1_1 = 0 then ((bytes_up.f a1_2 32).bind fun t250 => (if t250 = true then ((bytes_up.f a1_3 32).bind fun t251 => (if t251 = true then (if a1_2 > 0 then (some true) else (some (a1_3 == 0))) else (some false))) else (some false))) else (some false)) = some r := by rw [if_pos rfl] at H; exact H
   clear H
   have H := H1
   clear H1
   by_cases c20 : a1_1 = 0
   rotate_left
   ·rw [if_neg c20] at H
    have c20b0 : (a1_1 == 0) = false := beq_eq_false_iff_ne.mpr c20
    have c20b1 : (a1_1 != 0) = true := bne_iff_ne.mpr c20
    obtain rfl := Option.some.inj H
    go_enter Try.func43, Try.ntmps43
    go_wp2_with (first | ((with_reducible refine gate_dst (N := 3) rfl ?_); refine zbox (N := 3) (cs := #[.bool true, .int .i64 a1_1, .int .i64 a1_2, .int .i64 a1_3]) (t := 33) ?_; intro gb246 hg w34 hbox hb; have n0_ := Aside0.mk (below_step (zw0 HB.out) hb); have BK246 := Aside0.mk (hbox); have GW246 := Aside0.mk (zg hg (below_size (zw0 HB.out))); have GE246 := GW246; clear HB; have HB := n0_; clear n0_; clear hb hbox hg) | (go_at_call 53; (with_reducible refine (word_IsKind.calls a0 false _ A3.out).mono ?_); rintro e w' ⟨rfl, ⟨nd, rfl⟩⟩; (try first | exact ⟨rfl, _, World.drewN_drewN _ _ _⟩ | exact ⟨rfl, _, Eq.trans (World.drewN_drewN _ _ _) (congrArg (World.drewN _) (Nat.add_assoc _ _ _))⟩); have hcz35_0 := zc BK246.out 0; have hcz35_1 := zc BK246.out 1; have hcz35_2 := zc BK246.out 2; have hcz35_3 := zc BK246.out 3; have hfz35_0 := blk_frozen BK246.out 0; have hfz35_1 := blk_frozen BK246.out 1; have hfz35_2 := blk_frozen BK246.out 2; have hfz35_3 := blk_frozen BK246.out 3))
    repeat (go_quiet (first | ((with_reducible refine gate_dst (N := 3) rfl ?_); refine zbox (N := 3) (cs := #[.bool true, .int .i64 a1_1, .int .i64 a1_2, .int .i64 a1_3]) (t := 33) ?_; intro gb246 hg w34 hbox hb; have n0_ := Aside0.mk (below_step (zw0 HB.out) hb); have BK246 := Aside0.mk (hbox); have GW246 := Aside0.mk (zg hg (below_size (zw0 HB.out))); have GE246 := GW246; clear HB; have HB := n0_; clear n0_; clear hb hbox hg) | (go_at_call 53; (with_reducible refine (word_IsKind.calls a0 false _ A3.out).mono ?_); rintro e w' ⟨rfl, ⟨nd, rfl⟩⟩; (try first | exact ⟨rfl, _, World.drewN_drewN _ _ _⟩ | exact ⟨rfl, _, Eq.trans (World.drewN_drewN _ _ _) (congrArg (World.drewN _) (Nat.add_assoc _ _ _))⟩); have hcz35_0 := zc BK246.out 0; have hcz35_1 := zc BK246.out 1; have hcz35_2 := zc BK246.out 2; have hcz35_3 := zc BK246.out 3; have hfz35_0 := blk_frozen BK246.out 0; have hfz35_1 := blk_frozen BK246.out 1; have hfz35_2 := blk_frozen BK246.out 2; have hfz35_3 := blk_frozen BK246.out 3)); try go_wp2_with (first | ((with_reducible refine gate_dst (N := 3) rfl ?_); refine zbox (N := 3) (cs := #[.bool true, .int .i64 a1_1, .int .i64 a1_2, .int .i64 a1_3]) (t := 33) ?_; intro gb246 hg w34 hbox hb; have n0_ := Aside0.mk (below_step (zw0 HB.out) hb); have BK246 := Aside0.mk (hbox); have GW246 := Aside0.mk (zg hg (below_size (zw0 HB.out))); have GE246 := GW246; clear HB; have HB := n0_; clear n0_; clear hb hbox hg) | (go_at_call 53; (with_reducible refine (word_IsKind.calls a0 false _ A3.out).mono ?_); rintro e w' ⟨rfl, ⟨nd, rfl⟩⟩; (try first | exact ⟨rfl, _, World.drewN_drewN _ _ _⟩ | exact ⟨rfl, _, Eq.trans (World.drewN_drewN _ _ _) (congrArg (World.drewN _) (Nat.add_assoc _ _ _))⟩); have hcz35_0 := zc BK246.out 0; have hcz35_1 := zc BK246.out 1; have hcz35_2 := zc BK246.out 2; have hcz35_3 := zc BK246.out 3; have hfz35_0 := blk_frozen BK246.out 0; have hfz35_1 := blk_frozen BK246.out 1; have hfz35_2 := blk_frozen BK246.out 2; have hfz35_3 := blk_frozen BK246.out 3)))
    go_ret
    exact ⟨ze, zw1 HB.out GE246.out⟩
   rw [if_pos c20] at H
   have c20b0 : (a1_1 == 0) = true := beq_iff_eq.mpr c20
   have c20b1 : (a1_1 != 0) = false := bne_eq_false_iff_eq.mpr c20
   clear c20
   replace H := Option.bind_eq_some_iff.mp H
   obtain ⟨t250, A210, H⟩ := H
   replace H : (if t250 = true then ((bytes_up.f a1_3 32).bind fun t251 => (if t251 = true then (if a1_2 > 0 then (some true) else (some (a1_3 == 0))) else (some false))) else (some false)) = some r := H
   have A21 := Aside0.mk A210
   clear A210
   by_cases c22 : t250 = true
   rotate_left
   ·replace c22 := Bool.eq_false_iff.mpr c22
    subst c22
    have H1 : (some false) = some r := by rw [if_neg (show ¬ (false = true) by decide)] at H; exact H
    clear H
    have H := H1
    clear H1
    obtain rfl := Option.some.inj H
    go_enter Try.func43, Try.ntmps43
    go_wp2_with (first | ((with_reducible refine gate_dst (N := 3) rfl ?_); refine zbox (N := 3) (cs := #[.bool true, .int .i64 a1_1, .int .i64 a1_2, .int .i64 a1_3]) (t := 33) ?_; intro gb246 hg w32 hbox hb; have n0_ := Aside0.mk (below_step (zw0 HB.out) hb); have BK246 := Aside0.mk (hbox); have GW246 := Aside0.mk (zg hg (below_size (zw0 HB.out))); have GE246 := GW246; clear HB; have HB := n0_; clear n0_; clear hb hbox hg) | (go_at_call 53; (with_reducible refine (word_IsKind.calls a0 false _ A3.out).mono ?_); rintro e w' ⟨rfl, ⟨nd, rfl⟩⟩; (try first | exact ⟨rfl, _, World.drewN_drewN _ _ _⟩ | exact ⟨rfl, _, Eq.trans (World.drewN_drewN _ _ _) (congrArg (World.drewN _) (Nat.add_assoc _ _ _))⟩); have hcz33_0 := zc BK246.out 0; have hcz33_1 := zc BK246.out 1; have hcz33_2 := zc BK246.out 2; have hcz33_3 := zc BK246.out 3; have hfz33_0 := blk_frozen BK246.out 0; have hfz33_1 := blk_frozen BK246.out 1; have hfz33_2 := blk_frozen BK246.out 2; have hfz33_3 := blk_frozen BK246.out 3) | (go_at_call 50; (with_reducible refine (bytes_up.calls a1_2 32 false _ A21.out).mono ?_); rintro e w' ⟨rfl, ⟨nd, rfl⟩⟩; (try first | exact ⟨rfl, _, World.drewN_drewN _ _ _⟩ | exact ⟨rfl, _, Eq.trans (World.drewN_drewN _ _ _) (congrArg (World.drewN _) (Nat.add_assoc _ _ _))⟩)))
    repeat (go_quiet (first | ((with_reducible refine gate_dst (N := 3) rfl ?_); refine zbox (N := 3) (cs := #[.bool true, .int .i64 a1_1, .int .i64 a1_2, .int .i64 a1_3]) (t := 33) ?_; intro gb246 hg w32 hbox hb; have n0_ := Aside0.mk (below_step (zw0 HB.out) hb); have BK246 := Aside0.mk (hbox); have GW246 := Aside0.mk (zg hg (below_size (zw0 HB.out))); have GE246 := GW246; clear HB; have HB := n0_; clear n0_; clear hb hbox hg) | (go_at_call 53; (with_reducible refine (word_IsKind.calls a0 false _ A3.out).mono ?_); rintro e w' ⟨rfl, ⟨nd, rfl⟩⟩; (try first | exact ⟨rfl, _, World.drewN_drewN _ _ _⟩ | exact ⟨rfl, _, Eq.trans (World.drewN_drewN _ _ _) (congrArg (World.drewN _) (Nat.add_assoc _ _ _))⟩); have hcz33_0 := zc BK246.out 0; have hcz33_1 := zc BK246.out 1; have hcz33_2 := zc BK246.out 2; have hcz33_3 := zc BK246.out 3; have hfz33_0 := blk_frozen BK246.out 0; have hfz33_1 := blk_frozen BK246.out 1; have hfz33_2 := blk_frozen BK246.out 2; have hfz33_3 := blk_frozen BK246.out 3) | (go_at_call 50; (with_reducible refine (bytes_up.calls a1_2 32 false _ A21.out).mono ?_); rintro e w' ⟨rfl, ⟨nd, rfl⟩⟩; (try first | exact ⟨rfl, _, World.drewN_drewN _ _ _⟩ | exact ⟨rfl, _, Eq.trans (World.drewN_drewN _ _ _) (congrArg (World.drewN _) (Nat.add_assoc _ _ _))⟩))); try go_wp2_with (first | ((with_reducible refine gate_dst (N := 3) rfl ?_); refine zbox (N := 3) (cs := #[.bool true, .int .i64 a1_1, .int .i64 a1_2, .int .i64 a1_3]) (t := 33) ?_; intro gb246 hg w32 hbox hb; have n0_ := Aside0.mk (below_step (zw0 HB.out) hb); have BK246 := Aside0.mk (hbox); have GW246 := Aside0.mk (zg hg (below_size (zw0 HB.out))); have GE246 := GW246; clear HB; have HB := n0_; clear n0_; clear hb hbox hg) | (go_at_call 53; (with_reducible refine (word_IsKind.calls a0 false _ A3.out).mono ?_); rintro e w' ⟨rfl, ⟨nd, rfl⟩⟩; (try first | exact ⟨rfl, _, World.drewN_drewN _ _ _⟩ | exact ⟨rfl, _, Eq.trans (World.drewN_drewN _ _ _) (congrArg (World.drewN _) (Nat.add_assoc _ _ _))⟩); have hcz33_0 := zc BK246.out 0; have hcz33_1 := zc BK246.out 1; have hcz33_2 := zc BK246.out 2; have hcz33_3 := zc BK246.out 3; have hfz33_0 := blk_frozen BK246.out 0; have hfz33_1 := blk_frozen BK246.out 1; have hfz33_2 := blk_frozen BK246.out 2; have hfz33_3 := blk_frozen BK246.out 3) | (go_at_call 50; (with_reducible refine (bytes_up.calls a1_2 32 false _ A21.out).mono ?_); rintro e w' ⟨rfl, ⟨nd, rfl⟩⟩; (try first | exact ⟨rfl, _, World.drewN_drewN _ _ _⟩ | exact ⟨rfl, _, Eq.trans (World.drewN_drewN _ _ _) (congrArg (World.drewN _) (Nat.add_assoc _ _ _))⟩))))
    go_ret
    exact ⟨ze, zw1 HB.out GE246.out⟩
   subst c22
   have H1 : ((bytes_up.f a1_3 32).bind fun t251 => (if t251 = true then (if a1_2 > 0 then (some true) else (some (a1_3 == 0))) else (some false))) = some r := by rw [if_pos rfl] at H; exact H
   clear H
   have H := H1
   clear H1
   replace H := Option.bind_eq_some_iff.mp H
   obtain ⟨t251, A230, H⟩ := H
   replace H : (if t251 = true then (if a1_2 > 0 then (some true) else (some (a1_3 == 0))) else (some false)) = some r := H
   have A23 := Aside0.mk A230
   clear A230
   by_cases c24 : t251 = true
   rotate_left
   ·replace c24 := Bool.eq_false_iff.mpr c24
    subst c24
    have H1 : (some false) = some r := by rw [if_neg (show ¬ (false = true) by decide)] at H; exact H
    clear H
    have H := H1
    clear H1
    obtain rfl := Option.some.inj H
    go_enter Try.func43, Try.ntmps43
    go_wp2_with (first | ((with_reducible refine gate_dst (N := 3) rfl ?_); refine zbox (N := 3) (cs := #[.bool true, .int .i64 a1_1, .int .i64 a1_2, .int .i64 a1_3]) (t := 33) ?_; intro gb246 hg w30 hbox hb; have n0_ := Aside0.mk (below_step (zw0 HB.out) hb); have BK246 := Aside0.mk (hbox); have GW246 := Aside0.mk (zg hg (below_size (zw0 HB.out))); have GE246 := GW246; clear HB; have HB := n0_; clear n0_; clear hb hbox hg) | (go_at_call 53; (with_reducible refine (word_IsKind.calls a0 false _ A3.out).mono ?_); rintro e w' ⟨rfl, ⟨nd, rfl⟩⟩; (try first | exact ⟨rfl, _, World.drewN_drewN _ _ _⟩ | exact ⟨rfl, _, Eq.trans (World.drewN_drewN _ _ _) (congrArg (World.drewN _) (Nat.add_assoc _ _ _))⟩); have hcz31_0 := zc BK246.out 0; have hcz31_1 := zc BK246.out 1; have hcz31_2 := zc BK246.out 2; have hcz31_3 := zc BK246.out 3; have hfz31_0 := blk_frozen BK246.out 0; have hfz31_1 := blk_frozen BK246.out 1; have hfz31_2 := blk_frozen BK246.out 2; have hfz31_3 := blk_frozen BK246.out 3) | (go_at_call 50; (with_reducible refine (bytes_up.calls a1_2 32 true _ A21.out).mono ?_); rintro e w' ⟨rfl, ⟨nd, rfl⟩⟩; (try first | exact ⟨rfl, _, World.drewN_drewN _ _ _⟩ | exact ⟨rfl, _, Eq.trans (World.drewN_drewN _ _ _) (congrArg (World.drewN _) (Nat.add_assoc _ _ _))⟩)) | (go_at_call 50; (with_reducible refine (bytes_up.calls a1_3 32 false _ A23.out).mono ?_); rintro e w' ⟨rfl, ⟨nd, rfl⟩⟩; (try first | exact ⟨rfl, _, World.drewN_drewN _ _ _⟩ | exact ⟨rfl, _, Eq.trans (World.drewN_drewN _ _ _) (congrArg (World.drewN _) (Nat.add_assoc _ _ _))⟩)))
    repeat (go_quiet (first | ((with_reducible refine gate_dst (N := 3) rfl ?_); refine zbox (N := 3) (cs := #[.bool true, .int .i64 a1_1, .int .i64 a1_2, .int .i64 a1_3]) (t := 33) ?_; intro gb246 hg w30 hbox hb; have n0_ := Aside0.mk (below_step (zw0 HB.out) hb); have BK246 := Aside0.mk (hbox); have GW246 := Aside0.mk (zg hg (below_size (zw0 HB.out))); have GE246 := GW246; clear HB; have HB := n0_; clear n0_; clear hb hbox hg) | (go_at_call 53; (with_reducible refine (word_IsKind.calls a0 false _ A3.out).mono ?_); rintro e w' ⟨rfl, ⟨nd, rfl⟩⟩; (try first | exact ⟨rfl, _, World.drewN_drewN _ _ _⟩ | exact ⟨rfl, _, Eq.trans (World.drewN_drewN _ _ _) (congrArg (World.drewN _) (Nat.add_assoc _ _ _))⟩); have hcz31_0 := zc BK246.out 0; have hcz31_1 := zc BK246.out 1; have hcz31_2 := zc BK246.out 2; have hcz31_3 := zc BK246.out 3; have hfz31_0 := blk_frozen BK246.out 0; have hfz31_1 := blk_frozen BK246.out 1; have hfz31_2 := blk_frozen BK246.out 2; have hfz31_3 := blk_frozen BK246.out 3) | (go_at_call 50; (with_reducible refine (bytes_up.calls a1_2 32 true _ A21.out).mono ?_); rintro e w' ⟨rfl, ⟨nd, rfl⟩⟩; (try first | exact ⟨rfl, _, World.drewN_drewN _ _ _⟩ | exact ⟨rfl, _, Eq.trans (World.drewN_drewN _ _ _) (congrArg (World.drewN _) (Nat.add_assoc _ _ _))⟩)) | (go_at_call 50; (with_reducible refine (bytes_up.calls a1_3 32 false _ A23.out).mono ?_); rintro e w' ⟨rfl, ⟨nd, rfl⟩⟩; (try first | exact ⟨rfl, _, World.drewN_drewN _ _ _⟩ | exact ⟨rfl, _, Eq.trans (World.drewN_drewN _ _ _) (congrArg (World.drewN _) (Nat.add_assoc _ _ _))⟩))); try go_wp2_with (first | ((with_reducible refine gate_dst (N := 3) rfl ?_); refine zbox (N := 3) (cs := #[.bool true, .int .i64 a1_1, .int .i64 a1_2, .int .i64 a1_3]) (t := 33) ?_; intro gb246 hg w30 hbox hb; have n0_ := Aside0.mk (below_step (zw0 HB.out) hb); have BK246 := Aside0.mk (hbox); have GW246 := Aside0.mk (zg hg (below_size (zw0 HB.out))); have GE246 := GW246; clear HB; have HB := n0_; clear n0_; clear hb hbox hg) | (go_at_call 53; (with_reducible refine (word_IsKind.calls a0 false _ A3.out).mono ?_); rintro e w' ⟨rfl, ⟨nd, rfl⟩⟩; (try first | exact ⟨rfl, _, World.drewN_drewN _ _ _⟩ | exact ⟨rfl, _, Eq.trans (World.drewN_drewN _ _ _) (congrArg (World.drewN _) (Nat.add_assoc _ _ _))⟩); have hcz31_0 := zc BK246.out 0; have hcz31_1 := zc BK246.out 1; have hcz31_2 := zc BK246.out 2; have hcz31_3 := zc BK246.out 3; have hfz31_0 := blk_frozen BK246.out 0; have hfz31_1 := blk_frozen BK246.out 1; have hfz31_2 := blk_frozen BK246.out 2; have hfz31_3 := blk_frozen BK246.out 3) | (go_at_call 50; (with_reducible refine (bytes_up.calls a1_2 32 true _ A21.out).mono ?_); rintro e w' ⟨rfl, ⟨nd, rfl⟩⟩; (try first | exact ⟨rfl, _, World.drewN_drewN _ _ _⟩ | exact ⟨rfl, _, Eq.trans (World.drewN_drewN _ _ _) (congrArg (World.drewN _) (Nat.add_assoc _ _ _))⟩)) | (go_at_call 50; (with_reducible refine (bytes_up.calls a1_3 32 false _ A23.out).mono ?_); rintro e w' ⟨rfl, ⟨nd, rfl⟩⟩; (try first | exact ⟨rfl, _, World.drewN_drewN _ _ _⟩ | exact ⟨rfl, _, Eq.trans (World.drewN_drewN _ _ _) (congrArg (World.drewN _) (Nat.add_assoc _ _ _))⟩))))
    go_ret
    exact ⟨ze, zw1 HB.out GE246.out⟩
   subst c24
   have H1 : (if a1_2 > 0 then (some true) else (some (a1_3 == 0))) = some r := by rw [if_pos rfl] at H; exact H
   clear H
   have H := H1
   clear H1
   by_cases c25 : a1_2 > 0
   ·rw [if_pos c25] at H
    have c25b0 : decide (0 < a1_2) = true := decide_eq_true c25
    clear c25
    obtain rfl := Option.some.inj H
    go_enter Try.func43, Try.ntmps43
    go_wp2_with (first | ((with_reducible refine gate_dst (N := 3) rfl ?_); refine zbox (N := 3) (cs := #[.bool true, .int .i64 a1_1, .int .i64 a1_2, .int .i64 a1_3]) (t := 33) ?_; intro gb246 hg w26 hbox hb; have n0_ := Aside0.mk (below_step (zw0 HB.out) hb); have BK246 := Aside0.mk (hbox); have GW246 := Aside0.mk (zg hg (below_size (zw0 HB.out))); have GE246 := GW246; clear HB; have HB := n0_; clear n0_; clear hb hbox hg) | (go_at_call 53; (with_reducible refine (word_IsKind.calls a0 false _ A3.out).mono ?_); rintro e w' ⟨rfl, ⟨nd, rfl⟩⟩; (try first | exact ⟨rfl, _, World.drewN_drewN _ _ _⟩ | exact ⟨rfl, _, Eq.trans (World.drewN_drewN _ _ _) (congrArg (World.drewN _) (Nat.add_assoc _ _ _))⟩); have hcz27_0 := zc BK246.out 0; have hcz27_1 := zc BK246.out 1; have hcz27_2 := zc BK246.out 2; have hcz27_3 := zc BK246.out 3; have hfz27_0 := blk_frozen BK246.out 0; have hfz27_1 := blk_frozen BK246.out 1; have hfz27_2 := blk_frozen BK246.out 2; have hfz27_3 := blk_frozen BK246.out 3) | (go_at_call 50; (with_reducible refine (bytes_up.calls a1_2 32 true _ A21.out).mono ?_); rintro e w' ⟨rfl, ⟨nd, rfl⟩⟩; (try first | exact ⟨rfl, _, World.drewN_drewN _ _ _⟩ | exact ⟨rfl, _, Eq.trans (World.drewN_drewN _ _ _) (congrArg (World.drewN _) (Nat.add_assoc _ _ _))⟩)) | (go_at_call 50; (with_reducible refine (bytes_up.calls a1_3 32 true _ A23.out).mono ?_); rintro e w' ⟨rfl, ⟨nd, rfl⟩⟩; (try first | exact ⟨rfl, _, World.drewN_drewN _ _ _⟩ | exact ⟨rfl, _, Eq.trans (World.drewN_drewN _ _ _) (congrArg (World.drewN _) (Nat.add_assoc _ _ _))⟩)))
    repeat (go_quiet (first | ((with_reducible refine gate_dst (N := 3) rfl ?_); refine zbox (N := 3) (cs := #[.bool true, .int .i64 a1_1, .int .i64 a1_2, .int .i64 a1_3]) (t := 33) ?_; intro gb246 hg w26 hbox hb; have n0_ := Aside0.mk (below_step (zw0 HB.out) hb); have BK246 := Aside0.mk (hbox); have GW246 := Aside0.mk (zg hg (below_size (zw0 HB.out))); have GE246 := GW246; clear HB; have HB := n0_; clear n0_; clear hb hbox hg) | (go_at_call 53; (with_reducible refine (word_IsKind.calls a0 false _ A3.out).mono ?_); rintro e w' ⟨rfl, ⟨nd, rfl⟩⟩; (try first | exact ⟨rfl, _, World.drewN_drewN _ _ _⟩ | exact ⟨rfl, _, Eq.trans (World.drewN_drewN _ _ _) (congrArg (World.drewN _) (Nat.add_assoc _ _ _))⟩); have hcz27_0 := zc BK246.out 0; have hcz27_1 := zc BK246.out 1; have hcz27_2 := zc BK246.out 2; have hcz27_3 := zc BK246.out 3; have hfz27_0 := blk_frozen BK246.out 0; have hfz27_1 := blk_frozen BK246.out 1; have hfz27_2 := blk_frozen BK246.out 2; have hfz27_3 := blk_frozen BK246.out 3) | (go_at_call 50; (with_reducible refine (bytes_up.calls a1_2 32 true _ A21.out).mono ?_); rintro e w' ⟨rfl, ⟨nd, rfl⟩⟩; (try first | exact ⟨rfl, _, World.drewN_drewN _ _ _⟩ | exact ⟨rfl, _, Eq.trans (World.drewN_drewN _ _ _) (congrArg (World.drewN _) (Nat.add_assoc _ _ _))⟩)) | (go_at_call 50; (with_reducible refine (bytes_up.calls a1_3 32 true _ A23.out).mono ?_); rintro e w' ⟨rfl, ⟨nd, rfl⟩⟩; (try first | exact ⟨rfl, _, World.drewN_drewN _ _ _⟩ | exact ⟨rfl, _, Eq.trans (World.drewN_drewN _ _ _) (congrArg (World.drewN _) (Nat.add_assoc _ _ _))⟩))); try go_wp2_with (first | ((with_reducible refine gate_dst (N := 3) rfl ?_); refine zbox (N := 3) (cs := #[.bool true, .int .i64 a1_1, .int .i64 a1_2, .int .i64 a1_3]) (t := 33) ?_; intro gb246 hg w26 hbox hb; have n0_ := Aside0.mk (below_step (zw0 HB.out) hb); have BK246 := Aside0.mk (hbox); have GW246 := Aside0.mk (zg hg (below_size (zw0 HB.out))); have GE246 := GW246; clear HB; have HB := n0_; clear n0_; clear hb hbox hg) | (go_at_call 53; (with_reducible refine (word_IsKind.calls a0 false _ A3.out).mono ?_); rintro e w' ⟨rfl, ⟨nd, rfl⟩⟩; (try first | exact ⟨rfl, _, World.drewN_drewN _ _ _⟩ | exact ⟨rfl, _, Eq.trans (World.drewN_drewN _ _ _) (congrArg (World.drewN _) (Nat.add_assoc _ _ _))⟩); have hcz27_0 := zc BK246.out 0; have hcz27_1 := zc BK246.out 1; have hcz27_2 := zc BK246.out 2; have hcz27_3 := zc BK246.out 3; have hfz27_0 := blk_frozen BK246.out 0; have hfz27_1 := blk_frozen BK246.out 1; have hfz27_2 := blk_frozen BK246.out 2; have hfz27_3 := blk_frozen BK246.out 3) | (go_at_call 50; (with_reducible refine (bytes_up.calls a1_2 32 true _ A21.out).mono ?_); rintro e w' ⟨rfl, ⟨nd, rfl⟩⟩; (try first | exact ⟨rfl, _, World.drewN_drewN _ _ _⟩ | exact ⟨rfl, _, Eq.trans (World.drewN_drewN _ _ _) (congrArg (World.drewN _) (Nat.add_assoc _ _ _))⟩)) | (go_at_call 50; (with_reducible refine (bytes_up.calls a1_3 32 true _ A23.out).mono ?_); rintro e w' ⟨rfl, ⟨nd, rfl⟩⟩; (try first | exact ⟨rfl, _, World.drewN_drewN _ _ _⟩ | exact ⟨rfl, _, Eq.trans (World.drewN_drewN _ _ _) (congrArg (World.drewN _) (Nat.add_assoc _ _ _))⟩))))
    go_ret
    exact ⟨ze, zw1 HB.out GE246.out⟩
   rw [if_neg c25] at H
   have c25b0 : decide (0 < a1_2) = false := decide_eq_false c25
   clear c25
   obtain rfl := Option.some.inj H
   go_enter Try.func43, Try.ntmps43
   go_wp2_with (first | ((with_reducible refine gate_dst (N := 3) rfl ?_); refine zbox (N := 3) (cs := #[.bool true, .int .i64 a1_1, .int .i64 a1_2, .int .i64 a1_3]) (t := 33) ?_; intro gb246 hg w28 hbox hb; have n0_ := Aside0.mk (below_step (zw0 HB.out) hb); have BK246 := Aside0.mk (hbox); have GW246 := Aside0.mk (zg hg (below_size (zw0 HB.out))); have GE246 := GW246; clear HB; have HB := n0_; clear n0_; clear hb hbox hg) | (go_at_call 53; (with_reducible refine (word_IsKind.calls a0 false _ A3.out).mono ?_); rintro e w' ⟨rfl, ⟨nd, rfl⟩⟩; (try first | exact ⟨rfl, _, World.drewN_drewN _ _ _⟩ | exact ⟨rfl, _, Eq.trans (World.drewN_drewN _ _ _) (congrArg (World.drewN _) (Nat.add_assoc _ _ _))⟩); have hcz29_0 := zc BK246.out 0; have hcz29_1 := zc BK246.out 1; have hcz29_2 := zc BK246.out 2; have hcz29_3 := zc BK246.out 3; have hfz29_0 := blk_frozen BK246.out 0; have hfz29_1 := blk_frozen BK246.out 1; have hfz29_2 := blk_frozen BK246.out 2; have hfz29_3 := blk_frozen BK246.out 3) | (go_at_call 50; (with_reducible refine (bytes_up.calls a1_2 32 true _ A21.out).mono ?_); rintro e w' ⟨rfl, ⟨nd, rfl⟩⟩; (try first | exact ⟨rfl, _, World.drewN_drewN _ _ _⟩ | exact ⟨rfl, _, Eq.trans (World.drewN_drewN _ _ _) (congrArg (World.drewN _) (Nat.add_assoc _ _ _))⟩)) | (go_at_call 50; (with_reducible refine (bytes_up.calls a1_3 32 true _ A23.out).mono ?_); rintro e w' ⟨rfl, ⟨nd, rfl⟩⟩; (try first | exact ⟨rfl, _, World.drewN_drewN _ _ _⟩ | exact ⟨rfl, _, Eq.trans (World.drewN_drewN _ _ _) (congrArg (World.drewN _) (Nat.add_assoc _ _ _))⟩)))
   repeat (go_quiet (first | ((with_reducible refine gate_dst (N := 3) rfl ?_); refine zbox (N := 3) (cs := #[.bool true, .int .i64 a1_1, .int .i64 a1_2, .int .i64 a1_3]) (t := 33) ?_; intro gb246 hg w28 hbox hb; have n0_ := Aside0.mk (below_step (zw0 HB.out) hb); have BK246 := Aside0.mk (hbox); have GW246 := Aside0.mk (zg hg (below_size (zw0 HB.out))); have GE246 := GW246; clear HB; have HB := n0_; clear n0_; clear hb hbox hg) | (go_at_call 53; (with_reducible refine (word_IsKind.calls a0 false _ A3.out).mono ?_); rintro e w' ⟨rfl, ⟨nd, rfl⟩⟩; (try first | exact ⟨rfl, _, World.drewN_drewN _ _ _⟩ | exact ⟨rfl, _, Eq.trans (World.drewN_drewN _ _ _) (congrArg (World.drewN _) (Nat.add_assoc _ _ _))⟩); have hcz29_0 := zc BK246.out 0; have hcz29_1 := zc BK246.out 1; have hcz29_2 := zc BK246.out 2; have hcz29_3 := zc BK246.out 3; have hfz29_0 := blk_frozen BK246.out 0; have hfz29_1 := blk_frozen BK246.out 1; have hfz29_2 := blk_frozen BK246.out 2; have hfz29_3 := blk_frozen BK246.out 3) | (go_at_call 50; (with_reducible refine (bytes_up.calls a1_2 32 true _ A21.out).mono ?_); rintro e w' ⟨rfl, ⟨nd, rfl⟩⟩; (try first | exact ⟨rfl, _, World.drewN_drewN _ _ _⟩ | exact ⟨rfl, _, Eq.trans (World.drewN_drewN _ _ _) (congrArg (World.drewN _) (Nat.add_assoc _ _ _))⟩)) | (go_at_call 50; (with_reducible refine (bytes_up.calls a1_3 32 true _ A23.out).mono ?_); rintro e w' ⟨rfl, ⟨nd, rfl⟩⟩; (try first | exact ⟨rfl, _, World.drewN_drewN _ _ _⟩ | exact ⟨rfl, _, Eq.trans (World.drewN_drewN _ _ _) (congrArg (World.drewN _) (Nat.add_assoc _ _ _))⟩))); try go_wp2_with (first | ((with_reducible refine gate_dst (N := 3) rfl ?_); refine zbox (N := 3) (cs := #[.bool true, .int .i64 a1_1, .int .i64 a1_2, .int .i64 a1_3]) (t := 33) ?_; intro gb246 hg w28 hbox hb; have n0_ := Aside0.mk (below_step (zw0 HB.out) hb); have BK246 := Aside0.mk (hbox); have GW246 := Aside0.mk (zg hg (below_size (zw0 HB.out))); have GE246 := GW246; clear HB; have HB := n0_; clear n0_; clear hb hbox hg) | (go_at_call 53; (with_reducible refine (word_IsKind.calls a0 false _ A3.out).mono ?_); rintro e w' ⟨rfl, ⟨nd, rfl⟩⟩; (try first | exact ⟨rfl, _, World.drewN_drewN _ _ _⟩ | exact ⟨rfl, _, Eq.trans (World.drewN_drewN _ _ _) (congrArg (World.drewN _) (Nat.add_assoc _ _ _))⟩); have hcz29_0 := zc BK246.out 0; have hcz29_1 := zc BK246.out 1; have hcz29_2 := zc BK246.out 2; have hcz29_3 := zc BK246.out 3; have hfz29_0 := blk_frozen BK246.out 0; have hfz29_1 := blk_frozen BK246.out 1; have hfz29_2 := blk_frozen BK246.out 2; have hfz29_3 := blk_frozen BK246.out 3) | (go_at_call 50; (with_reducible refine (bytes_up.calls a1_2 32 true _ A21.out).mono ?_); rintro e w' ⟨rfl, ⟨nd, rfl⟩⟩; (try first | exact ⟨rfl, _, World.drewN_drewN _ _ _⟩ | exact ⟨rfl, _, Eq.trans (World.drewN_drewN _ _ _) (congrArg (World.drewN _) (Nat.add_assoc _ _ _))⟩)) | (go_at_call 50; (with_reducible refine (bytes_up.calls a1_3 32 true _ A23.out).mono ?_); rintro e w' ⟨rfl, ⟨nd, rfl⟩⟩; (try first | exact ⟨rfl, _, World.drewN_drewN _ _ _⟩ | exact ⟨rfl, _, Eq.trans (World.drewN_drewN _ _ _) (congrArg (World.drewN _) (Nat.add_assoc _ _ _))⟩))))
   go_ret
   exact ⟨ze, zw1 HB.out GE246.out⟩
  ·rw [if_neg c18] at H
   have c18b0 : (a0 == 7) = false := beq_eq_false_iff_ne.mpr c18
   have c18b1 : (a0 != 7) = true := bne_iff_ne.mpr c18
   obtain rfl := Option.some.inj H
   go_enter Try.func43, Try.ntmps43
   go_wp2_with (first | ((with_reducible refine gate_dst (N := 3) rfl ?_); refine zbox (N := 3) (cs := #[.bool a1_0, .int .i64 a1_1, .int .i64 a1_2, .int .i64 a1_3]) (t := 33) ?_; intro gb246 hg w38 hbox hb; have n0_ := Aside0.mk (below_step (zw0 HB.out) hb); have BK246 := Aside0.mk (hbox); have GW246 := Aside0.mk (zg hg (below_size (zw0 HB.out))); have GE246 := GW246; clear HB; have HB := n0_; clear n0_; clear hb hbox hg) | (go_at_call 53; (with_reducible refine (word_IsKind.calls a0 false _ A3.out).mono ?_); rintro e w' ⟨rfl, ⟨nd, rfl⟩⟩; (try first | exact ⟨rfl, _, World.drewN_drewN _ _ _⟩ | exact ⟨rfl, _, Eq.trans (World.drewN_drewN _ _ _) (congrArg (World.drewN _) (Nat.add_assoc _ _ _))⟩)))
   repeat (go_quiet (first | ((with_reducible refine gate_dst (N := 3) rfl ?_); refine zbox (N := 3) (cs := #[.bool a1_0, .int .i64 a1_1, .int .i64 a1_2, .int .i64 a1_3]) (t := 33) ?_; intro gb246 hg w38 hbox hb; have n0_ := Aside0.mk (below_step (zw0 HB.out) hb); have BK246 := Aside0.mk (hbox); have GW246 := Aside0.mk (zg hg (below_size (zw0 HB.out))); have GE246 := GW246; clear HB; have HB := n0_; clear n0_; clear hb hbox hg) | (go_at_call 53; (with_reducible refine (word_IsKind.calls a0 false _ A3.out).mono ?_); rintro e w' ⟨rfl, ⟨nd, rfl⟩⟩; (try first | exact ⟨rfl, _, World.drewN_drewN _ _ _⟩ | exact ⟨rfl, _, Eq.trans (World.drewN_drewN _ _ _) (congrArg (World.drewN _) (Nat.add_assoc _ _ _))⟩))); try go_wp2_with (first | ((with_reducible refine gate_dst (N := 3) rfl ?_); refine zbox (N := 3) (cs := #[.bool a1_0, .int .i64 a1_1, .int .i64 a1_2, .int .i64 a1_3]) (t := 33) ?_; intro gb246 hg w38 hbox hb; have n0_ := Aside0.mk (below_step (zw0 HB.out) hb); have BK246 := Aside0.mk (hbox); have GW246 := Aside0.mk (zg hg (below_size (zw0 HB.out))); have GE246 := GW246; clear HB; have HB := n0_; clear n0_; clear hb hbox hg) | (go_at_call 53; (with_reducible refine (word_IsKind.calls a0 false _ A3.out).mono ?_); rintro e w' ⟨rfl, ⟨nd, rfl⟩⟩; (try first | exact ⟨rfl, _, World.drewN_drewN _ _ _⟩ | exact ⟨rfl, _, Eq.trans (World.drewN_drewN _ _ _) (congrArg (World.drewN _) (Nat.add_assoc _ _ _))⟩))))
   go_ret
   exact ⟨ze, zw1 HB.out GE246.out⟩

/-! api_Byte_55 -/
def api_Byte_55.l0 : Nat → List (S51) → Int → Int → Option ((List (S51)))
 | 0, _, _, _ => none
 | k + 1, x0, x2, x3 => if x2 < x3 then (if 0 ≤ x3 then (if x3 < (x0.length : Int) then (if 0 ≤ x2 then (if x2 < (x0.length : Int) then (api_Byte_55.l0 k ((x0.set (x2 : Int).toNat (⟨(rd_T51 x0 x3).f0, (rd_T51 x0 x3).f1, (rd_T51 x0 x3).f2, (rd_T51 x0 x3).f3, (rd_T51 x0 x3).f4⟩ : S51)).set (x3 : Int).toNat (⟨(rd_T51 x0 x2).f0, (rd_T51 x0 x2).f1, (rd_T51 x0 x2).f2, (rd_T51 x0 x2).f3, (rd_T51 x0 x2).f4⟩ : S51)) (wrap64 (x2 + 1)) (wrap64 (x3 - 1))) else (none)) else (none)) else (none)) else (none)) else (some x0)
def api_Byte_55.f (k : Nat) (l0 : List (S51)) : Option ((List (S51))) := api_Byte_55.l0 k l0 0 (wrap64 ((l0.length : Int) - 1))
theorem api_Byte_55.mono_l : ∀ k, (∀ y0 y1 y2, LeO (api_Byte_55.l0 k y0 y1 y2) (api_Byte_55.l0 (k + 1) y0 y1 y2))
 | 0 => fun _ _ _ r h => by simp [api_Byte_55.l0] at h
 | k + 1 => by
  have ih0 := api_Byte_55.mono_l k
  ·intro y0 y1 y2
   unfold api_Byte_55.l0
   repeat' first
   | (with_reducible apply ih0)
   | (with_reducible apply LeO.refl)
   | (with_reducible apply LeO.none)
   | (with_reducible refine LeO.ite ?_ ?_)
   | (with_reducible refine LeO.bind ?_ (fun _ => ?_))
theorem api_Byte_55.mono : ∀ a0 k, LeO (api_Byte_55.f k a0) (api_Byte_55.f (k + 1) a0) := by
 intro a0 k
 have ih0 := api_Byte_55.mono_l k
 unfold api_Byte_55.f
 repeat' first
   | (with_reducible apply ih0)
   | (with_reducible apply LeO.refl)
   | (with_reducible apply LeO.none)
   | (with_reducible refine LeO.ite ?_ ?_)
   | (with_reducible refine LeO.bind ?_ (fun _ => ?_))
def api_Byte_55.T3 : Bool × List (List Nat × List Nat) := (true, [([], []), ([], []), ([], []), ([], []), ([], []), ([], []), ([4, 5], [4, 5]), ([6], [6]), ([], []), ([], []), ([8, 9], [8, 9]), ([10], [10]), ([0, 1, 0, 1, 4, 5, 6, 7, 11], [0, 1]), ([12, 7, 0, 1, 4, 5, 6, 7, 11], [7, 12]), ([2, 3, 0, 1, 2, 3, 4, 5, 6, 7, 8, 9, 10, 11, 12, 13], [2, 3]), ([14, 11, 13, 0, 1, 2, 3, 4, 5, 6, 7, 8, 9, 10, 11, 12, 13], [11, 14])])
def api_Byte_55.B3 : List Nat := [0, 0, 0, 0, 0, 0, 48, 112, 0, 0, 768, 1792, 4083, 8179, 16383, 32767]
theorem api_Byte_55.tab3 : rtab .any (opsOf Try.f55 3) = api_Byte_55.T3 := by kernel_rfl
theorem api_Byte_55.bits3 : waitsOk api_Byte_55.T3.2 api_Byte_55.B3 = true := by kernel_rfl
set_option maxHeartbeats 8000000 in
set_option maxRecDepth 100000 in
theorem api_Byte_55.calls (k : Nat) (P0_ : Nat → Prop) (u9000_ : Value) (l0 : List (S51)) (r : List (S51)) (w0 w : World) (hB : Below w0.heap.size w0 w) (ho0 : Kd.R k51 51 w w0.heap.size P0_ u9000_ l0) (h : api_Byte_55.f k l0 = some r) :
  Calls Try.prog 55 #[u9000_] w fun e w' => e = .returned (.tuple #[]) ∧ Kd.R k51 51 w' w0.heap.size (fun k_ => (P0_ k_ ∨ w.heap.size ≤ k_)) u9000_ r ∧ Below w0.heap.size w0 w' ∧ Kept w w' (fun k_ => P0_ k_) := by
 have hu51 := Try.underlying51
 have HO0 := Aside0.mk (show Kd.R k51 51 w w0.heap.size (fun k_ => (P0_ k_ ∨ w.heap.size ≤ k_)) u9000_ l0 from Kd.R_mono ho0 (fun k_ hk => (.inl hk)))
 have HK := Aside0.mk (Kept.refl w (fun k_ => P0_ k_))
 have HW0 := Aside0.mk hB.size
 have HB := Aside0.mk hB
 clear hB
 have H : (api_Byte_55.l0 k l0 0 (wrap64 ((l0.length : Int) - 1))) = some r := h
 clear h
 have H' := Aside0.mk H
 clear H
 obtain ⟨Ao2, co2, eo2⟩ := Kd.R_slice HO0.out
 subst eo2
 go_enter Try.func55, Try.ntmps55
 go_wp2
 go_loopg [2, 3] k (fun kq v2 v3 w' => ∃ (x0_1 : List (S51)) (x2_1 : Int) (x3_1 : Int), v2 = .int .i64 x2_1 ∧ v3 = .int .i64 x3_1 ∧ Aside0 (api_Byte_55.l0 kq x0_1 x2_1 x3_1 = some r) ∧ Aside0 (kq ≤ k) ∧ Aside0 (Kd.R k51 51 w' w0.heap.size (fun k_ => (P0_ k_ ∨ w.heap.size ≤ k_)) (.slice Ao2 l0.length co2) x0_1) ∧ Aside0 (Kept w w' (fun k_ => P0_ k_)) ∧ Aside0 (Below w0.heap.size w0 w'))
 case atStart => exact ⟨(l0), (0), (wrap64 ((l0.length : Int) - 1)), (zr), (zr), H', ⟨Nat.le_refl _⟩, ⟨by (with_reducible repeat (first | apply Kd.R_alloc | apply Kd.R_drewN | apply Kd.R_drew)); exact HO0.out⟩, ⟨by repeat (first | (with_reducible first | exact HK.out | apply Kept.alloc | apply Kept.drewN | apply Kept.drew) | exact HK.out)⟩, ⟨zw0 HB.out⟩⟩
 case round =>
  clear H'
  try clear p2
  obtain ⟨x0_1, x2_1, x3_1, rfl, rfl, HA, HK1, HO_0, HK, HB⟩ := hrel
  have hl0_1 := (Kd.R_reads' HO_0.out).1
  rw [hl0_1] at HO_0
  (try simp only [hl0_1])
  cases gk with
  | zero => exact absurd HA.out (by simp [api_Byte_55.l0])
  | succ k1 =>
   have H := HA.out
   clear HA
   simp only [api_Byte_55.l0] at H
   by_cases c3 : x2_1 < x3_1
   ·rw [if_pos c3] at H
    have c3b0 : decide (x2_1 < x3_1) = true := decide_eq_true c3
    clear c3
    by_cases c4 : 0 ≤ x3_1
    rotate_left
    ·rw [if_neg c4] at H
     exact absurd H (by simp)
    rw [if_pos c4] at H
    have c4b0 : decide (0 ≤ x3_1) = true := decide_eq_true c4
    clear c4
    by_cases c5 : x3_1 < (x0_1.length : Int)
    rotate_left
    ·rw [if_neg c5] at H
     exact absurd H (by simp)
    rw [if_pos c5] at H
    have c5b0 : decide (x3_1 < (x0_1.length : Int)) = true := decide_eq_true c5
    clear c5
    by_cases c6 : 0 ≤ x2_1
    rotate_left
    ·rw [if_neg c6] at H
     exact absurd H (by simp)
    rw [if_pos c6] at H
    have c6b0 : decide (0 ≤ x2_1) = true := decide_eq_true c6
    clear c6
    by_cases c7 : x2_1 < (x0_1.length : Int)
    rotate_left
    ·rw [if_neg c7] at H
     exact absurd H (by simp)
    rw [if_pos c7] at H
    have c7b0 : decide (x2_1 < (x0_1.length : Int)) = true := decide_eq_true c7
    clear c7
    obtain ⟨y254, hy254⟩ : ∃ y_ : List (S51), y_ = (x0_1.set (x2_1 : Int).toNat (⟨(rd_T51 x0_1 x3_1).f0, (rd_T51 x0_1 x3_1).f1, (rd_T51 x0_1 x3_1).f2, (rd_T51 x0_1 x3_1).f3, (rd_T51 x0_1 x3_1).f4⟩ : S51)) := ⟨_, rfl⟩
    replace H : (api_Byte_55.l0 k1 (y254.set (x3_1 : Int).toNat (⟨(rd_T51 x0_1 x2_1).f0, (rd_T51 x0_1 x2_1).f1, (rd_T51 x0_1 x2_1).f2, (rd_T51 x0_1 x2_1).f3, (rd_T51 x0_1 x2_1).f4⟩ : S51)) (wrap64 (x2_1 + 1)) (wrap64 (x3_1 - 1))) = some r := by first | (rw [hy254]; with_reducible exact H) | (have H2_ := (Option.bind_some _ _).symm.trans H; rw [hy254]; with_reducible exact H2_) | (have H2_ := (Option.bind_some _ _).symm.trans H; with_reducible exact H2_) | with_reducible exact H | (rw [hy254]; exact H) | exact H
    have Ny254 := Aside0.mk hy254
    clear hy254
    obtain ⟨y255, hy255⟩ : ∃ y_ : List (S51), y_ = (y254.set (x3_1 : Int).toNat (⟨(rd_T51 x0_1 x2_1).f0, (rd_T51 x0_1 x2_1).f1, (rd_T51 x0_1 x2_1).f2, (rd_T51 x0_1 x2_1).f3, (rd_T51 x0_1 x2_1).f4⟩ : S51)) := ⟨_, rfl⟩
    replace H : (api_Byte_55.l0 k1 y255 (wrap64 (x2_1 + 1)) (wrap64 (x3_1 - 1))) = some r := by first | (rw [hy255]; with_reducible exact H) | (have H2_ := (Option.bind_some _ _).symm.trans H; rw [hy255]; with_reducible exact H2_) | (have H2_ := (Option.bind_some _ _).symm.trans H; with_reducible exact H2_) | with_reducible exact H | (rw [hy255]; exact H) | exact H
    have Ny255 := Aside0.mk hy255
    clear hy255
    have H' := Aside0.mk H
    clear H
    try go_wp2
    have n0_ := Aside0.mk (Kd.R_drew HO_0.out)
    have n1_ := Aside0.mk (Kept.drew HK.out)
    have n2_ := Aside0.mk (below_drew1 HB.out)
    clear HO_0
    clear HK
    clear HB
    have HO_0 := n0_
    have HK := n1_
    have HB := n2_
    clear n0_ n1_ n2_
    have p252 : 0 ≤ (x3_1 : Int) := zdec
    have q252 : x3_1 < (x0_1.length : Int) := zdec
    obtain ⟨ad252, e252, hx252_0, hx252_1, hx252_2, hx252_3, hx252_4⟩ := at_T51 (Kd.R_reads' HO_0.out).2.2 x3_1 p252 q252
    cases e252
    replace p252 := eq_true p252
    replace q252 := eq_true q252
    have p253 : 0 ≤ (x2_1 : Int) := zdec
    have q253 : x2_1 < (x0_1.length : Int) := zdec
    obtain ⟨ad253, e253, hx253_0, hx253_1, hx253_2, hx253_3, hx253_4⟩ := at_T51 (Kd.R_reads' HO_0.out).2.2 x2_1 p253 q253
    obtain rfl : ad252 = ad253 := (by injection e253)
    replace p253 := eq_true p253
    replace q253 := eq_true q253
    have p8 : 0 ≤ (x2_1 : Int) := zdec
    have q8 : (x2_1 : Int) < ((x0_1.length : Int) : Int) := zdec
    obtain ⟨go8, co8, eo8, gb8, gl8, cl8, HG8⟩ := Kd.R_form HO_0.out (by omega)
    (first | cases eo8 | (injection eo8 with ea_ en_ ec_; (first | subst ea_ | (injection ea_ with ea_; subst ea_)); subst ec_; clear en_))
    have GB8 := Aside0.mk gb8
    have GG8 := Aside0.mk HG8
    clear gb8 gl8 HG8
    have HMgo8 := Aside0.mk (show (P0_ go8 ∨ w.heap.size ≤ go8) from (HO_0.out.1 _ rfl))
    (first | simp only [add_plain] at hx252_0 | skip)
    (first | simp only [add_plain] at hx252_1 | skip)
    (first | simp only [add_plain] at hx252_2 | skip)
    (first | simp only [add_plain] at hx252_3 | skip)
    (first | simp only [add_plain] at hx252_4 | skip)
    (first | simp only [add_plain] at hx253_0 | skip)
    (first | simp only [add_plain] at hx253_1 | skip)
    (first | simp only [add_plain] at hx253_2 | skip)
    (first | simp only [add_plain] at hx253_3 | skip)
    (first | simp only [add_plain] at hx253_4 | skip)
    obtain ⟨ce8, hcl8, hM8, hcc8, hfr8⟩ := Kd.R_elem HO_0.out z51 (x2_1 : Int) p8 q8
    obtain rfl := k51_openM hM8
    have hx8_0 : World.cell? _ ⟨go8, (x2_1 : Int).toNat * 5, none⟩ = some (.int .i64 ((rd_T51 x0_1 x2_1).f0)) := hcc8 0 _ rfl
    have hx8_1 : World.cell? _ ⟨go8, (x2_1 : Int).toNat * 5 + 1, none⟩ = some (.int .i64 ((rd_T51 x0_1 x2_1).f1)) := hcc8 1 _ rfl
    have hx8_2 : World.cell? _ ⟨go8, (x2_1 : Int).toNat * 5 + 2, none⟩ = some (.int .i64 ((rd_T51 x0_1 x2_1).f2)) := hcc8 2 _ rfl
    have hx8_3 : World.cell? _ ⟨go8, (x2_1 : Int).toNat * 5 + 3, none⟩ = some (.int .i64 ((rd_T51 x0_1 x2_1).f3)) := hcc8 3 _ rfl
    have hx8_4 : World.cell? _ ⟨go8, (x2_1 : Int).toNat * 5 + 4, none⟩ = some (.int .i64 ((rd_T51 x0_1 x2_1).f4)) := hcc8 4 _ rfl
    have hf8_0 : World.frozen? _ ⟨go8, (x2_1 : Int).toNat * 5, none⟩ = false := hfr8 0
    have hf8_1 : World.frozen? _ ⟨go8, (x2_1 : Int).toNat * 5 + 1, none⟩ = false := hfr8 1
    have hf8_2 : World.frozen? _ ⟨go8, (x2_1 : Int).toNat * 5 + 2, none⟩ = false := hfr8 2
    have hf8_3 : World.frozen? _ ⟨go8, (x2_1 : Int).toNat * 5 + 3, none⟩ = false := hfr8 3
    have hf8_4 : World.frozen? _ ⟨go8, (x2_1 : Int).toNat * 5 + 4, none⟩ = false := hfr8 4
    clear hcl8 hcc8 hfr8 hM8
    replace p8 := eq_true p8
    replace q8 := eq_true q8
    obtain ⟨ce11, hcl11, hM11, hcc11, hfr11⟩ := Kd.R_elem HO_0.out z51 (x2_1 : Int) (zdec) (by have h_ : (x2_1 : Int) < ((x0_1.length : Int) : Int) := zdec; first | exact h_ | (have e_ := (Kd.R_reads' HO_0.out).1; omega) | simpa using h_)
    obtain rfl := k51_openM hM11
    have HP11 := (Kd.R_seg HO_0.out (x2_1 : Int) (zdec) (by have h_ : (x2_1 : Int) < ((x0_1.length : Int) : Int) := zdec; first | exact h_ | (have e_ := (Kd.R_reads' HO_0.out).1; omega) | simpa using h_) (seg := [.int .i64 ((rd_T51 x0_1 x3_1).f0), .int .i64 ((rd_T51 x0_1 x3_1).f1), .int .i64 ((rd_T51 x0_1 x3_1).f2), .int .i64 ((rd_T51 x0_1 x3_1).f3), .int .i64 ((rd_T51 x0_1 x3_1).f4)]) (j := 0) hcl11 hcc11 (show 5 ≤ 5 from by decide) (x' := (⟨(rd_T51 x0_1 x3_1).f0, (rd_T51 x0_1 x3_1).f1, (rd_T51 x0_1 x3_1).f2, (rd_T51 x0_1 x3_1).f3, (rd_T51 x0_1 x3_1).f4⟩ : S51)) (k51_mkM _ _ _ (⟨(rd_T51 x0_1 x3_1).f0, (rd_T51 x0_1 x3_1).f1, (rd_T51 x0_1 x3_1).f2, (rd_T51 x0_1 x3_1).f3, (rd_T51 x0_1 x3_1).f4⟩ : S51) ) (fun _ hk => hk)).1
    rw [← Ny254.out] at HP11
    have HQ11 := Aside0.mk HP11
    clear hcl11 hcc11 hfr11 hM11 HP11
    have p9 : 0 ≤ (x3_1 : Int) := zdec
    have q9 : (x3_1 : Int) < ((x0_1.length : Int) : Int) := zdec
    obtain ⟨ce9, hcl9, hM9, hcc9, hfr9⟩ := Kd.R_elem HQ11.out z51 (x3_1 : Int) p9 q9
    obtain rfl := k51_openM hM9
    have hx9_0 : World.cell? _ ⟨go8, (x3_1 : Int).toNat * 5, none⟩ = some (.int .i64 ((rd_T51 y254 x3_1).f0)) := hcc9 0 _ rfl
    have hx9_1 : World.cell? _ ⟨go8, (x3_1 : Int).toNat * 5 + 1, none⟩ = some (.int .i64 ((rd_T51 y254 x3_1).f1)) := hcc9 1 _ rfl
    have hx9_2 : World.cell? _ ⟨go8, (x3_1 : Int).toNat * 5 + 2, none⟩ = some (.int .i64 ((rd_T51 y254 x3_1).f2)) := hcc9 2 _ rfl
    have hx9_3 : World.cell? _ ⟨go8, (x3_1 : Int).toNat * 5 + 3, none⟩ = some (.int .i64 ((rd_T51 y254 x3_1).f3)) := hcc9 3 _ rfl
    have hx9_4 : World.cell? _ ⟨go8, (x3_1 : Int).toNat * 5 + 4, none⟩ = some (.int .i64 ((rd_T51 y254 x3_1).f4)) := hcc9 4 _ rfl
    have hf9_0 : World.frozen? _ ⟨go8, (x3_1 : Int).toNat * 5, none⟩ = false := hfr9 0
    have hf9_1 : World.frozen? _ ⟨go8, (x3_1 : Int).toNat * 5 + 1, none⟩ = false := hfr9 1
    have hf9_2 : World.frozen? _ ⟨go8, (x3_1 : Int).toNat * 5 + 2, none⟩ = false := hfr9 2
    have hf9_3 : World.frozen? _ ⟨go8, (x3_1 : Int).toNat * 5 + 3, none⟩ = false := hfr9 3
    have hf9_4 : World.frozen? _ ⟨go8, (x3_1 : Int).toNat * 5 + 4, none⟩ = false := hfr9 4
    clear hcl9 hcc9 hfr9 hM9
    replace p9 := eq_true p9
    replace q9 := eq_true q9
    obtain ⟨ce12, hcl12, hM12, hcc12, hfr12⟩ := Kd.R_elem HQ11.out z51 (x3_1 : Int) (zdec) (by have h_ : (x3_1 : Int) < ((x0_1.length : Int) : Int) := zdec; first | exact h_ | (have e_ := (Kd.R_reads' HO_0.out).1; omega) | simpa using h_)
    obtain rfl := k51_openM hM12
    have HP12 := (Kd.R_seg HQ11.out (x3_1 : Int) (zdec) (by have h_ : (x3_1 : Int) < ((x0_1.length : Int) : Int) := zdec; first | exact h_ | (have e_ := (Kd.R_reads' HO_0.out).1; omega) | simpa using h_) (seg := [.int .i64 ((rd_T51 x0_1 x2_1).f0), .int .i64 ((rd_T51 x0_1 x2_1).f1), .int .i64 ((rd_T51 x0_1 x2_1).f2), .int .i64 ((rd_T51 x0_1 x2_1).f3), .int .i64 ((rd_T51 x0_1 x2_1).f4)]) (j := 0) hcl12 hcc12 (show 5 ≤ 5 from by decide) (x' := (⟨(rd_T51 x0_1 x2_1).f0, (rd_T51 x0_1 x2_1).f1, (rd_T51 x0_1 x2_1).f2, (rd_T51 x0_1 x2_1).f3, (rd_T51 x0_1 x2_1).f4⟩ : S51)) (k51_mkM _ _ _ (⟨(rd_T51 x0_1 x2_1).f0, (rd_T51 x0_1 x2_1).f1, (rd_T51 x0_1 x2_1).f2, (rd_T51 x0_1 x2_1).f3, (rd_T51 x0_1 x2_1).f4⟩ : S51) ) (fun _ hk => hk)).1
    rw [← Ny255.out] at HP12
    have HQ12 := Aside0.mk HP12
    clear hcl12 hcc12 hfr12 hM12 HP12
    have zlt_ : x2_1.toNat < x3_1.toNat := sw_lt _ _ (of_decide_eq_true (c6b0 : decide (0 ≤ x2_1) = true)) (of_decide_eq_true (c3b0 : decide (x2_1 < x3_1) = true))
    have ze0_ := sw_ne _ _ zlt_
    have zf0_ := sw_ne' _ _ zlt_
    obtain ⟨za0_, zb0_, zc0_, zd0_⟩ := swn 5 _ _ 0 zlt_ (by decide)
    obtain ⟨za1_, zb1_, zc1_, zd1_⟩ := swn 5 _ _ 1 zlt_ (by decide)
    obtain ⟨za2_, zb2_, zc2_, zd2_⟩ := swn 5 _ _ 2 zlt_ (by decide)
    obtain ⟨za3_, zb3_, zc3_, zd3_⟩ := swn 5 _ _ 3 zlt_ (by decide)
    obtain ⟨za4_, zb4_, zc4_, zd4_⟩ := swn 5 _ _ 4 zlt_ (by decide)
    simp only [Nat.add_zero] at za0_ zb0_ zc0_ zd0_
    clear zlt_
    rw [World.frozen?_setCells] at hf9_0 hf9_1 hf9_2 hf9_3 hf9_4
    refine start_ (n := 16) (S := fun w' => w'.cell? ⟨go8, ((x3_1).toNat * 5), none⟩ = some (.int .i64 ((rd_T51 x0_1 x3_1).f0)) ∧ w'.cell? ⟨go8, ((x3_1).toNat * 5) + 1, none⟩ = some (.int .i64 ((rd_T51 x0_1 x3_1).f1)) ∧ w'.cell? ⟨go8, ((x3_1).toNat * 5) + 2, none⟩ = some (.int .i64 ((rd_T51 x0_1 x3_1).f2)) ∧ w'.cell? ⟨go8, ((x3_1).toNat * 5) + 3, none⟩ = some (.int .i64 ((rd_T51 x0_1 x3_1).f3)) ∧ w'.cell? ⟨go8, ((x3_1).toNat * 5) + 4, none⟩ = some (.int .i64 ((rd_T51 x0_1 x3_1).f4)) ∧ w'.cell? ⟨go8, ((x2_1).toNat * 5), none⟩ = some (.int .i64 ((rd_T51 x0_1 x2_1).f0)) ∧ w'.cell? ⟨go8, ((x2_1).toNat * 5) + 1, none⟩ = some (.int .i64 ((rd_T51 x0_1 x2_1).f1)) ∧ w'.cell? ⟨go8, ((x2_1).toNat * 5) + 2, none⟩ = some (.int .i64 ((rd_T51 x0_1 x2_1).f2)) ∧ w'.cell? ⟨go8, ((x2_1).toNat * 5) + 3, none⟩ = some (.int .i64 ((rd_T51 x0_1 x2_1).f3)) ∧ w'.cell? ⟨go8, ((x2_1).toNat * 5) + 4, none⟩ = some (.int .i64 ((rd_T51 x0_1 x2_1).f4))) (ds := [13, 15]) #[false,false,false,false,false,false,false,false,false,false,false,false,false,false,false,false] (by kernel_rfl) rfl rfl ⟨hx252_0, hx252_1, hx252_2, hx252_3, hx252_4, hx253_0, hx253_1, hx253_2, hx253_3, hx253_4⟩ (fun hHeld => ?_); refine with_tabW api_Byte_55.tab3 api_Byte_55.bits3 (fun HT_ HW_ => ?_)
    generalize wr.drew = w10 at HO_0 HK HB GG8 HQ11 HQ12 hf8_0 hf8_1 hf8_2 hf8_3 hf8_4 hf9_0 hf9_1 hf9_2 hf9_3 hf9_4 hx252_0 hx252_1 hx252_2 hx252_3 hx252_4 hx253_0 hx253_1 hx253_2 hx253_3 hx253_4 hx8_0 hx8_1 hx8_2 hx8_3 hx8_4 hx9_0 hx9_1 hx9_2 hx9_3 hx9_4 hHeld ⊢
    refine zp (i := 0) (N := some 14) #[true,false,false,false,false,false,false,false,false,false,false,false,false,false,false,false] (any_of HT_.out (by kernel_rfl)) ?_
    refine zp (i := 1) (N := some 15) #[true,true,false,false,false,false,false,false,false,false,false,false,false,false,false,false] (any_of HT_.out (by kernel_rfl)) ?_
    refine zp (i := 2) (N := some 16) #[true,true,true,false,false,false,false,false,false,false,false,false,false,false,false,false] (any_of HT_.out (by kernel_rfl)) ?_
    refine zp (i := 3) (N := some 17) #[true,true,true,true,false,false,false,false,false,false,false,false,false,false,false,false] (any_of HT_.out (by kernel_rfl)) ?_
    refine zp (i := 4) (N := some 18) #[true,true,true,true,true,false,false,false,false,false,false,false,false,false,false,false] (any_of HT_.out (by kernel_rfl)) ?_
    refine zp (i := 5) (N := some 19) #[true,true,true,true,true,true,false,false,false,false,false,false,false,false,false,false] (any_of HT_.out (by kernel_rfl)) ?_
    refine zp (i := 6) (N := some 20) #[true,true,true,true,true,true,true,false,false,false,false,false,false,false,false,false] (any_of HT_.out (by kernel_rfl)) ?_
    refine zp (i := 8) (N := some 22) #[true,true,true,true,true,true,true,false,true,false,false,false,false,false,false,false] (any_of HT_.out (by kernel_rfl)) ?_
    refine zp (i := 9) (N := some 23) #[true,true,true,true,true,true,true,false,true,true,false,false,false,false,false,false] (any_of HT_.out (by kernel_rfl)) ?_
    refine zp (i := 10) (N := some 24) #[true,true,true,true,true,true,true,false,true,true,true,false,false,false,false,false] (any_of HT_.out (by kernel_rfl)) ?_
    refine take_ (i := 7) (N := some 21) (v := ?_) (a' := ?_) #[true,true,true,true,true,true,true,true,true,true,true,false,false,false,false,false] rfl rfl (take_ofW HT_.out HW_.out (by kernel_rfl)) (fun _ _ _ h => h) (Or.inl ⟨by rfl, ?_⟩) hHeld ?_ ?_
    rotate_left
    ·rintro w' ⟨s0, s1, s2, s3, s4, s5, s6, s7, s8, s9⟩
     go_simp
     with_reducible rfl
    rotate_left
    ·simp only [Act.put, List.setIfInBounds_toArray, List.set_cons_zero, List.set_cons_succ, i64_w, i32_w]
     rfl
    refine take_ (i := 11) (N := some 25) (v := ?_) (a' := ?_) #[true,true,true,true,true,true,true,true,true,true,true,true,false,false,false,false] rfl rfl (take_ofW HT_.out HW_.out (by kernel_rfl)) (fun _ _ _ h => h) (Or.inl ⟨by rfl, ?_⟩) hHeld ?_ ?_
    rotate_left
    ·rintro w' ⟨s0, s1, s2, s3, s4, s5, s6, s7, s8, s9⟩
     go_simp
     with_reducible rfl
    rotate_left
    ·simp only [Act.put, List.setIfInBounds_toArray, List.set_cons_zero, List.set_cons_succ, i64_w, i32_w]
     rfl
    refine zp (i := 12) (N := some 26) #[true,true,true,true,true,true,true,true,true,true,true,true,true,false,false,false] (any_of HT_.out (by kernel_rfl)) ?_
    refine last_ (i := 13) (N := none) #[true,true,true,true,true,true,true,true,true,true,true,true,true,true,false,false] rfl rfl (one_of HT_.out (by kernel_rfl)) (by decide) (fun K hK => ?_)
    refine skip_ (w1 := ?_) (by rfl) rfl ?_ ?_
    rotate_left
    ·go_simp
     rfl
    refine hK.out _ _ ?_
    clear hK K
    refine zp (i := 14) (N := some 27) #[true,true,true,true,true,true,true,true,true,true,true,true,true,true,true,false] (any_of HT_.out (by kernel_rfl)) ?_
    refine last_ (i := 15) (N := none) #[true,true,true,true,true,true,true,true,true,true,true,true,true,true,true,true] rfl rfl (one_of HT_.out (by kernel_rfl)) (by decide) (fun K hK => ?_)
    refine skip_ (w1 := ?_) (by rfl) rfl ?_ ?_
    rotate_left
    ·go_simp
     rfl
    refine hK.out _ _ ?_
    clear hK K
    refine done_ (done_of HT_.out (by kernel_rfl)) ?_
    try go_wp2
    (try simp only [← hl0_1])
    go_roundg k1
    case measure => have := HK1.out; omega
    case rel => exact ⟨(y255), (wrap64 (x2_1 + 1)), (wrap64 (x3_1 - 1)), (zr), (zr), H', ⟨by have := HK1.out; omega⟩, ⟨by (try simp only [hl0_1]); (with_reducible repeat (first | apply Kd.R_alloc | apply Kd.R_drewN | apply Kd.R_drew)); exact HQ12.out⟩, ⟨by repeat (first | (with_reducible first | exact HK.out | apply Kept.alloc | apply Kept.drewN | apply Kept.drew | refine Kept.setCell ?_ HMgo8.out _ | refine Kept.setCell ?_ HMgo8.out _ | refine Kept.setCell ?_ HMgo8.out _ | refine Kept.setCell ?_ HMgo8.out _ | refine Kept.setCell ?_ HMgo8.out _ | refine Kept.setCell ?_ HMgo8.out _ | refine Kept.setCell ?_ HMgo8.out _ | refine Kept.setCell ?_ HMgo8.out _ | refine Kept.setCell ?_ HMgo8.out _ | refine Kept.setCell ?_ HMgo8.out _) | exact HK.out)⟩, ⟨by repeat (first | (with_reducible first | exact HB.out | apply below_alloc | apply pw_below_drewN | apply below_drew1 | refine below_set ?_ GB8.out | refine below_set ?_ GB8.out | refine below_set ?_ GB8.out | refine below_set ?_ GB8.out | refine below_set ?_ GB8.out | refine below_set ?_ GB8.out | refine below_set ?_ GB8.out | refine below_set ?_ GB8.out | refine below_set ?_ GB8.out | refine below_set ?_ GB8.out) | exact HB.out)⟩⟩
   ·rw [if_neg c3] at H
    have c3b0 : decide (x2_1 < x3_1) = false := decide_eq_false c3
    clear c3
    obtain rfl := Option.some.inj H
    go_wp2
    first | go_end0 | ((try simp only [Exit.inBlock, Exit.then]); refine bodyPost_ret (results_none rfl _ _ _) rfl ?_)
    exact ⟨ze, (by first | exact (by (with_reducible repeat (first | apply Kd.R_alloc | apply Kd.R_drewN | apply Kd.R_drew)); exact HO_0.out) | (simp only [hl0_1]; exact (by (with_reducible repeat (first | apply Kd.R_alloc | apply Kd.R_drewN | apply Kd.R_drew)); exact HO_0.out))), zw0 HB.out, by repeat (first | (with_reducible first | exact HK.out | apply Kept.alloc | apply Kept.drewN | apply Kept.drew) | exact HK.out)⟩

end Go.Proofs.Ythhdmanpjeminaa.H
