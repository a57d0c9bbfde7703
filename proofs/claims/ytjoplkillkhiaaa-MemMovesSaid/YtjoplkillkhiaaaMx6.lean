-- Written by this session's own edition of the print.
import Derived.Test.YtjoplkillkhiaaaMx0
import Derived.Test.YtjoplkillkhiaaaMx2
import Derived.Test.YtjoplkillkhiaaaMx3
import Derived.Test.YtjoplkillkhiaaaMx5
import Derived.Test.YtjoplkillkhiaaaSq
import Derived.Test.YtjoplkillkhiaaaSq2
namespace Go.Proofs.Ytjoplkillkhiaaa.M
open Go.RowKit Go.Proofs.Ytjoplkillkhiaaa.Fn Go.Proofs.YtjoplkillkhiaaaW.PrintWords Go.Proofs.YtjoplkillkhiaaaW.PrintLast Go.Proofs.YtjoplkillkhiaaaW.PrintMore
attribute [local go_sem] max2_int min2_int max_two min_two max_three min_three max_four min_four   -- for this text's walks alone
set_option linter.unusedVariables false
set_option linter.unusedSimpArgs false

attribute [local go_sem high] eqA74
/-! cellarref7_Scalar -/
def cellarref7_Scalar.f (k : Nat) (a0 : Int) (a1_0 : Bool) (a1_1 : Int) (a1_2 : Int) (a1_3 : Int) : Option (Bool) := if a0 = 7 then (if a1_0 = true then (if a1_1 = 0 then ((cellarref0_Num.f a1_2 32).bind fun t160 => (if t160 = true then ((cellarref0_Num.f a1_3 32).bind fun t161 => (if t161 = true then (if a1_2 > 0 then (some true) else (some (a1_3 == 0))) else (some false))) else (some false))) else (some false)) else (some false)) else ((cellarref1_Width.f k a0).bind fun t162 => (if t162 > 0 then (if a1_0 = true then (some false) else (if a1_2 = 0 then (if a1_3 = 0 then ((cellarref1_Width.f k a0).bind fun t163 => ((cellarref1_Number.f a1_1 t163).bind fun t164 => (some t164))) else (some false)) else (some false))) else (some false)))
theorem cellarref7_Scalar.mono : ∀ a0 a1 a2 a3 a4 k, LeO (cellarref7_Scalar.f k a0 a1 a2 a3 a4) (cellarref7_Scalar.f (k + 1) a0 a1 a2 a3 a4) := by
 intro a0 a1 a2 a3 a4 k
 unfold cellarref7_Scalar.f
 repeat' first
   | (with_reducible apply cellarref1_Width.mono)
   | (with_reducible apply LeO.refl)
   | (with_reducible apply LeO.none)
   | (with_reducible refine LeO.ite ?_ ?_)
   | (with_reducible refine LeO.bind ?_ (fun _ => ?_))
set_option maxHeartbeats 8000000 in
set_option maxRecDepth 100000 in
theorem cellarref7_Scalar.calls (k : Nat) (a0 : Int) (a1_0 : Bool) (a1_1 : Int) (a1_2 : Int) (a1_3 : Int) (r : Bool) (w : World) (h : cellarref7_Scalar.f k a0 a1_0 a1_1 a1_2 a1_3 = some r) :
  Calls Try.prog 32 #[.int .i64 a0, .agg #[.bool a1_0, .int .i64 a1_1, .int .i64 a1_2, .int .i64 a1_3]] w fun e w' => e = .returned (.bool r) ∧ Below w.heap.size w w' := by
 have hu62 := Try.underlying62
 have HB := Aside0.mk (Below.refl w.heap.size w)
 have H : (if a0 = 7 then (if a1_0 = true then (if a1_1 = 0 then ((cellarref0_Num.f a1_2 32).bind fun t160 => (if t160 = true then ((cellarref0_Num.f a1_3 32).bind fun t161 => (if t161 = true then (if a1_2 > 0 then (some true) else (some (a1_3 == 0))) else (some false))) else (some false))) else (some false)) else (some false)) else ((cellarref1_Width.f k a0).bind fun t162 => (if t162 > 0 then (if a1_0 = true then (some false) else (if a1_2 = 0 then (if a1_3 = 0 then ((cellarref1_Width.f k a0).bind fun t163 => ((cellarref1_Number.f a1_1 t163).bind fun t164 => (some t164))) else (some false)) else (some false))) else (some false)))) = some r := h
 clear h
 by_cases c3 : a0 = 7
 ·rw [if_pos c3] at H
  have c3b0 : (a0 == 7) = true := beq_iff_eq.mpr c3
  have c3b1 : (a0 != 7) = false := bne_eq_false_iff_eq.mpr c3
  clear c3
  by_cases c4 : a1_0 = true
  rotate_left
  ·replace c4 := Bool.eq_false_iff.mpr c4
   subst c4
   have H1 : (some false) = some r := by rw [if_neg (show ¬ (false = true) by decide)] at H; exact H
   clear H
   have H := H1
   clear H1
   obtain rfl := Option.some.inj H
   go_enter Try.func32, Try.ntmps32
   go_wp2_with (first | ((with_reducible refine gate_dst (N := 3) rfl ?_); refine zbox (N := 3) (cs := #[.bool false, .int .i64 a1_1, .int .i64 a1_2, .int .i64 a1_3]) (t := 62) ?_; intro gb159 hg w21 hbox hb; have n0_ := Aside0.mk (below_step (zw0 HB.out) hb); have BK159 := Aside0.mk (hbox); have GW159 := Aside0.mk (zg hg (below_size (zw0 HB.out))); have GE159 := GW159; clear HB; have HB := n0_; clear n0_; clear hb hbox hg; have hcz22_0 := zc BK159.out 0; have hcz22_1 := zc BK159.out 1; have hcz22_2 := zc BK159.out 2; have hcz22_3 := zc BK159.out 3; have hfz22_0 := blk_frozen BK159.out 0; have hfz22_1 := blk_frozen BK159.out 1; have hfz22_2 := blk_frozen BK159.out 2; have hfz22_3 := blk_frozen BK159.out 3))
   repeat (go_quiet (first | ((with_reducible refine gate_dst (N := 3) rfl ?_); refine zbox (N := 3) (cs := #[.bool false, .int .i64 a1_1, .int .i64 a1_2, .int .i64 a1_3]) (t := 62) ?_; intro gb159 hg w21 hbox hb; have n0_ := Aside0.mk (below_step (zw0 HB.out) hb); have BK159 := Aside0.mk (hbox); have GW159 := Aside0.mk (zg hg (below_size (zw0 HB.out))); have GE159 := GW159; clear HB; have HB := n0_; clear n0_; clear hb hbox hg; have hcz22_0 := zc BK159.out 0; have hcz22_1 := zc BK159.out 1; have hcz22_2 := zc BK159.out 2; have hcz22_3 := zc BK159.out 3; have hfz22_0 := blk_frozen BK159.out 0; have hfz22_1 := blk_frozen BK159.out 1; have hfz22_2 := blk_frozen BK159.out 2; have hfz22_3 := blk_frozen BK159.out 3)); try go_wp2_with (first | ((with_reducible refine gate_dst (N := 3) rfl ?_); refine zbox (N := 3) (cs := #[.bool false, .int .i64 a1_1, .int .i64 a1_2, .int .i64 a1_3]) (t := 62) ?_; intro gb159 hg w21 hbox hb; have n0_ := Aside0.mk (below_step (zw0 HB.out) hb); have BK159 := Aside0.mk (hbox); have GW159 := Aside0.mk (zg hg (below_size (zw0 HB.out))); have GE159 := GW159; clear HB; have HB := n0_; clear n0_; clear hb hbox hg; have hcz22_0 := zc BK159.out 0; have hcz22_1 := zc BK159.out 1; have hcz22_2 := zc BK159.out 2; have hcz22_3 := zc BK159.out 3; have hfz22_0 := blk_frozen BK159.out 0; have hfz22_1 := blk_frozen BK159.out 1; have hfz22_2 := blk_frozen BK159.out 2; have hfz22_3 := blk_frozen BK159.out 3)))
   go_ret
   exact ⟨ze, zw1 HB.out GE159.out⟩
  subst c4
  have H1 : (if a1_1 = 0 then ((cellarref0_Num.f a1_2 32).bind fun t160 => (if t160 = true then ((cellarref0_Num.f a1_3 32).bind fun t161 => (if t161 = true then (if a1_2 > 0 then (some true) else (some (a1_3 == 0))) else (some false))) else (some false))) else (some false)) = some r := by rw [if_pos rfl] at H; exact H
  clear H
  have H := H1
  clear H1
  by_cases c5 : a1_1 = 0
  rotate_left
  ·rw [if_neg c5] at H
   have c5b0 : (a1_1 == 0) = false := beq_eq_false_iff_ne.mpr c5
   have c5b1 : (a1_1 != 0) = true := bne_iff_ne.mpr c5
   obtain rfl := Option.some.inj H
   go_enter Try.func32, Try.ntmps32
   go_wp2_with (first | ((with_reducible refine gate_dst (N := 3) rfl ?_); refine zbox (N := 3) (cs := #[.bool true, .int .i64 a1_1, .int .i64 a1_2, .int .i64 a1_3]) (t := 62) ?_; intro gb159 hg w19 hbox hb; have n0_ := Aside0.mk (below_step (zw0 HB.out) hb); have BK159 := Aside0.mk (hbox); have GW159 := Aside0.mk (zg hg (below_size (zw0 HB.out))); have GE159 := GW159; clear HB; have HB := n0_; clear n0_; clear hb hbox hg; have hcz20_0 := zc BK159.out 0; have hcz20_1 := zc BK159.out 1; have hcz20_2 := zc BK159.out 2; have hcz20_3 := zc BK159.out 3; have hfz20_0 := blk_frozen BK159.out 0; have hfz20_1 := blk_frozen BK159.out 1; have hfz20_2 := blk_frozen BK159.out 2; have hfz20_3 := blk_frozen BK159.out 3))
   repeat (go_quiet (first | ((with_reducible refine gate_dst (N := 3) rfl ?_); refine zbox (N := 3) (cs := #[.bool true, .int .i64 a1_1, .int .i64 a1_2, .int .i64 a1_3]) (t := 62) ?_; intro gb159 hg w19 hbox hb; have n0_ := Aside0.mk (below_step (zw0 HB.out) hb); have BK159 := Aside0.mk (hbox); have GW159 := Aside0.mk (zg hg (below_size (zw0 HB.out))); have GE159 := GW159; clear HB; have HB := n0_; clear n0_; clear hb hbox hg; have hcz20_0 := zc BK159.out 0; have hcz20_1 := zc BK159.out 1; have hcz20_2 := zc BK159.out 2; have hcz20_3 := zc BK159.out 3; have hfz20_0 := blk_frozen BK159.out 0; have hfz20_1 := blk_frozen BK159.out 1; have hfz20_2 := blk_frozen BK159.out 2; have hfz20_3 := blk_frozen BK159.out 3)); try go_wp2_with (first | ((with_reducible refine gate_dst (N := 3) rfl ?_); refine zbox (N := 3) (cs := #[.bool true, .int .i64 a1_1, .int .i64 a1_2, .int .i64 a1_3]) (t := 62) ?_; intro gb159 hg w19 hbox hb; have n0_ := Aside0.mk (below_step (zw0 HB.out) hb); have BK159 := Aside0.mk (hbox); have GW159 := Aside0.mk (zg hg (below_size (zw0 HB.out))); have GE159 := GW159; clear HB; have HB := n0_; clear n0_; clear hb hbox hg; have hcz20_0 := zc BK159.out 0; have hcz20_1 := zc BK159.out 1; have hcz20_2 := zc BK159.out 2; have hcz20_3 := zc BK159.out 3; have hfz20_0 := blk_frozen BK159.out 0; have hfz20_1 := blk_frozen BK159.out 1; have hfz20_2 := blk_frozen BK159.out 2; have hfz20_3 := blk_frozen BK159.out 3)))
   go_ret
   exact ⟨ze, zw1 HB.out GE159.out⟩
  rw [if_pos c5] at H
  have c5b0 : (a1_1 == 0) = true := beq_iff_eq.mpr c5
  have c5b1 : (a1_1 != 0) = false := bne_eq_false_iff_eq.mpr c5
  clear c5
  replace H := Option.bind_eq_some_iff.mp H
  obtain ⟨t160, A60, H⟩ := H
  replace H : (if t160 = true then ((cellarref0_Num.f a1_3 32).bind fun t161 => (if t161 = true then (if a1_2 > 0 then (some true) else (some (a1_3 == 0))) else (some false))) else (some false)) = some r := H
  have A6 := Aside0.mk A60
  clear A60
  by_cases c7 : t160 = true
  rotate_left
  ·replace c7 := Bool.eq_false_iff.mpr c7
   subst c7
   have H1 : (some false) = some r := by rw [if_neg (show ¬ (false = true) by decide)] at H; exact H
   clear H
   have H := H1
   clear H1
   obtain rfl := Option.some.inj H
   go_enter Try.func32, Try.ntmps32
   go_wp2_with (first | ((with_reducible refine gate_dst (N := 3) rfl ?_); refine zbox (N := 3) (cs := #[.bool true, .int .i64 a1_1, .int .i64 a1_2, .int .i64 a1_3]) (t := 62) ?_; intro gb159 hg w17 hbox hb; have n0_ := Aside0.mk (below_step (zw0 HB.out) hb); have BK159 := Aside0.mk (hbox); have GW159 := Aside0.mk (zg hg (below_size (zw0 HB.out))); have GE159 := GW159; clear HB; have HB := n0_; clear n0_; clear hb hbox hg; have hcz18_0 := zc BK159.out 0; have hcz18_1 := zc BK159.out 1; have hcz18_2 := zc BK159.out 2; have hcz18_3 := zc BK159.out 3; have hfz18_0 := blk_frozen BK159.out 0; have hfz18_1 := blk_frozen BK159.out 1; have hfz18_2 := blk_frozen BK159.out 2; have hfz18_3 := blk_frozen BK159.out 3) | (go_at_call 18; (with_reducible refine (cellarref0_Num.calls a1_2 32 false _ A6.out).mono ?_); rintro e w' ⟨rfl, ⟨nd, rfl⟩⟩; (try first | exact ⟨rfl, _, World.drewN_drewN _ _ _⟩ | exact ⟨rfl, _, Eq.trans (World.drewN_drewN _ _ _) (congrArg (World.drewN _) (Nat.add_assoc _ _ _))⟩)))
   repeat (go_quiet (first | ((with_reducible refine gate_dst (N := 3) rfl ?_); refine zbox (N := 3) (cs := #[.bool true, .int .i64 a1_1, .int .i64 a1_2, .int .i64 a1_3]) (t := 62) ?_; intro gb159 hg w17 hbox hb; have n0_ := Aside0.mk (below_step (zw0 HB.out) hb); have BK159 := Aside0.mk (hbox); have GW159 := Aside0.mk (zg hg (below_size (zw0 HB.out))); have GE159 := GW159; clear HB; have HB := n0_; clear n0_; clear hb hbox hg; have hcz18_0 := zc BK159.out 0; have hcz18_1 := zc BK159.out 1; have hcz18_2 := zc BK159.out 2; have hcz18_3 := zc BK159.out 3; have hfz18_0 := blk_frozen BK159.out 0; have hfz18_1 := blk_frozen BK159.out 1; have hfz18_2 := blk_frozen BK159.out 2; have hfz18_3 := blk_frozen BK159.out 3) | (go_at_call 18; (with_reducible refine (cellarref0_Num.calls a1_2 32 false _ A6.out).mono ?_); rintro e w' ⟨rfl, ⟨nd, rfl⟩⟩; (try first | exact ⟨rfl, _, World.drewN_drewN _ _ _⟩ | exact ⟨rfl, _, Eq.trans (World.drewN_drewN _ _ _) (congrArg (World.drewN _) (Nat.add_assoc _ _ _))⟩))); try go_wp2_with (first | ((with_reducible refine gate_dst (N := 3) rfl ?_); refine zbox (N := 3) (cs := #[.bool true, .int .i64 a1_1, .int .i64 a1_2, .int .i64 a1_3]) (t := 62) ?_; intro gb159 hg w17 hbox hb; have n0_ := Aside0.mk (below_step (zw0 HB.out) hb); have BK159 := Aside0.mk (hbox); have GW159 := Aside0.mk (zg hg (below_size (zw0 HB.out))); have GE159 := GW159; clear HB; have HB := n0_; clear n0_; clear hb hbox hg; have hcz18_0 := zc BK159.out 0; have hcz18_1 := zc BK159.out 1; have hcz18_2 := zc BK159.out 2; have hcz18_3 := zc BK159.out 3; have hfz18_0 := blk_frozen BK159.out 0; have hfz18_1 := blk_frozen BK159.out 1; have hfz18_2 := blk_frozen BK159.out 2; have hfz18_3 := blk_frozen BK159.out 3) | (go_at_call 18; (with_reducible refine (cellarref0_Num.calls a1_2 32 false _ A6.out).mono ?_); rintro e w' ⟨rfl, ⟨nd, rfl⟩⟩; (try first | exact ⟨rfl, _, World.drewN_drewN _ _ _⟩ | exact ⟨rfl, _, Eq.trans (World.drewN_drewN _ _ _) (congrArg (World.drewN _) (Nat.add_assoc _ _ _))⟩))))
   go_ret
   exact ⟨ze, zw1 HB.out GE159.out⟩
  subst c7
  have H1 : ((cellarref0_Num.f a1_3 32).bind fun t161 => (if t161 = true then (if a1_2 > 0 then (some true) else (some (a1_3 == 0))) else (some false))) = some r := by rw [if_pos rfl] at H; exact H
  clear H
  have H := H1
  clear H1
  replace H := Option.bind_eq_some_iff.mp H
  obtain ⟨t161, A80, H⟩ := H
  replace H : (if t161 = true then (if a1_2 > 0 then (some true) else (some (a1_3 == 0))) else (some false)) = some r := H
  have A8 := Aside0.mk A80
  clear A80
  by_cases c9 : t161 = true
  rotate_left
  ·replace c9 := Bool.eq_false_iff.mpr c9
   subst c9
   have H1 : (some false) = some r := by rw [if_neg (show ¬ (false = true) by decide)] at H; exact H
   clear H
   have H := H1
   clear H1
   obtain rfl := Option.some.inj H
   go_enter Try.func32, Try.ntmps32
   go_wp2_with (first | ((with_reducible refine gate_dst (N := 3) rfl ?_); refine zbox (N := 3) (cs := #[.bool true, .int .i64 a1_1, .int .i64 a1_2, .int .i64 a1_3]) (t := 62) ?_; intro gb159 hg w15 hbox hb; have n0_ := Aside0.mk (below_step (zw0 HB.out) hb); have BK159 := Aside0.mk (hbox); have GW159 := Aside0.mk (zg hg (below_size (zw0 HB.out))); have GE159 := GW159; clear HB; have HB := n0_; clear n0_; clear hb hbox hg; have hcz16_0 := zc BK159.out 0; have hcz16_1 := zc BK159.out 1; have hcz16_2 := zc BK159.out 2; have hcz16_3 := zc BK159.out 3; have hfz16_0 := blk_frozen BK159.out 0; have hfz16_1 := blk_frozen BK159.out 1; have hfz16_2 := blk_frozen BK159.out 2; have hfz16_3 := blk_frozen BK159.out 3) | (go_at_call 18; (with_reducible refine (cellarref0_Num.calls a1_2 32 true _ A6.out).mono ?_); rintro e w' ⟨rfl, ⟨nd, rfl⟩⟩; (try first | exact ⟨rfl, _, World.drewN_drewN _ _ _⟩ | exact ⟨rfl, _, Eq.trans (World.drewN_drewN _ _ _) (congrArg (World.drewN _) (Nat.add_assoc _ _ _))⟩)) | (go_at_call 18; (with_reducible refine (cellarref0_Num.calls a1_3 32 false _ A8.out).mono ?_); rintro e w' ⟨rfl, ⟨nd, rfl⟩⟩; (try first | exact ⟨rfl, _, World.drewN_drewN _ _ _⟩ | exact ⟨rfl, _, Eq.trans (World.drewN_drewN _ _ _) (congrArg (World.drewN _) (Nat.add_assoc _ _ _))⟩)))
   repeat (go_quiet (first | ((with_reducible refine gate_dst (N := 3) rfl ?_); refine zbox (N := 3) (cs := #[.bool true, .int .i64 a1_1, .int .i64 a1_2, .int .i64 a1_3]) (t := 62) ?_; intro gb159 hg w15 hbox hb; have n0_ := Aside0.mk (below_step (zw0 HB.out) hb); have BK159 := Aside0.mk (hbox); have GW159 := Aside0.mk (zg hg (below_size (zw0 HB.out))); have GE159 := GW159; clear HB; have HB := n0_; clear n0_; clear hb hbox hg; have hcz16_0 := zc BK159.out 0; have hcz16_1 := zc BK159.out 1; have hcz16_2 := zc BK159.out 2; have hcz16_3 := zc BK159.out 3; have hfz16_0 := blk_frozen BK159.out 0; have hfz16_1 := blk_frozen BK159.out 1; have hfz16_2 := blk_frozen BK159.out 2; have hfz16_3 := blk_frozen BK159.out 3) | (go_at_call 18; (with_reducible refine (cellarref0_Num.calls a1_2 32 true _ A6.out).mono ?_); rintro e w' ⟨rfl, ⟨nd, rfl⟩⟩; (try first | exact ⟨rfl, _, World.drewN_drewN _ _ _⟩ | exact ⟨rfl, _, Eq.trans (World.drewN_drewN _ _ _) (congrArg (World.drewN _) (Nat.add_assoc _ _ _))⟩)) | (go_at_call 18; (with_reducible refine (cellarref0_Num.calls a1_3 32 false _ A8.out).mono ?_); rintro e w' ⟨rfl, ⟨nd, rfl⟩⟩; (try first | exact ⟨rfl, _, World.drewN_drewN _ _ _⟩ | exact ⟨rfl, _, Eq.trans (World.drewN_drewN _ _ _) (congrArg (World.drewN _) (Nat.add_assoc _ _ _))⟩))); try go_wp2_with (first | ((with_reducible refine gate_dst (N := 3) rfl ?_); refine zbox (N := 3) (cs := #[.bool true, .int .i64 a1_1, .int .i64 a1_2, .int .i64 a1_3]) (t := 62) ?_; intro gb159 hg w15 hbox hb; have n0_ := Aside0.mk (below_step (zw0 HB.out) hb); have BK159 := Aside0.mk (hbox); have GW159 := Aside0.mk (zg hg (below_size (zw0 HB.out))); have GE159 := GW159; clear HB; have HB := n0_; clear n0_; clear hb hbox hg; have hcz16_0 := zc BK159.out 0; have hcz16_1 := zc BK159.out 1; have hcz16_2 := zc BK159.out 2; have hcz16_3 := zc BK159.out 3; have hfz16_0 := blk_frozen BK159.out 0; have hfz16_1 := blk_frozen BK159.out 1; have hfz16_2 := blk_frozen BK159.out 2; have hfz16_3 := blk_frozen BK159.out 3) | (go_at_call 18; (with_reducible refine (cellarref0_Num.calls a1_2 32 true _ A6.out).mono ?_); rintro e w' ⟨rfl, ⟨nd, rfl⟩⟩; (try first | exact ⟨rfl, _, World.drewN_drewN _ _ _⟩ | exact ⟨rfl, _, Eq.trans (World.drewN_drewN _ _ _) (congrArg (World.drewN _) (Nat.add_assoc _ _ _))⟩)) | (go_at_call 18; (with_reducible refine (cellarref0_Num.calls a1_3 32 false _ A8.out).mono ?_); rintro e w' ⟨rfl, ⟨nd, rfl⟩⟩; (try first | exact ⟨rfl, _, World.drewN_drewN _ _ _⟩ | exact ⟨rfl, _, Eq.trans (World.drewN_drewN _ _ _) (congrArg (World.drewN _) (Nat.add_assoc _ _ _))⟩))))
   go_ret
   exact ⟨ze, zw1 HB.out GE159.out⟩
  subst c9
  have H1 : (if a1_2 > 0 then (some true) else (some (a1_3 == 0))) = some r := by rw [if_pos rfl] at H; exact H
  clear H
  have H := H1
  clear H1
  by_cases c10 : a1_2 > 0
  ·rw [if_pos c10] at H
   have c10b0 : decide (0 < a1_2) = true := decide_eq_true c10
   clear c10
   obtain rfl := Option.some.inj H
   go_enter Try.func32, Try.ntmps32
   go_wp2_with (first | ((with_reducible refine gate_dst (N := 3) rfl ?_); refine zbox (N := 3) (cs := #[.bool true, .int .i64 a1_1, .int .i64 a1_2, .int .i64 a1_3]) (t := 62) ?_; intro gb159 hg w11 hbox hb; have n0_ := Aside0.mk (below_step (zw0 HB.out) hb); have BK159 := Aside0.mk (hbox); have GW159 := Aside0.mk (zg hg (below_size (zw0 HB.out))); have GE159 := GW159; clear HB; have HB := n0_; clear n0_; clear hb hbox hg; have hcz12_0 := zc BK159.out 0; have hcz12_1 := zc BK159.out 1; have hcz12_2 := zc BK159.out 2; have hcz12_3 := zc BK159.out 3; have hfz12_0 := blk_frozen BK159.out 0; have hfz12_1 := blk_frozen BK159.out 1; have hfz12_2 := blk_frozen BK159.out 2; have hfz12_3 := blk_frozen BK159.out 3) | (go_at_call 18; (with_reducible refine (cellarref0_Num.calls a1_2 32 true _ A6.out).mono ?_); rintro e w' ⟨rfl, ⟨nd, rfl⟩⟩; (try first | exact ⟨rfl, _, World.drewN_drewN _ _ _⟩ | exact ⟨rfl, _, Eq.trans (World.drewN_drewN _ _ _) (congrArg (World.drewN _) (Nat.add_assoc _ _ _))⟩)) | (go_at_call 18; (with_reducible refine (cellarref0_Num.calls a1_3 32 true _ A8.out).mono ?_); rintro e w' ⟨rfl, ⟨nd, rfl⟩⟩; (try first | exact ⟨rfl, _, World.drewN_drewN _ _ _⟩ | exact ⟨rfl, _, Eq.trans (World.drewN_drewN _ _ _) (congrArg (World.drewN _) (Nat.add_assoc _ _ _))⟩)))
   repeat (go_quiet (first | ((with_reducible refine gate_dst (N := 3) rfl ?_); refine zbox (N := 3) (cs := #[.bool true, .int .i64 a1_1, .int .i64 a1_2, .int .i64 a1_3]) (t := 62) ?_; intro gb159 hg w11 hbox hb; have n0_ := Aside0.mk (below_step (zw0 HB.out) hb); have BK159 := Aside0.mk (hbox); have GW159 := Aside0.mk (zg hg (below_size (zw0 HB.out))); have GE159 := GW159; clear HB; have HB := n0_; clear n0_; clear hb hbox hg; have hcz12_0 := zc BK159.out 0; have hcz12_1 := zc BK159.out 1; have hcz12_2 := zc BK159.out 2; have hcz12_3 := zc BK159.out 3; have hfz12_0 := blk_frozen BK159.out 0; have hfz12_1 := blk_frozen BK159.out 1; have hfz12_2 := blk_frozen BK159.out 2; have hfz12_3 := blk_frozen BK159.out 3) | (go_at_call 18; (with_reducible refine (cellarref0_Num.calls a1_2 32 true _ A6.out).mono ?_); rintro e w' ⟨rfl, ⟨nd, rfl⟩⟩; (try first | exact ⟨rfl, _, World.drewN_drewN _ _ _⟩ | exact ⟨rfl, _, Eq.trans (World.drewN_drewN _ _ _) (congrArg (World.drewN _) (Nat.add_assoc _ _ _))⟩)) | (go_at_call 18; (with_reducible refine (cellarref0_Num.calls a1_3 32 true _ A8.out).mono ?_); rintro e w' ⟨rfl, ⟨nd, rfl⟩⟩; (try first | exact ⟨rfl, _, World.drewN_drewN _ _ _⟩ | exact ⟨rfl, _, Eq.trans (World.drewN_drewN _ _ _) (congrArg (World.drewN _) (Nat.add_assoc _ _ _))⟩))); try go_wp2_with (first | ((with_reducible refine gate_dst (N := 3) rfl ?_); refine zbox (N := 3) (cs := #[.bool true, .int .i64 a1_1, .int .i64 a1_2, .int .i64 a1_3]) (t := 62) ?_; intro gb159 hg w11 hbox hb; have n0_ := Aside0.mk (below_step (zw0 HB.out) hb); have BK159 := Aside0.mk (hbox); have GW159 := Aside0.mk (zg hg (below_size (zw0 HB.out))); have GE159 := GW159; clear HB; have HB := n0_; clear n0_; clear hb hbox hg; have hcz12_0 := zc BK159.out 0; have hcz12_1 := zc BK159.out 1; have hcz12_2 := zc BK159.out 2; have hcz12_3 := zc BK159.out 3; have hfz12_0 := blk_frozen BK159.out 0; have hfz12_1 := blk_frozen BK159.out 1; have hfz12_2 := blk_frozen BK159.out 2; have hfz12_3 := blk_frozen BK159.out 3) | (go_at_call 18; (with_reducible refine (cellarref0_Num.calls a1_2 32 true _ A6.out).mono ?_); rintro e w' ⟨rfl, ⟨nd, rfl⟩⟩; (try first | exact ⟨rfl, _, World.drewN_drewN _ _ _⟩ | exact ⟨rfl, _, Eq.trans (World.drewN_drewN _ _ _) (congrArg (World.drewN _) (Nat.add_assoc _ _ _))⟩)) | (go_at_call 18; (with_reducible refine (cellarref0_Num.calls a1_3 32 true _ A8.out).mono ?_); rintro e w' ⟨rfl, ⟨nd, rfl⟩⟩; (try first | exact ⟨rfl, _, World.drewN_drewN _ _ _⟩ | exact ⟨rfl, _, Eq.trans (World.drewN_drewN _ _ _) (congrArg (World.drewN _) (Nat.add_assoc _ _ _))⟩))))
   go_ret
   exact ⟨ze, zw1 HB.out GE159.out⟩
  rw [if_neg c10] at H
  have c10b0 : decide (0 < a1_2) = false := decide_eq_false c10
  clear c10
  obtain rfl := Option.some.inj H
  go_enter Try.func32, Try.ntmps32
  go_wp2_with (first | ((with_reducible refine gate_dst (N := 3) rfl ?_); refine zbox (N := 3) (cs := #[.bool true, .int .i64 a1_1, .int .i64 a1_2, .int .i64 a1_3]) (t := 62) ?_; intro gb159 hg w13 hbox hb; have n0_ := Aside0.mk (below_step (zw0 HB.out) hb); have BK159 := Aside0.mk (hbox); have GW159 := Aside0.mk (zg hg (below_size (zw0 HB.out))); have GE159 := GW159; clear HB; have HB := n0_; clear n0_; clear hb hbox hg; have hcz14_0 := zc BK159.out 0; have hcz14_1 := zc BK159.out 1; have hcz14_2 := zc BK159.out 2; have hcz14_3 := zc BK159.out 3; have hfz14_0 := blk_frozen BK159.out 0; have hfz14_1 := blk_frozen BK159.out 1; have hfz14_2 := blk_frozen BK159.out 2; have hfz14_3 := blk_frozen BK159.out 3) | (go_at_call 18; (with_reducible refine (cellarref0_Num.calls a1_2 32 true _ A6.out).mono ?_); rintro e w' ⟨rfl, ⟨nd, rfl⟩⟩; (try first | exact ⟨rfl, _, World.drewN_drewN _ _ _⟩ | exact ⟨rfl, _, Eq.trans (World.drewN_drewN _ _ _) (congrArg (World.drewN _) (Nat.add_assoc _ _ _))⟩)) | (go_at_call 18; (with_reducible refine (cellarref0_Num.calls a1_3 32 true _ A8.out).mono ?_); rintro e w' ⟨rfl, ⟨nd, rfl⟩⟩; (try first | exact ⟨rfl, _, World.drewN_drewN _ _ _⟩ | exact ⟨rfl, _, Eq.trans (World.drewN_drewN _ _ _) (congrArg (World.drewN _) (Nat.add_assoc _ _ _))⟩)))
  repeat (go_quiet (first | ((with_reducible refine gate_dst (N := 3) rfl ?_); refine zbox (N := 3) (cs := #[.bool true, .int .i64 a1_1, .int .i64 a1_2, .int .i64 a1_3]) (t := 62) ?_; intro gb159 hg w13 hbox hb; have n0_ := Aside0.mk (below_step (zw0 HB.out) hb); have BK159 := Aside0.mk (hbox); have GW159 := Aside0.mk (zg hg (below_size (zw0 HB.out))); have GE159 := GW159; clear HB; have HB := n0_; clear n0_; clear hb hbox hg; have hcz14_0 := zc BK159.out 0; have hcz14_1 := zc BK159.out 1; have hcz14_2 := zc BK159.out 2; have hcz14_3 := zc BK159.out 3; have hfz14_0 := blk_frozen BK159.out 0; have hfz14_1 := blk_frozen BK159.out 1; have hfz14_2 := blk_frozen BK159.out 2; have hfz14_3 := blk_frozen BK159.out 3) | (go_at_call 18; (with_reducible refine (cellarref0_Num.calls a1_2 32 true _ A6.out).mono ?_); rintro e w' ⟨rfl, ⟨nd, rfl⟩⟩; (try first | exact ⟨rfl, _, World.drewN_drewN _ _ _⟩ | exact ⟨rfl, _, Eq.trans (World.drewN_drewN _ _ _) (congrArg (World.drewN _) (Nat.add_assoc _ _ _))⟩)) | (go_at_call 18; (with_reducible refine (cellarref0_Num.calls a1_3 32 true _ A8.out).mono ?_); rintro e w' ⟨rfl, ⟨nd, rfl⟩⟩; (try first | exact ⟨rfl, _, World.drewN_drewN _ _ _⟩ | exact ⟨rfl, _, Eq.trans (World.drewN_drewN _ _ _) (congrArg (World.drewN _) (Nat.add_assoc _ _ _))⟩))); try go_wp2_with (first | ((with_reducible refine gate_dst (N := 3) rfl ?_); refine zbox (N := 3) (cs := #[.bool true, .int .i64 a1_1, .int .i64 a1_2, .int .i64 a1_3]) (t := 62) ?_; intro gb159 hg w13 hbox hb; have n0_ := Aside0.mk (below_step (zw0 HB.out) hb); have BK159 := Aside0.mk (hbox); have GW159 := Aside0.mk (zg hg (below_size (zw0 HB.out))); have GE159 := GW159; clear HB; have HB := n0_; clear n0_; clear hb hbox hg; have hcz14_0 := zc BK159.out 0; have hcz14_1 := zc BK159.out 1; have hcz14_2 := zc BK159.out 2; have hcz14_3 := zc BK159.out 3; have hfz14_0 := blk_frozen BK159.out 0; have hfz14_1 := blk_frozen BK159.out 1; have hfz14_2 := blk_frozen BK159.out 2; have hfz14_3 := blk_frozen BK159.out 3) | (go_at_call 18; (with_reducible refine (cellarref0_Num.calls a1_2 32 true _ A6.out).mono ?_); rintro e w' ⟨rfl, ⟨nd, rfl⟩⟩; (try first | exact ⟨rfl, _, World.drewN_drewN _ _ _⟩ | exact ⟨rfl, _, Eq.trans (World.drewN_drewN _ _ _) (congrArg (World.drewN _) (Nat.add_assoc _ _ _))⟩)) | (go_at_call 18; (with_reducible refine (cellarref0_Num.calls a1_3 32 true _ A8.out).mono ?_); rintro e w' ⟨rfl, ⟨nd, rfl⟩⟩; (try first | exact ⟨rfl, _, World.drewN_drewN _ _ _⟩ | exact ⟨rfl, _, Eq.trans (World.drewN_drewN _ _ _) (congrArg (World.drewN _) (Nat.add_assoc _ _ _))⟩))))
  go_ret
  exact ⟨ze, zw1 HB.out GE159.out⟩
 ·rw [if_neg c3] at H
  have c3b0 : (a0 == 7) = false := beq_eq_false_iff_ne.mpr c3
  have c3b1 : (a0 != 7) = true := bne_iff_ne.mpr c3
  replace H := Option.bind_eq_some_iff.mp H
  obtain ⟨t162, A230, H⟩ := H
  replace H : (if t162 > 0 then (if a1_0 = true then (some false) else (if a1_2 = 0 then (if a1_3 = 0 then ((cellarref1_Width.f k a0).bind fun t163 => ((cellarref1_Number.f a1_1 t163).bind fun t164 => (some t164))) else (some false)) else (some false))) else (some false)) = some r := H
  have A23 := Aside0.mk A230
  clear A230
  by_cases c24 : t162 > 0
  ·rw [if_pos c24] at H
   have c24b0 : decide (0 < t162) = true := decide_eq_true c24
   clear c24
   by_cases c25 : a1_0 = true
   ·subst c25
    have H1 : (some false) = some r := by rw [if_pos rfl] at H; exact H
    clear H
    have H := H1
    clear H1
    obtain rfl := Option.some.inj H
    go_enter Try.func32, Try.ntmps32
    go_wp2_with (first | ((with_reducible refine gate_dst (N := 3) rfl ?_); refine zbox (N := 3) (cs := #[.bool true, .int .i64 a1_1, .int .i64 a1_2, .int .i64 a1_3]) (t := 62) ?_; intro gb159 hg w26 hbox hb; have n0_ := Aside0.mk (below_step (zw0 HB.out) hb); have BK159 := Aside0.mk (hbox); have GW159 := Aside0.mk (zg hg (below_size (zw0 HB.out))); have GE159 := GW159; clear HB; have HB := n0_; clear n0_; clear hb hbox hg) | (go_at_call 70; (with_reducible refine (cellarref1_Width.calls k a0 t162 _ A23.out).mono ?_); rintro e w' ⟨rfl, ⟨nd, rfl⟩⟩; (try first | exact ⟨rfl, _, World.drewN_drewN _ _ _⟩ | exact ⟨rfl, _, Eq.trans (World.drewN_drewN _ _ _) (congrArg (World.drewN _) (Nat.add_assoc _ _ _))⟩); have hcz27_0 := zc BK159.out 0; have hcz27_1 := zc BK159.out 1; have hcz27_2 := zc BK159.out 2; have hcz27_3 := zc BK159.out 3; have hfz27_0 := blk_frozen BK159.out 0; have hfz27_1 := blk_frozen BK159.out 1; have hfz27_2 := blk_frozen BK159.out 2; have hfz27_3 := blk_frozen BK159.out 3))
    repeat (go_quiet (first | ((with_reducible refine gate_dst (N := 3) rfl ?_); refine zbox (N := 3) (cs := #[.bool true, .int .i64 a1_1, .int .i64 a1_2, .int .i64 a1_3]) (t := 62) ?_; intro gb159 hg w26 hbox hb; have n0_ := Aside0.mk (below_step (zw0 HB.out) hb); have BK159 := Aside0.mk (hbox); have GW159 := Aside0.mk (zg hg (below_size (zw0 HB.out))); have GE159 := GW159; clear HB; have HB := n0_; clear n0_; clear hb hbox hg) | (go_at_call 70; (with_reducible refine (cellarref1_Width.calls k a0 t162 _ A23.out).mono ?_); rintro e w' ⟨rfl, ⟨nd, rfl⟩⟩; (try first | exact ⟨rfl, _, World.drewN_drewN _ _ _⟩ | exact ⟨rfl, _, Eq.trans (World.drewN_drewN _ _ _) (congrArg (World.drewN _) (Nat.add_assoc _ _ _))⟩); have hcz27_0 := zc BK159.out 0; have hcz27_1 := zc BK159.out 1; have hcz27_2 := zc BK159.out 2; have hcz27_3 := zc BK159.out 3; have hfz27_0 := blk_frozen BK159.out 0; have hfz27_1 := blk_frozen BK159.out 1; have hfz27_2 := blk_frozen BK159.out 2; have hfz27_3 := blk_frozen BK159.out 3)); try go_wp2_with (first | ((with_reducible refine gate_dst (N := 3) rfl ?_); refine zbox (N := 3) (cs := #[.bool true, .int .i64 a1_1, .int .i64 a1_2, .int .i64 a1_3]) (t := 62) ?_; intro gb159 hg w26 hbox hb; have n0_ := Aside0.mk (below_step (zw0 HB.out) hb); have BK159 := Aside0.mk (hbox); have GW159 := Aside0.mk (zg hg (below_size (zw0 HB.out))); have GE159 := GW159; clear HB; have HB := n0_; clear n0_; clear hb hbox hg) | (go_at_call 70; (with_reducible refine (cellarref1_Width.calls k a0 t162 _ A23.out).mono ?_); rintro e w' ⟨rfl, ⟨nd, rfl⟩⟩; (try first | exact ⟨rfl, _, World.drewN_drewN _ _ _⟩ | exact ⟨rfl, _, Eq.trans (World.drewN_drewN _ _ _) (congrArg (World.drewN _) (Nat.add_assoc _ _ _))⟩); have hcz27_0 := zc BK159.out 0; have hcz27_1 := zc BK159.out 1; have hcz27_2 := zc BK159.out 2; have hcz27_3 := zc BK159.out 3; have hfz27_0 := blk_frozen BK159.out 0; have hfz27_1 := blk_frozen BK159.out 1; have hfz27_2 := blk_frozen BK159.out 2; have hfz27_3 := blk_frozen BK159.out 3)))
    go_ret
    exact ⟨ze, zw1 HB.out GE159.out⟩
   replace c25 := Bool.eq_false_iff.mpr c25
   subst c25
   have H1 : (if a1_2 = 0 then (if a1_3 = 0 then ((cellarref1_Width.f k a0).bind fun t163 => ((cellarref1_Number.f a1_1 t163).bind fun t164 => (some t164))) else (some false)) else (some false)) = some r := by rw [if_neg (show ¬ (false = true) by decide)] at H; exact H
   clear H
   have H := H1
   clear H1
   by_cases c28 : a1_2 = 0
   rotate_left
   ·rw [if_neg c28] at H
    have c28b0 : (a1_2 == 0) = false := beq_eq_false_iff_ne.mpr c28
    have c28b1 : (a1_2 != 0) = true := bne_iff_ne.mpr c28
    obtain rfl := Option.some.inj H
    go_enter Try.func32, Try.ntmps32
    go_wp2_with (first | ((with_reducible refine gate_dst (N := 3) rfl ?_); refine zbox (N := 3) (cs := #[.bool false, .int .i64 a1_1, .int .i64 a1_2, .int .i64 a1_3]) (t := 62) ?_; intro gb159 hg w36 hbox hb; have n0_ := Aside0.mk (below_step (zw0 HB.out) hb); have BK159 := Aside0.mk (hbox); have GW159 := Aside0.mk (zg hg (below_size (zw0 HB.out))); have GE159 := GW159; clear HB; have HB := n0_; clear n0_; clear hb hbox hg) | (go_at_call 70; (with_reducible refine (cellarref1_Width.calls k a0 t162 _ A23.out).mono ?_); rintro e w' ⟨rfl, ⟨nd, rfl⟩⟩; (try first | exact ⟨rfl, _, World.drewN_drewN _ _ _⟩ | exact ⟨rfl, _, Eq.trans (World.drewN_drewN _ _ _) (congrArg (World.drewN _) (Nat.add_assoc _ _ _))⟩); have hcz37_0 := zc BK159.out 0; have hcz37_1 := zc BK159.out 1; have hcz37_2 := zc BK159.out 2; have hcz37_3 := zc BK159.out 3; have hfz37_0 := blk_frozen BK159.out 0; have hfz37_1 := blk_frozen BK159.out 1; have hfz37_2 := blk_frozen BK159.out 2; have hfz37_3 := blk_frozen BK159.out 3))
    repeat (go_quiet (first | ((with_reducible refine gate_dst (N := 3) rfl ?_); refine zbox (N := 3) (cs := #[.bool false, .int .i64 a1_1, .int .i64 a1_2, .int .i64 a1_3]) (t := 62) ?_; intro gb159 hg w36 hbox hb; have n0_ := Aside0.mk (below_step (zw0 HB.out) hb); have BK159 := Aside0.mk (hbox); have GW159 := Aside0.mk (zg hg (below_size (zw0 HB.out))); have GE159 := GW159; clear HB; have HB := n0_; clear n0_; clear hb hbox hg) | (go_at_call 70; (with_reducible refine (cellarref1_Width.calls k a0 t162 _ A23.out).mono ?_); rintro e w' ⟨rfl, ⟨nd, rfl⟩⟩; (try first | exact ⟨rfl, _, World.drewN_drewN _ _ _⟩ | exact ⟨rfl, _, Eq.trans (World.drewN_drewN _ _ _) (congrArg (World.drewN _) (Nat.add_assoc _ _ _))⟩); have hcz37_0 := zc BK159.out 0; have hcz37_1 := zc BK159.out 1; have hcz37_2 := zc BK159.out 2; have hcz37_3 := zc BK159.out 3; have hfz37_0 := blk_frozen BK159.out 0; have hfz37_1 := blk_frozen BK159.out 1; have hfz37_2 := blk_frozen BK159.out 2; have hfz37_3 := blk_frozen BK159.out 3)); try go_wp2_with (first | ((with_reducible refine gate_dst (N := 3) rfl ?_); refine zbox (N := 3) (cs := #[.bool false, .int .i64 a1_1, .int .i64 a1_2, .int .i64 a1_3]) (t := 62) ?_; intro gb159 hg w36 hbox hb; have n0_ := Aside0.mk (below_step (zw0 HB.out) hb); have BK159 := Aside0.mk (hbox); have GW159 := Aside0.mk (zg hg (below_size (zw0 HB.out))); have GE159 := GW159; clear HB; have HB := n0_; clear n0_; clear hb hbox hg) | (go_at_call 70; (with_reducible refine (cellarref1_Width.calls k a0 t162 _ A23.out).mono ?_); rintro e w' ⟨rfl, ⟨nd, rfl⟩⟩; (try first | exact ⟨rfl, _, World.drewN_drewN _ _ _⟩ | exact ⟨rfl, _, Eq.trans (World.drewN_drewN _ _ _) (congrArg (World.drewN _) (Nat.add_assoc _ _ _))⟩); have hcz37_0 := zc BK159.out 0; have hcz37_1 := zc BK159.out 1; have hcz37_2 := zc BK159.out 2; have hcz37_3 := zc BK159.out 3; have hfz37_0 := blk_frozen BK159.out 0; have hfz37_1 := blk_frozen BK159.out 1; have hfz37_2 := blk_frozen BK159.out 2; have hfz37_3 := blk_frozen BK159.out 3)))
    go_ret
    exact ⟨ze, zw1 HB.out GE159.out⟩
   rw [if_pos c28] at H
   have c28b0 : (a1_2 == 0) = true := beq_iff_eq.mpr c28
   have c28b1 : (a1_2 != 0) = false := bne_eq_false_iff_eq.mpr c28
   clear c28
   by_cases c29 : a1_3 = 0
   rotate_left
   ·rw [if_neg c29] at H
    have c29b0 : (a1_3 == 0) = false := beq_eq_false_iff_ne.mpr c29
    have c29b1 : (a1_3 != 0) = true := bne_iff_ne.mpr c29
    obtain rfl := Option.some.inj H
    go_enter Try.func32, Try.ntmps32
    go_wp2_with (first | ((with_reducible refine gate_dst (N := 3) rfl ?_); refine zbox (N := 3) (cs := #[.bool false, .int .i64 a1_1, .int .i64 a1_2, .int .i64 a1_3]) (t := 62) ?_; intro gb159 hg w34 hbox hb; have n0_ := Aside0.mk (below_step (zw0 HB.out) hb); have BK159 := Aside0.mk (hbox); have GW159 := Aside0.mk (zg hg (below_size (zw0 HB.out))); have GE159 := GW159; clear HB; have HB := n0_; clear n0_; clear hb hbox hg) | (go_at_call 70; (with_reducible refine (cellarref1_Width.calls k a0 t162 _ A23.out).mono ?_); rintro e w' ⟨rfl, ⟨nd, rfl⟩⟩; (try first | exact ⟨rfl, _, World.drewN_drewN _ _ _⟩ | exact ⟨rfl, _, Eq.trans (World.drewN_drewN _ _ _) (congrArg (World.drewN _) (Nat.add_assoc _ _ _))⟩); have hcz35_0 := zc BK159.out 0; have hcz35_1 := zc BK159.out 1; have hcz35_2 := zc BK159.out 2; have hcz35_3 := zc BK159.out 3; have hfz35_0 := blk_frozen BK159.out 0; have hfz35_1 := blk_frozen BK159.out 1; have hfz35_2 := blk_frozen BK159.out 2; have hfz35_3 := blk_frozen BK159.out 3))
    repeat (go_quiet (first | ((with_reducible refine gate_dst (N := 3) rfl ?_); refine zbox (N := 3) (cs := #[.bool false, .int .i64 a1_1, .int .i64 a1_2, .int .i64 a1_3]) (t := 62) ?_; intro gb159 hg w34 hbox hb; have n0_ := Aside0.mk (below_step (zw0 HB.out) hb); have BK159 := Aside0.mk (hbox); have GW159 := Aside0.mk (zg hg (below_size (zw0 HB.out))); have GE159 := GW159; clear HB; have HB := n0_; clear n0_; clear hb hbox hg) | (go_at_call 70; (with_reducible refine (cellarref1_Width.calls k a0 t162 _ A23.out).mono ?_); rintro e w' ⟨rfl, ⟨nd, rfl⟩⟩; (try first | exact ⟨rfl, _, World.drewN_drewN _ _ _⟩ | exact ⟨rfl, _, Eq.trans (World.drewN_drewN _ _ _) (congrArg (World.drewN _) (Nat.add_assoc _ _ _))⟩); have hcz35_0 := zc BK159.out 0; have hcz35_1 := zc BK159.out 1; have hcz35_2 := zc BK159.out 2; have hcz35_3 := zc BK159.out 3; have hfz35_0 := blk_frozen BK159.out 0; have hfz35_1 := blk_frozen BK159.out 1; have hfz35_2 := blk_frozen BK159.out 2; have hfz35_3 := blk_frozen BK159.out 3)); try go_wp2_with (first | ((with_reducible refine gate_dst (N := 3) rfl ?_); refine zbox (N := 3) (cs := #[.bool false, .int .i64 a1_1, .int .i64 a1_2, .int .i64 a1_3]) (t := 62) ?_; intro gb159 hg w34 hbox hb; have n0_ := Aside0.mk (below_step (zw0 HB.out) hb); have BK159 := Aside0.mk (hbox); have GW159 := Aside0.mk (zg hg (below_size (zw0 HB.out))); have GE159 := GW159; clear HB; have HB := n0_; clear n0_; clear hb hbox hg) | (go_at_call 70; (with_reducible refine (cellarref1_Width.calls k a0 t162 _ A23.out).mono ?_); rintro e w' ⟨rfl, ⟨nd, rfl⟩⟩; (try first | exact ⟨rfl, _, World.drewN_drewN _ _ _⟩ | exact ⟨rfl, _, Eq.trans (World.drewN_drewN _ _ _) (congrArg (World.drewN _) (Nat.add_assoc _ _ _))⟩); have hcz35_0 := zc BK159.out 0; have hcz35_1 := zc BK159.out 1; have hcz35_2 := zc BK159.out 2; have hcz35_3 := zc BK159.out 3; have hfz35_0 := blk_frozen BK159.out 0; have hfz35_1 := blk_frozen BK159.out 1; have hfz35_2 := blk_frozen BK159.out 2; have hfz35_3 := blk_frozen BK159.out 3)))
    go_ret
    exact ⟨ze, zw1 HB.out GE159.out⟩
   rw [if_pos c29] at H
   have c29b0 : (a1_3 == 0) = true := beq_iff_eq.mpr c29
   have c29b1 : (a1_3 != 0) = false := bne_eq_false_iff_eq.mpr c29
   clear c29
   replace H := Option.bind_eq_some_iff.mp H
   obtain ⟨t163, A300, H⟩ := H
   replace H : ((cellarref1_Number.f a1_1 t163).bind fun t164 => (some t164)) = some r := H
   have A30 := Aside0.mk A300
   clear A300
   obtain rfl : t162 = t163 := by have h1_ := A23.out; rw [A30.out] at h1_; exact (Option.some.inj h1_).symm
   replace H := Option.bind_eq_some_iff.mp H
   obtain ⟨t164, A310, H⟩ := H
   replace H : (some t164) = some r := H
   have A31 := Aside0.mk A310
   clear A310
   obtain rfl := Option.some.inj H
   go_enter Try.func32, Try.ntmps32
   go_wp2_with (first | ((with_reducible refine gate_dst (N := 3) rfl ?_); refine zbox (N := 3) (cs := #[.bool false, .int .i64 a1_1, .int .i64 a1_2, .int .i64 a1_3]) (t := 62) ?_; intro gb159 hg w32 hbox hb; have n0_ := Aside0.mk (below_step (zw0 HB.out) hb); have BK159 := Aside0.mk (hbox); have GW159 := Aside0.mk (zg hg (below_size (zw0 HB.out))); have GE159 := GW159; clear HB; have HB := n0_; clear n0_; clear hb hbox hg) | (go_at_call 70; (with_reducible refine (cellarref1_Width.calls k a0 t162 _ A23.out).mono ?_); rintro e w' ⟨rfl, ⟨nd, rfl⟩⟩; (try first | exact ⟨rfl, _, World.drewN_drewN _ _ _⟩ | exact ⟨rfl, _, Eq.trans (World.drewN_drewN _ _ _) (congrArg (World.drewN _) (Nat.add_assoc _ _ _))⟩); have hcz33_0 := zc BK159.out 0; have hcz33_1 := zc BK159.out 1; have hcz33_2 := zc BK159.out 2; have hcz33_3 := zc BK159.out 3; have hfz33_0 := blk_frozen BK159.out 0; have hfz33_1 := blk_frozen BK159.out 1; have hfz33_2 := blk_frozen BK159.out 2; have hfz33_3 := blk_frozen BK159.out 3) | (go_at_call 70; (with_reducible refine (cellarref1_Width.calls k a0 t162 _ A30.out).mono ?_); rintro e w' ⟨rfl, ⟨nd, rfl⟩⟩; (try first | exact ⟨rfl, _, World.drewN_drewN _ _ _⟩ | exact ⟨rfl, _, Eq.trans (World.drewN_drewN _ _ _) (congrArg (World.drewN _) (Nat.add_assoc _ _ _))⟩)) | (go_at_call 46; (with_reducible refine (cellarref1_Number.calls a1_1 t162 t164 _ A31.out).mono ?_); rintro e w' ⟨rfl, ⟨nd, rfl⟩⟩; (try first | exact ⟨rfl, _, World.drewN_drewN _ _ _⟩ | exact ⟨rfl, _, Eq.trans (World.drewN_drewN _ _ _) (congrArg (World.drewN _) (Nat.add_assoc _ _ _))⟩)))
   repeat (go_quiet (first | ((with_reducible refine gate_dst (N := 3) rfl ?_); refine zbox (N := 3) (cs := #[.bool false, .int .i64 a1_1, .int .i64 a1_2, .int .i64 a1_3]) (t := 62) ?_; intro gb159 hg w32 hbox hb; have n0_ := Aside0.mk (below_step (zw0 HB.out) hb); have BK159 := Aside0.mk (hbox); have GW159 := Aside0.mk (zg hg (below_size (zw0 HB.out))); have GE159 := GW159; clear HB; have HB := n0_; clear n0_; clear hb hbox hg) | (go_at_call 70; (with_reducible refine (cellarref1_Width.calls k a0 t162 _ A23.out).mono ?_); rintro e w' ⟨rfl, ⟨nd, rfl⟩⟩; (try first | exact ⟨rfl, _, World.drewN_drewN _ _ _⟩ | exact ⟨rfl, _, Eq.trans (World.drewN_drewN _ _ _) (congrArg (World.drewN _) (Nat.add_assoc _ _ _))⟩); have hcz33_0 := zc BK159.out 0; have hcz33_1 := zc BK159.out 1; have hcz33_2 := zc BK159.out 2; have hcz33_3 := zc BK159.out 3; have hfz33_0 := blk_frozen BK159.out 0; have hfz33_1 := blk_frozen BK159.out 1; have hfz33_2 := blk_frozen BK159.out 2; have hfz33_3 := blk_frozen BK159.out 3) | (go_at_call 70; (with_reducible refine (cellarref1_Width.calls k a0 t162 _ A30.out).mono ?_); rintro e w' ⟨rfl, ⟨nd, rfl⟩⟩; (try first | exact ⟨rfl, _, World.drewN_drewN _ _ _⟩ | exact ⟨rfl, _, Eq.trans (World.drewN_drewN _ _ _) (congrArg (World.drewN _) (Nat.add_assoc _ _ _))⟩)) | (go_at_call 46; (with_reducible refine (cellarref1_Number.calls a1_1 t162 t164 _ A31.out).mono ?_); rintro e w' ⟨rfl, ⟨nd, rfl⟩⟩; (try first | exact ⟨rfl, _, World.drewN_drewN _ _ _⟩ | exact ⟨rfl, _, Eq.trans (World.drewN_drewN _ _ _) (congrArg (World.drewN _) (Nat.add_assoc _ _ _))⟩))); try go_wp2_with (first | ((with_reducible refine gate_dst (N := 3) rfl ?_); refine zbox (N := 3) (cs := #[.bool false, .int .i64 a1_1, .int .i64 a1_2, .int .i64 a1_3]) (t := 62) ?_; intro gb159 hg w32 hbox hb; have n0_ := Aside0.mk (below_step (zw0 HB.out) hb); have BK159 := Aside0.mk (hbox); have GW159 := Aside0.mk (zg hg (below_size (zw0 HB.out))); have GE159 := GW159; clear HB; have HB := n0_; clear n0_; clear hb hbox hg) | (go_at_call 70; (with_reducible refine (cellarref1_Width.calls k a0 t162 _ A23.out).mono ?_); rintro e w' ⟨rfl, ⟨nd, rfl⟩⟩; (try first | exact ⟨rfl, _, World.drewN_drewN _ _ _⟩ | exact ⟨rfl, _, Eq.trans (World.drewN_drewN _ _ _) (congrArg (World.drewN _) (Nat.add_assoc _ _ _))⟩); have hcz33_0 := zc BK159.out 0; have hcz33_1 := zc BK159.out 1; have hcz33_2 := zc BK159.out 2; have hcz33_3 := zc BK159.out 3; have hfz33_0 := blk_frozen BK159.out 0; have hfz33_1 := blk_frozen BK159.out 1; have hfz33_2 := blk_frozen BK159.out 2; have hfz33_3 := blk_frozen BK159.out 3) | (go_at_call 70; (with_reducible refine (cellarref1_Width.calls k a0 t162 _ A30.out).mono ?_); rintro e w' ⟨rfl, ⟨nd, rfl⟩⟩; (try first | exact ⟨rfl, _, World.drewN_drewN _ _ _⟩ | exact ⟨rfl, _, Eq.trans (World.drewN_drewN _ _ _) (congrArg (World.drewN _) (Nat.add_assoc _ _ _))⟩)) | (go_at_call 46; (with_reducible refine (cellarref1_Number.calls a1_1 t162 t164 _ A31.out).mono ?_); rintro e w' ⟨rfl, ⟨nd, rfl⟩⟩; (try first | exact ⟨rfl, _, World.drewN_drewN _ _ _⟩ | exact ⟨rfl, _, Eq.trans (World.drewN_drewN _ _ _) (congrArg (World.drewN _) (Nat.add_assoc _ _ _))⟩))))
   go_ret
   exact ⟨ze, zw1 HB.out GE159.out⟩
  ·rw [if_neg c24] at H
   have c24b0 : decide (0 < t162) = false := decide_eq_false c24
   clear c24
   obtain rfl := Option.some.inj H
   go_enter Try.func32, Try.ntmps32
   go_wp2_with (first | ((with_reducible refine gate_dst (N := 3) rfl ?_); refine zbox (N := 3) (cs := #[.bool a1_0, .int .i64 a1_1, .int .i64 a1_2, .int .i64 a1_3]) (t := 62) ?_; intro gb159 hg w38 hbox hb; have n0_ := Aside0.mk (below_step (zw0 HB.out) hb); have BK159 := Aside0.mk (hbox); have GW159 := Aside0.mk (zg hg (below_size (zw0 HB.out))); have GE159 := GW159; clear HB; have HB := n0_; clear n0_; clear hb hbox hg) | (go_at_call 70; (with_reducible refine (cellarref1_Width.calls k a0 t162 _ A23.out).mono ?_); rintro e w' ⟨rfl, ⟨nd, rfl⟩⟩; (try first | exact ⟨rfl, _, World.drewN_drewN _ _ _⟩ | exact ⟨rfl, _, Eq.trans (World.drewN_drewN _ _ _) (congrArg (World.drewN _) (Nat.add_assoc _ _ _))⟩)))
   repeat (go_quiet (first | ((with_reducible refine gate_dst (N := 3) rfl ?_); refine zbox (N := 3) (cs := #[.bool a1_0, .int .i64 a1_1, .int .i64 a1_2, .int .i64 a1_3]) (t := 62) ?_; intro gb159 hg w38 hbox hb; have n0_ := Aside0.mk (below_step (zw0 HB.out) hb); have BK159 := Aside0.mk (hbox); have GW159 := Aside0.mk (zg hg (below_size (zw0 HB.out))); have GE159 := GW159; clear HB; have HB := n0_; clear n0_; clear hb hbox hg) | (go_at_call 70; (with_reducible refine (cellarref1_Width.calls k a0 t162 _ A23.out).mono ?_); rintro e w' ⟨rfl, ⟨nd, rfl⟩⟩; (try first | exact ⟨rfl, _, World.drewN_drewN _ _ _⟩ | exact ⟨rfl, _, Eq.trans (World.drewN_drewN _ _ _) (congrArg (World.drewN _) (Nat.add_assoc _ _ _))⟩))); try go_wp2_with (first | ((with_reducible refine gate_dst (N := 3) rfl ?_); refine zbox (N := 3) (cs := #[.bool a1_0, .int .i64 a1_1, .int .i64 a1_2, .int .i64 a1_3]) (t := 62) ?_; intro gb159 hg w38 hbox hb; have n0_ := Aside0.mk (below_step (zw0 HB.out) hb); have BK159 := Aside0.mk (hbox); have GW159 := Aside0.mk (zg hg (below_size (zw0 HB.out))); have GE159 := GW159; clear HB; have HB := n0_; clear n0_; clear hb hbox hg) | (go_at_call 70; (with_reducible refine (cellarref1_Width.calls k a0 t162 _ A23.out).mono ?_); rintro e w' ⟨rfl, ⟨nd, rfl⟩⟩; (try first | exact ⟨rfl, _, World.drewN_drewN _ _ _⟩ | exact ⟨rfl, _, Eq.trans (World.drewN_drewN _ _ _) (congrArg (World.drewN _) (Nat.add_assoc _ _ _))⟩))))
   go_ret
   exact ⟨ze, zw1 HB.out GE159.out⟩

/-! cellarref7_Pointer -/
def cellarref7_Pointer.f (k : Nat) (l0 : List (S76)) (a1_0 : Bool) (a1_1 : Int) (a1_2 : Int) (a1_3 : Int) : Option (Bool) := (cellarref7_Scalar.f k 7 a1_0 a1_1 a1_2 a1_3).bind fun t166 => (if t166 = true then (some (decide (a1_2 < (l0.length : Int)))) else (some false))
theorem cellarref7_Pointer.mono : ∀ a0 a1 a2 a3 a4 k, LeO (cellarref7_Pointer.f k a0 a1 a2 a3 a4) (cellarref7_Pointer.f (k + 1) a0 a1 a2 a3 a4) := by
 intro a0 a1 a2 a3 a4 k
 unfold cellarref7_Pointer.f
 repeat' first
   | (with_reducible apply cellarref7_Scalar.mono)
   | (with_reducible apply LeO.refl)
   | (with_reducible apply LeO.none)
   | (with_reducible refine LeO.ite ?_ ?_)
   | (with_reducible refine LeO.bind ?_ (fun _ => ?_))
set_option maxHeartbeats 8000000 in
set_option maxRecDepth 100000 in
theorem cellarref7_Pointer.calls (k : Nat) (A0 : Option Addr) (c0 : Nat) (l0 : List (S76)) (a1_0 : Bool) (a1_1 : Int) (a1_2 : Int) (a1_3 : Int) (r : Bool) (w : World) (hr0 : Kd.C k76 w A0 l0.length l0) (hc0 : l0.length ≤ c0) (h : cellarref7_Pointer.f k l0 a1_0 a1_1 a1_2 a1_3 = some r) :
  Calls Try.prog 33 #[.slice A0 l0.length c0, .agg #[.bool a1_0, .int .i64 a1_1, .int .i64 a1_2, .int .i64 a1_3]] w fun e w' => e = .returned (.bool r) ∧ Below w.heap.size w w' := by
 have hu62 := Try.underlying62
 have HR0 := Aside0.mk hr0
 have HC0 := Aside0.mk hc0
 clear hr0 hc0
 have HB := Aside0.mk (Below.refl w.heap.size w)
 have H : ((cellarref7_Scalar.f k 7 a1_0 a1_1 a1_2 a1_3).bind fun t166 => (if t166 = true then (some (decide (a1_2 < (l0.length : Int)))) else (some false))) = some r := h
 clear h
 replace H := Option.bind_eq_some_iff.mp H
 obtain ⟨t166, A30, H⟩ := H
 replace H : (if t166 = true then (some (decide (a1_2 < (l0.length : Int)))) else (some false)) = some r := H
 have A3 := Aside0.mk A30
 clear A30
 by_cases c4 : t166 = true
 ·subst c4
  have H1 : (some (decide (a1_2 < (l0.length : Int)))) = some r := by rw [if_pos rfl] at H; exact H
  clear H
  have H := H1
  clear H1
  obtain rfl := Option.some.inj H
  go_enter Try.func33, Try.ntmps33
  go_wp2_with (first | ((with_reducible refine gate_dst (N := 3) rfl ?_); (try (refine gate_guard (by rfl) ?_; dsimp only)); refine zbox (N := 3) (cs := #[.bool a1_0, .int .i64 a1_1, .int .i64 a1_2, .int .i64 a1_3]) (t := 62) ?_; intro gb165 hg w5 hbox hb; have n0_ := Aside0.mk (below_step (zw0 HB.out) hb); have BK165 := Aside0.mk (hbox); have GW165 := Aside0.mk (zg hg (below_size (zw0 HB.out))); have GE165 := GW165; clear HB; have HB := n0_; clear n0_; clear hb hbox hg; have hcz6_0 := zc BK165.out 0; have hcz6_1 := zc BK165.out 1; have hcz6_2 := zc BK165.out 2; have hcz6_3 := zc BK165.out 3; have hfz6_0 := blk_frozen BK165.out 0; have hfz6_1 := blk_frozen BK165.out 1; have hfz6_2 := blk_frozen BK165.out 2; have hfz6_3 := blk_frozen BK165.out 3) | ((with_reducible refine gate_callee (f := 32) rfl ?_); refine zgo (some 6) Try.func32 #[.int .i64 7, .agg #[.bool a1_0, .int .i64 a1_1, .int .i64 a1_2, .int .i64 a1_3]] ?_; (with_reducible refine (cellarref7_Scalar.calls k 7 a1_0 a1_1 a1_2 a1_3 true _ A3.out).mono ?_); rintro e w7 ⟨rfl, hb⟩; refine ⟨_, rfl, ?_⟩; have n0_ := Aside0.mk (zbb BK165.out hb); have n1_ := Aside0.mk (below_step (zw1 HB.out GE165.out) hb); clear BK165 HB; have BK165 := n0_; have HB := n1_; clear n0_ n1_; (try clear hb); (try clear hb2); (try clear hk); (try clear hi); have hcz8_0 := zc BK165.out 0; have hcz8_1 := zc BK165.out 1; have hcz8_2 := zc BK165.out 2; have hcz8_3 := zc BK165.out 3; have hfz8_0 := blk_frozen BK165.out 0; have hfz8_1 := blk_frozen BK165.out 1; have hfz8_2 := blk_frozen BK165.out 2; have hfz8_3 := blk_frozen BK165.out 3))
  go_ret
  exact ⟨ze, zw1 HB.out GE165.out⟩
 ·replace c4 := Bool.eq_false_iff.mpr c4
  subst c4
  have H1 : (some false) = some r := by rw [if_neg (show ¬ (false = true) by decide)] at H; exact H
  clear H
  have H := H1
  clear H1
  obtain rfl := Option.some.inj H
  go_enter Try.func33, Try.ntmps33
  go_wp2_with (first | ((with_reducible refine gate_dst (N := 3) rfl ?_); (try (refine gate_guard (by rfl) ?_; dsimp only)); refine zbox (N := 3) (cs := #[.bool a1_0, .int .i64 a1_1, .int .i64 a1_2, .int .i64 a1_3]) (t := 62) ?_; intro gb165 hg w9 hbox hb; have n0_ := Aside0.mk (below_step (zw0 HB.out) hb); have BK165 := Aside0.mk (hbox); have GW165 := Aside0.mk (zg hg (below_size (zw0 HB.out))); have GE165 := GW165; clear HB; have HB := n0_; clear n0_; clear hb hbox hg; have hcz10_0 := zc BK165.out 0; have hcz10_1 := zc BK165.out 1; have hcz10_2 := zc BK165.out 2; have hcz10_3 := zc BK165.out 3; have hfz10_0 := blk_frozen BK165.out 0; have hfz10_1 := blk_frozen BK165.out 1; have hfz10_2 := blk_frozen BK165.out 2; have hfz10_3 := blk_frozen BK165.out 3) | ((with_reducible refine gate_callee (f := 32) rfl ?_); refine zgo (some 6) Try.func32 #[.int .i64 7, .agg #[.bool a1_0, .int .i64 a1_1, .int .i64 a1_2, .int .i64 a1_3]] ?_; (with_reducible refine (cellarref7_Scalar.calls k 7 a1_0 a1_1 a1_2 a1_3 false _ A3.out).mono ?_); rintro e w11 ⟨rfl, hb⟩; refine ⟨_, rfl, ?_⟩; have n0_ := Aside0.mk (zbb BK165.out hb); have n1_ := Aside0.mk (below_step (zw1 HB.out GE165.out) hb); clear BK165 HB; have BK165 := n0_; have HB := n1_; clear n0_ n1_; (try clear hb); (try clear hb2); (try clear hk); (try clear hi)))
  go_ret
  exact ⟨ze, zw1 HB.out GE165.out⟩

/-! cellarlaw9_num -/
def cellarlaw9_num.f (a0 : Int) : Option (Int) := some a0
set_option maxHeartbeats 8000000 in
set_option maxRecDepth 100000 in
theorem cellarlaw9_num.calls (a0 : Int) (r : Int) (w : World) (h : cellarlaw9_num.f a0 = some r) :
  Calls Try.prog 35 #[.int .i64 a0] w fun e w' => e = .returned (.int .i64 r) ∧ Drawn0 w w' := by
 have H : (some a0) = some r := h
 clear h
 obtain rfl := Option.some.inj H
 go_enter Try.func35, Try.ntmps35
 go_wp2
 go_ret
 exact ⟨zr, by repeat (first | exact Drawn0.refl _ | apply Drawn0.step)⟩

/-! cellarref0_EqBytes -/
def cellarref0_EqBytes.l0 : Nat → List (S74) → List (S74) → Int → Option (Bool)
 | 0, _, _, _ => none
 | k + 1, x0, x1, x5 => if x5 < (x0.length : Int) then (if 0 ≤ x5 then (if x5 < (x1.length : Int) then (if (!(((rd_T74 x0 x5).f0) == ((rd_T74 x1 x5).f0)) || (!(((rd_T74 x0 x5).f1) == ((rd_T74 x1 x5).f1)) || (!(((rd_T74 x0 x5).f2) == ((rd_T74 x1 x5).f2)) || (!(((rd_T74 x0 x5).f3) == ((rd_T74 x1 x5).f3)) || (!(((rd_T74 x0 x5).f4) == ((rd_T74 x1 x5).f4))))))) = true then (some false) else (cellarref0_EqBytes.l0 k x0 x1 (wrap64 (x5 + 1)))) else (none)) else (none)) else (some true)
def cellarref0_EqBytes.f (k : Nat) (l0 : List (S74)) (l1 : List (S74)) : Option (Bool) := if (l0.length : Int) = (l1.length : Int) then (cellarref0_EqBytes.l0 k l0 l1 0) else (some false)
theorem cellarref0_EqBytes.mono_l : ∀ k, (∀ y0 y1 y2, LeO (cellarref0_EqBytes.l0 k y0 y1 y2) (cellarref0_EqBytes.l0 (k + 1) y0 y1 y2))
 | 0 => fun _ _ _ r h => by simp [cellarref0_EqBytes.l0] at h
 | k + 1 => by
  have ih0 := cellarref0_EqBytes.mono_l k
  ·intro y0 y1 y2
   unfold cellarref0_EqBytes.l0
   repeat' first
   | (with_reducible apply ih0)
   | (with_reducible apply LeO.refl)
   | (with_reducible apply LeO.none)
   | (with_reducible refine LeO.ite ?_ ?_)
   | (with_reducible refine LeO.bind ?_ (fun _ => ?_))
theorem cellarref0_EqBytes.mono : ∀ a0 a1 k, LeO (cellarref0_EqBytes.f k a0 a1) (cellarref0_EqBytes.f (k + 1) a0 a1) := by
 intro a0 a1 k
 have ih0 := cellarref0_EqBytes.mono_l k
 unfold cellarref0_EqBytes.f
 repeat' first
   | (with_reducible apply ih0)
   | (with_reducible apply LeO.refl)
   | (with_reducible apply LeO.none)
   | (with_reducible refine LeO.ite ?_ ?_)
   | (with_reducible refine LeO.bind ?_ (fun _ => ?_))
set_option maxHeartbeats 8000000 in
set_option maxRecDepth 100000 in
theorem cellarref0_EqBytes.calls (k : Nat) (A0 : Option Addr) (c0 : Nat) (l0 : List (S74)) (A1 : Option Addr) (c1 : Nat) (l1 : List (S74)) (r : Bool) (w : World) (hr0 : Kd.C k74 w A0 l0.length l0) (hc0 : l0.length ≤ c0) (hr1 : Kd.C k74 w A1 l1.length l1) (hc1 : l1.length ≤ c1) (h : cellarref0_EqBytes.f k l0 l1 = some r) :
  Calls Try.prog 105 #[.slice A0 l0.length c0, .slice A1 l1.length c1] w fun e w' => e = .returned (.bool r) ∧ Drawn0 w w' := by
 have hu74 := Try.underlying74
 have HR0 := Aside0.mk hr0
 have HC0 := Aside0.mk hc0
 clear hr0 hc0
 have HR1 := Aside0.mk hr1
 have HC1 := Aside0.mk hc1
 clear hr1 hc1
 have H : (if (l0.length : Int) = (l1.length : Int) then (cellarref0_EqBytes.l0 k l0 l1 0) else (some false)) = some r := h
 clear h
 by_cases c3 : (l0.length : Int) = (l1.length : Int)
 ·rw [if_pos c3] at H
  have c3b0 : ((l0.length : Int) == (l1.length : Int)) = true := beq_iff_eq.mpr c3
  have c3b1 : ((l0.length : Int) != (l1.length : Int)) = false := bne_eq_false_iff_eq.mpr c3
  have c3b2 : (l0.length == l1.length) = true := by first | simpa using c3 | (simp at c3 ⊢; omega)
  clear c3
  have H' := Aside0.mk H
  clear H
  go_enter Try.func105, Try.ntmps105
  go_wp2
  repeat (go_quiet (fail); try go_wp2)
  go_loopg [5] k (fun kq v5 w' => ∃ (x5_1 : Int), v5 = .int .i64 x5_1 ∧ Aside0 (cellarref0_EqBytes.l0 kq l0 l1 x5_1 = some r) ∧ Aside0 (kq ≤ k) ∧ Drawn0 w w')
  case atStart => exact ⟨(0), (zr), H', ⟨Nat.le_refl _⟩, by repeat (first | exact Drawn0.refl _ | apply Drawn0.step)⟩
  case round =>
   clear H'
   try clear c1; try clear p2; try clear c3; try clear c3b0; try clear c3b1; try clear c3b2
   obtain ⟨x5_1, rfl, HA, HK1, ⟨m1, rfl⟩⟩ := hrel
   cases gk with
   | zero => exact absurd HA.out (by simp [cellarref0_EqBytes.l0])
   | succ k1 =>
    have H := HA.out
    clear HA
    simp only [cellarref0_EqBytes.l0] at H
    by_cases c4 : x5_1 < (l0.length : Int)
    rotate_left
    ·rw [if_neg c4] at H
     have c4b0 : decide (x5_1 < (l0.length : Int)) = false := decide_eq_false c4
     clear c4
     obtain rfl := Option.some.inj H
     go_wp2
     repeat (go_quiet (fail); try go_wp2)
     go_ret
     exact ⟨zr, by repeat (first | exact Drawn0.refl _ | apply Drawn0.step)⟩
    rw [if_pos c4] at H
    have c4b0 : decide (x5_1 < (l0.length : Int)) = true := decide_eq_true c4
    clear c4
    by_cases c5 : 0 ≤ x5_1
    rotate_left
    ·rw [if_neg c5] at H
     exact absurd H (by simp)
    rw [if_pos c5] at H
    have c5b0 : decide (0 ≤ x5_1) = true := decide_eq_true c5
    clear c5
    by_cases c6 : x5_1 < (l1.length : Int)
    rotate_left
    ·rw [if_neg c6] at H
     exact absurd H (by simp)
    rw [if_pos c6] at H
    have c6b0 : decide (x5_1 < (l1.length : Int)) = true := decide_eq_true c6
    clear c6
    by_cases c7 : (!(((rd_T74 l0 x5_1).f0) == ((rd_T74 l1 x5_1).f0)) || (!(((rd_T74 l0 x5_1).f1) == ((rd_T74 l1 x5_1).f1)) || (!(((rd_T74 l0 x5_1).f2) == ((rd_T74 l1 x5_1).f2)) || (!(((rd_T74 l0 x5_1).f3) == ((rd_T74 l1 x5_1).f3)) || (!(((rd_T74 l0 x5_1).f4) == ((rd_T74 l1 x5_1).f4))))))) = true
    ·rw [if_pos c7] at H
     have c7b0 : (!(((rd_T74 l0 x5_1).f0) == ((rd_T74 l1 x5_1).f0)) || (!(((rd_T74 l0 x5_1).f1) == ((rd_T74 l1 x5_1).f1)) || (!(((rd_T74 l0 x5_1).f2) == ((rd_T74 l1 x5_1).f2)) || (!(((rd_T74 l0 x5_1).f3) == ((rd_T74 l1 x5_1).f3)) || (!(((rd_T74 l0 x5_1).f4) == ((rd_T74 l1 x5_1).f4))))))) = true := c7
     clear c7
     obtain rfl := Option.some.inj H
     have p167 : 0 ≤ (x5_1 : Int) := zdec
     have q167 : x5_1 < (l0.length : Int) := zdec
     obtain ⟨ad167, e167, hx167_0, hx167_1, hx167_2, hx167_3, hx167_4⟩ := at_T74 HR0.out x5_1 p167 q167
     cases e167
     replace p167 := eq_true p167
     replace q167 := eq_true q167
     have p168 : 0 ≤ (x5_1 : Int) := zdec
     have q168 : x5_1 < (l1.length : Int) := zdec
     obtain ⟨ad168, e168, hx168_0, hx168_1, hx168_2, hx168_3, hx168_4⟩ := at_T74 HR1.out x5_1 p168 q168
     cases e168
     replace p168 := eq_true p168
     replace q168 := eq_true q168
     go_wp2
     repeat (go_quiet (fail); try go_wp2)
     go_ret
     exact ⟨zr, by repeat (first | exact Drawn0.refl _ | apply Drawn0.step)⟩
    rw [if_neg c7] at H
    have c7b0 : (!(((rd_T74 l0 x5_1).f0) == ((rd_T74 l1 x5_1).f0)) || (!(((rd_T74 l0 x5_1).f1) == ((rd_T74 l1 x5_1).f1)) || (!(((rd_T74 l0 x5_1).f2) == ((rd_T74 l1 x5_1).f2)) || (!(((rd_T74 l0 x5_1).f3) == ((rd_T74 l1 x5_1).f3)) || (!(((rd_T74 l0 x5_1).f4) == ((rd_T74 l1 x5_1).f4))))))) = false := by simpa using c7
    clear c7
    have H' := Aside0.mk H
    clear H
    have p167 : 0 ≤ (x5_1 : Int) := zdec
    have q167 : x5_1 < (l0.length : Int) := zdec
    obtain ⟨ad167, e167, hx167_0, hx167_1, hx167_2, hx167_3, hx167_4⟩ := at_T74 HR0.out x5_1 p167 q167
    cases e167
    replace p167 := eq_true p167
    replace q167 := eq_true q167
    have p168 : 0 ≤ (x5_1 : Int) := zdec
    have q168 : x5_1 < (l1.length : Int) := zdec
    obtain ⟨ad168, e168, hx168_0, hx168_1, hx168_2, hx168_3, hx168_4⟩ := at_T74 HR1.out x5_1 p168 q168
    cases e168
    replace p168 := eq_true p168
    replace q168 := eq_true q168
    go_wp2
    repeat (go_quiet (fail); try go_wp2)
    go_roundg k1
    case measure => have := HK1.out; omega
    case rel => exact ⟨(wrap64 (x5_1 + 1)), (zr), H', ⟨by have := HK1.out; omega⟩, by repeat (first | exact Drawn0.refl _ | apply Drawn0.step)⟩
 ·rw [if_neg c3] at H
  have c3b0 : ((l0.length : Int) == (l1.length : Int)) = false := beq_eq_false_iff_ne.mpr c3
  have c3b1 : ((l0.length : Int) != (l1.length : Int)) = true := bne_iff_ne.mpr c3
  have c3b2 : (l0.length == l1.length) = false := by first | simpa using c3 | (simp at c3 ⊢; omega)
  obtain rfl := Option.some.inj H
  go_enter Try.func105, Try.ntmps105
  go_wp2
  repeat (go_quiet (fail); try go_wp2)
  go_ret
  exact ⟨zr, by repeat (first | exact Drawn0.refl _ | apply Drawn0.step)⟩

/-! cellarref0_EqBlock -/
def cellarref0_EqBlock.f (k : Nat) (a0_0 : Int) (l0_1 : List (S74)) (a1_0 : Int) (l1_1 : List (S74)) : Option (Bool) := if a0_0 = a1_0 then ((cellarref0_EqBytes.f k l0_1 l1_1).bind fun t171 => (some t171)) else (some false)
theorem cellarref0_EqBlock.mono : ∀ a0 a1 a2 a3 k, LeO (cellarref0_EqBlock.f k a0 a1 a2 a3) (cellarref0_EqBlock.f (k + 1) a0 a1 a2 a3) := by
 intro a0 a1 a2 a3 k
 unfold cellarref0_EqBlock.f
 repeat' first
   | (with_reducible apply cellarref0_EqBytes.mono)
   | (with_reducible apply LeO.refl)
   | (with_reducible apply LeO.none)
   | (with_reducible refine LeO.ite ?_ ?_)
   | (with_reducible refine LeO.bind ?_ (fun _ => ?_))
set_option maxHeartbeats 8000000 in
set_option maxRecDepth 100000 in
theorem cellarref0_EqBlock.calls (k : Nat) (a0_0 : Int) (A0_1 : Option Addr) (c0_1 : Nat) (l0_1 : List (S74)) (a1_0 : Int) (A1_1 : Option Addr) (c1_1 : Nat) (l1_1 : List (S74)) (r : Bool) (w : World) (hr0_1 : Kd.C k74 w A0_1 l0_1.length l0_1) (hc0_1 : l0_1.length ≤ c0_1) (hr1_1 : Kd.C k74 w A1_1 l1_1.length l1_1) (hc1_1 : l1_1.length ≤ c1_1) (h : cellarref0_EqBlock.f k a0_0 l0_1 a1_0 l1_1 = some r) :
  Calls Try.prog 73 #[.agg #[.int .i64 a0_0, .slice A0_1 l0_1.length c0_1], .agg #[.int .i64 a1_0, .slice A1_1 l1_1.length c1_1]] w fun e w' => e = .returned (.bool r) ∧ Below w.heap.size w w' := by
 have hu76 := Try.underlying76
 have HR0_1 := Aside0.mk hr0_1
 have HC0_1 := Aside0.mk hc0_1
 clear hr0_1 hc0_1
 have HR1_1 := Aside0.mk hr1_1
 have HC1_1 := Aside0.mk hc1_1
 clear hr1_1 hc1_1
 have HB := Aside0.mk (Below.refl w.heap.size w)
 have H : (if a0_0 = a1_0 then ((cellarref0_EqBytes.f k l0_1 l1_1).bind fun t171 => (some t171)) else (some false)) = some r := h
 clear h
 by_cases c3 : a0_0 = a1_0
 ·rw [if_pos c3] at H
  have c3b0 : (a0_0 == a1_0) = true := beq_iff_eq.mpr c3
  have c3b1 : (a0_0 != a1_0) = false := bne_eq_false_iff_eq.mpr c3
  clear c3
  replace H := Option.bind_eq_some_iff.mp H
  obtain ⟨t171, A40, H⟩ := H
  replace H : (some t171) = some r := H
  have A4 := Aside0.mk A40
  clear A40
  obtain rfl := Option.some.inj H
  go_enter Try.func73, Try.ntmps73
  go_wp2_with (first | ((with_reducible refine gate_dst (N := 2) rfl ?_); refine zbox (N := 2) (cs := #[.int .i64 a0_0, .slice A0_1 l0_1.length c0_1]) (t := 76) ?_; intro gb169 hg w5 hbox hb; have n0_ := Aside0.mk (below_step (zw0 HB.out) hb); have BK169 := Aside0.mk (hbox); have GW169 := Aside0.mk (zg hg (below_size (zw0 HB.out))); have GE169 := GW169; clear HB; have HB := n0_; clear n0_; clear hb hbox hg) | ((with_reducible refine gate_dst (N := 3) rfl ?_); refine zbox (N := 3) (cs := #[.int .i64 a1_0, .slice A1_1 l1_1.length c1_1]) (t := 76) ?_; intro gb170 hg w6 hbox hb; have n0_ := Aside0.mk (zbb BK169.out hb); have n1_ := Aside0.mk (below_step (zw1 HB.out GE169.out) hb); have BK170 := Aside0.mk (hbox); have GW170 := Aside0.mk (zg hg (below_size (zw1 HB.out GE169.out))); have GE170 := GW170; have NB169_170 := Aside0.mk (zlt hg BK169.out); have NB170_169 := Aside0.mk (zgt hg BK169.out); clear BK169 HB; have BK169 := n0_; have HB := n1_; clear n0_ n1_; clear hb hbox hg; have hnb7 := NB169_170.out; have hnc7 := NB170_169.out; have hcz8_0 := zc BK169.out 0; have hcz8_1 := zc BK169.out 1; have hfz8_0 := blk_frozen BK169.out 0; have hfz8_1 := blk_frozen BK169.out 1; have hcz9_0 := zc BK170.out 0; have hcz9_1 := zc BK170.out 1; have hfz9_0 := blk_frozen BK170.out 0; have hfz9_1 := blk_frozen BK170.out 1) | (go_at_call 105; (with_reducible refine (cellarref0_EqBytes.calls k _ _ l0_1 _ _ l1_1 t171 _ ?side1 ?side2 ?side3 ?side4 A4.out).mono ?_); (case side1 => repeat (first | exact (Kd.C_below HR0_1.out HB.out) | (with_reducible refine Kd.C_alloc ?_ _) | (with_reducible refine Kd.C_drewN ?_ _) | (with_reducible refine Kd.C_drew ?_))); (case side2 => exact HC0_1.out); (case side3 => repeat (first | exact (Kd.C_below HR1_1.out HB.out) | (with_reducible refine Kd.C_alloc ?_ _) | (with_reducible refine Kd.C_drewN ?_ _) | (with_reducible refine Kd.C_drew ?_))); (case side4 => exact HC1_1.out); rintro e w' ⟨rfl, ⟨nd, rfl⟩⟩))
  go_ret
  exact ⟨ze, zw2 HB.out GE169.out GE170.out⟩
 ·rw [if_neg c3] at H
  have c3b0 : (a0_0 == a1_0) = false := beq_eq_false_iff_ne.mpr c3
  have c3b1 : (a0_0 != a1_0) = true := bne_iff_ne.mpr c3
  obtain rfl := Option.some.inj H
  go_enter Try.func73, Try.ntmps73
  go_wp2_with (first | ((with_reducible refine gate_dst (N := 2) rfl ?_); refine zbox (N := 2) (cs := #[.int .i64 a0_0, .slice A0_1 l0_1.length c0_1]) (t := 76) ?_; intro gb169 hg w10 hbox hb; have n0_ := Aside0.mk (below_step (zw0 HB.out) hb); have BK169 := Aside0.mk (hbox); have GW169 := Aside0.mk (zg hg (below_size (zw0 HB.out))); have GE169 := GW169; clear HB; have HB := n0_; clear n0_; clear hb hbox hg) | ((with_reducible refine gate_dst (N := 3) rfl ?_); refine zbox (N := 3) (cs := #[.int .i64 a1_0, .slice A1_1 l1_1.length c1_1]) (t := 76) ?_; intro gb170 hg w11 hbox hb; have n0_ := Aside0.mk (zbb BK169.out hb); have n1_ := Aside0.mk (below_step (zw1 HB.out GE169.out) hb); have BK170 := Aside0.mk (hbox); have GW170 := Aside0.mk (zg hg (below_size (zw1 HB.out GE169.out))); have GE170 := GW170; have NB169_170 := Aside0.mk (zlt hg BK169.out); have NB170_169 := Aside0.mk (zgt hg BK169.out); clear BK169 HB; have BK169 := n0_; have HB := n1_; clear n0_ n1_; clear hb hbox hg; have hnb12 := NB169_170.out; have hnc12 := NB170_169.out; have hcz13_0 := zc BK169.out 0; have hcz13_1 := zc BK169.out 1; have hfz13_0 := blk_frozen BK169.out 0; have hfz13_1 := blk_frozen BK169.out 1; have hcz14_0 := zc BK170.out 0; have hcz14_1 := zc BK170.out 1; have hfz14_0 := blk_frozen BK170.out 0; have hfz14_1 := blk_frozen BK170.out 1))
  go_ret
  exact ⟨ze, zw2 HB.out GE169.out GE170.out⟩

/-! cellarref0_EqBlocks -/
def cellarref0_EqBlocks.l0 : Nat → List (S76) → List (S76) → Int → Option (Bool)
 | 0, _, _, _ => none
 | k + 1, x0, x1, x5 => if x5 < (x0.length : Int) then (if 0 ≤ x5 then (if x5 < (x1.length : Int) then ((cellarref0_EqBlock.f k ((rd_T76 x0 x5).f0) ((rd_T76 x0 x5).f1) ((rd_T76 x1 x5).f0) ((rd_T76 x1 x5).f1)).bind fun t174 => (if t174 = true then (cellarref0_EqBlocks.l0 k x0 x1 (wrap64 (x5 + 1))) else (some false))) else (none)) else (none)) else (some true)
def cellarref0_EqBlocks.f (k : Nat) (l0 : List (S76)) (l1 : List (S76)) : Option (Bool) := if (l0.length : Int) = (l1.length : Int) then (cellarref0_EqBlocks.l0 k l0 l1 0) else (some false)
theorem cellarref0_EqBlocks.mono_l : ∀ k, (∀ y0 y1 y2, LeO (cellarref0_EqBlocks.l0 k y0 y1 y2) (cellarref0_EqBlocks.l0 (k + 1) y0 y1 y2))
 | 0 => fun _ _ _ r h => by simp [cellarref0_EqBlocks.l0] at h
 | k + 1 => by
  have ih0 := cellarref0_EqBlocks.mono_l k
  ·intro y0 y1 y2
   unfold cellarref0_EqBlocks.l0
   repeat' first
   | (with_reducible apply ih0)
   | (with_reducible apply cellarref0_EqBlock.mono)
   | (with_reducible apply LeO.refl)
   | (with_reducible apply LeO.none)
   | (with_reducible refine LeO.ite ?_ ?_)
   | (with_reducible refine LeO.bind ?_ (fun _ => ?_))
theorem cellarref0_EqBlocks.mono : ∀ a0 a1 k, LeO (cellarref0_EqBlocks.f k a0 a1) (cellarref0_EqBlocks.f (k + 1) a0 a1) := by
 intro a0 a1 k
 have ih0 := cellarref0_EqBlocks.mono_l k
 unfold cellarref0_EqBlocks.f
 repeat' first
   | (with_reducible apply ih0)
   | (with_reducible apply cellarref0_EqBlock.mono)
   | (with_reducible apply LeO.refl)
   | (with_reducible apply LeO.none)
   | (with_reducible refine LeO.ite ?_ ?_)
   | (with_reducible refine LeO.bind ?_ (fun _ => ?_))
def cellarref0_EqBlocks.T6 : Bool × List (List Nat × List Nat) := (true, [([], []), ([], []), ([0, 1], [0, 1]), ([2], [2]), ([], []), ([], []), ([4, 5], [4, 5]), ([6], [6]), ([3, 7], [3, 7]), ([8], [8])])
def cellarref0_EqBlocks.B6 : List Nat := [0, 0, 3, 7, 0, 0, 48, 112, 255, 511]
theorem cellarref0_EqBlocks.tab6 : rtab .any (opsOf Try.f36 6) = cellarref0_EqBlocks.T6 := by kernel_rfl
theorem cellarref0_EqBlocks.bits6 : waitsOk cellarref0_EqBlocks.T6.2 cellarref0_EqBlocks.B6 = true := by kernel_rfl
set_option maxHeartbeats 8000000 in
set_option maxRecDepth 100000 in
theorem cellarref0_EqBlocks.calls (k : Nat) (A0 : Option Addr) (c0 : Nat) (l0 : List (S76)) (A1 : Option Addr) (c1 : Nat) (l1 : List (S76)) (r : Bool) (w : World) (hr0 : Kd.C k76 w A0 l0.length l0) (hc0 : l0.length ≤ c0) (hr1 : Kd.C k76 w A1 l1.length l1) (hc1 : l1.length ≤ c1) (h : cellarref0_EqBlocks.f k l0 l1 = some r) :
  Calls Try.prog 36 #[.slice A0 l0.length c0, .slice A1 l1.length c1] w fun e w' => e = .returned (.bool r) ∧ Below w.heap.size w w' := by
 have hu76 := Try.underlying76
 have HR0 := Aside0.mk hr0
 have HC0 := Aside0.mk hc0
 clear hr0 hc0
 have HR1 := Aside0.mk hr1
 have HC1 := Aside0.mk hc1
 clear hr1 hc1
 have HB := Aside0.mk (Below.refl w.heap.size w)
 have H : (if (l0.length : Int) = (l1.length : Int) then (cellarref0_EqBlocks.l0 k l0 l1 0) else (some false)) = some r := h
 clear h
 by_cases c3 : (l0.length : Int) = (l1.length : Int)
 ·rw [if_pos c3] at H
  have c3b0 : ((l0.length : Int) == (l1.length : Int)) = true := beq_iff_eq.mpr c3
  have c3b1 : ((l0.length : Int) != (l1.length : Int)) = false := bne_eq_false_iff_eq.mpr c3
  have c3b2 : (l0.length == l1.length) = true := by first | simpa using c3 | (simp at c3 ⊢; omega)
  clear c3
  have H' := Aside0.mk H
  clear H
  go_enter Try.func36, Try.ntmps36
  go_wp2
  go_loopg [5] k (fun kq v5 w' => ∃ (x5_1 : Int), v5 = .int .i64 x5_1 ∧ Aside0 (cellarref0_EqBlocks.l0 kq l0 l1 x5_1 = some r) ∧ Aside0 (kq ≤ k) ∧ Aside0 (Below w.heap.size w w'))
  case atStart => exact ⟨(0), (zr), H', ⟨Nat.le_refl _⟩, ⟨zw0 HB.out⟩⟩
  case round =>
   clear H'
   try clear c1; try clear p2; try clear c3; try clear c3b0; try clear c3b1; try clear c3b2
   obtain ⟨x5_1, rfl, HA, HK1, HB⟩ := hrel
   cases gk with
   | zero => exact absurd HA.out (by simp [cellarref0_EqBlocks.l0])
   | succ k1 =>
    have H := HA.out
    clear HA
    simp only [cellarref0_EqBlocks.l0] at H
    by_cases c4 : x5_1 < (l0.length : Int)
    rotate_left
    ·rw [if_neg c4] at H
     have c4b0 : decide (x5_1 < (l0.length : Int)) = false := decide_eq_false c4
     clear c4
     obtain rfl := Option.some.inj H
     go_wp2
     go_ret
     exact ⟨ze, zw0 HB.out⟩
    rw [if_pos c4] at H
    have c4b0 : decide (x5_1 < (l0.length : Int)) = true := decide_eq_true c4
    clear c4
    by_cases c5 : 0 ≤ x5_1
    rotate_left
    ·rw [if_neg c5] at H
     exact absurd H (by simp)
    rw [if_pos c5] at H
    have c5b0 : decide (0 ≤ x5_1) = true := decide_eq_true c5
    clear c5
    by_cases c6 : x5_1 < (l1.length : Int)
    rotate_left
    ·rw [if_neg c6] at H
     exact absurd H (by simp)
    rw [if_pos c6] at H
    have c6b0 : decide (x5_1 < (l1.length : Int)) = true := decide_eq_true c6
    clear c6
    replace H := Option.bind_eq_some_iff.mp H
    obtain ⟨t174, A70, H⟩ := H
    replace H : (if t174 = true then (cellarref0_EqBlocks.l0 k1 l0 l1 (wrap64 (x5_1 + 1))) else (some false)) = some r := H
    have A7 := Aside0.mk A70
    clear A70
    by_cases c8 : t174 = true
    rotate_left
    ·replace c8 := Bool.eq_false_iff.mpr c8
     subst c8
     have H1 : (some false) = some r := by rw [if_neg (show ¬ (false = true) by decide)] at H; exact H
     clear H
     have H := H1
     clear H1
     obtain rfl := Option.some.inj H
     try go_wp2
     have n0_ := Aside0.mk (below_drew1 HB.out)
     clear HB
     have HB := n0_
     clear n0_
     have p172 : 0 ≤ (x5_1 : Int) := zdec
     have q172 : x5_1 < (l0.length : Int) := zdec
     obtain ⟨ad172, A172_1, c172_1, e172, hx172_0, hx172_1, hl172_1, hi172_1⟩ := at_T76 HR0.out x5_1 p172 q172
     have hw172_1 := hx172_1
     have hw172_0 := hx172_0
     cases e172
     replace hx172_0 := zh HB.out hx172_0
     replace hx172_1 := zh HB.out hx172_1
     have HR172_1 := Aside0.mk hi172_1
     have HC172_1 := Aside0.mk hl172_1
     clear hi172_1 hl172_1
     replace p172 := eq_true p172
     replace q172 := eq_true q172
     have p173 : 0 ≤ (x5_1 : Int) := zdec
     have q173 : x5_1 < (l1.length : Int) := zdec
     obtain ⟨ad173, A173_1, c173_1, e173, hx173_0, hx173_1, hl173_1, hi173_1⟩ := at_T76 HR1.out x5_1 p173 q173
     have hw173_1 := hx173_1
     have hw173_0 := hx173_0
     cases e173
     replace hx173_0 := zh HB.out hx173_0
     replace hx173_1 := zh HB.out hx173_1
     have HR173_1 := Aside0.mk hi173_1
     have HC173_1 := Aside0.mk hl173_1
     clear hi173_1 hl173_1
     replace p173 := eq_true p173
     replace q173 := eq_true q173
     refine start_ (n := 10) (S := fun w' => w'.cell? (ad172.add ((x5_1).toNat * 2)) = some (.int .i64 ((rd_T76 l0 x5_1).f0)) ∧ w'.cell? ⟨(ad172.add ((x5_1).toNat * 2)).block, (ad172.add ((x5_1).toNat * 2)).off + 1, none⟩ = some (.slice A172_1 ((rd_T76 l0 x5_1).f1).length c172_1) ∧ w'.cell? (ad173.add ((x5_1).toNat * 2)) = some (.int .i64 ((rd_T76 l1 x5_1).f0)) ∧ w'.cell? ⟨(ad173.add ((x5_1).toNat * 2)).block, (ad173.add ((x5_1).toNat * 2)).off + 1, none⟩ = some (.slice A173_1 ((rd_T76 l1 x5_1).f1).length c173_1)) (ds := []) #[false,false,false,false,false,false,false,false,false,false] (by kernel_rfl) rfl rfl ⟨((HB.out.cell (World.block_lt_of_cell? w _ hw172_0)).trans hw172_0), ((HB.out.cell (World.block_lt_of_cell? w _ hw172_1)).trans hw172_1), ((HB.out.cell (World.block_lt_of_cell? w _ hw173_0)).trans hw173_0), ((HB.out.cell (World.block_lt_of_cell? w _ hw173_1)).trans hw173_1)⟩ (fun hHeld => ?_); refine with_tabW cellarref0_EqBlocks.tab6 cellarref0_EqBlocks.bits6 (fun HT_ HW_ => ?_)
     generalize wr.drew = w11 at HB HR172_1 HR173_1 hx172_0 hx172_1 hx173_0 hx173_1 hHeld ⊢
     refine zp (i := 0) (N := some 17) #[true,false,false,false,false,false,false,false,false,false] (any_of HT_.out (by kernel_rfl)) ?_
     refine zp (i := 1) (N := some 18) #[true,true,false,false,false,false,false,false,false,false] (any_of HT_.out (by kernel_rfl)) ?_
     refine zp (i := 2) (N := some 19) #[true,true,true,false,false,false,false,false,false,false] (any_of HT_.out (by kernel_rfl)) ?_
     refine zp (i := 4) (N := some 21) #[true,true,true,false,true,false,false,false,false,false] (any_of HT_.out (by kernel_rfl)) ?_
     refine zp (i := 5) (N := some 22) #[true,true,true,false,true,true,false,false,false,false] (any_of HT_.out (by kernel_rfl)) ?_
     refine zp (i := 6) (N := some 23) #[true,true,true,false,true,true,true,false,false,false] (any_of HT_.out (by kernel_rfl)) ?_
     refine take_ (i := 3) (N := some 20) (v := ?_) (a' := ?_) #[true,true,true,true,true,true,true,false,false,false] rfl rfl (take_ofW HT_.out HW_.out (by kernel_rfl)) (fun _ _ _ h => h) (Or.inl ⟨by rfl, ?_⟩) hHeld ?_ ?_
     rotate_left
     ·rintro w' ⟨s0, s1, s2, s3⟩
      go_simp
      with_reducible rfl
     rotate_left
     ·simp only [Act.put, List.setIfInBounds_toArray, List.set_cons_zero, List.set_cons_succ, i64_w, i32_w]
      rfl
     refine take_ (i := 7) (N := some 24) (v := ?_) (a' := ?_) #[true,true,true,true,true,true,true,true,false,false] rfl rfl (take_ofW HT_.out HW_.out (by kernel_rfl)) (fun _ _ _ h => h) (Or.inl ⟨by rfl, ?_⟩) hHeld ?_ ?_
     rotate_left
     ·rintro w' ⟨s0, s1, s2, s3⟩
      go_simp
      with_reducible rfl
     rotate_left
     ·simp only [Act.put, List.setIfInBounds_toArray, List.set_cons_zero, List.set_cons_succ, i64_w, i32_w]
      rfl
     refine one_ (i := 8) (N := some 25) #[true,true,true,true,true,true,true,true,true,false] rfl rfl (one_of HT_.out (by kernel_rfl)) (by decide) (fun K hK => ?_)
     refine goes_ Try.func73 (by kernel_rfl) rfl #[.agg #[.int .i64 ((rd_T76 l0 x5_1).f0), .slice A172_1 ((rd_T76 l0 x5_1).f1).length c172_1], .agg #[.int .i64 ((rd_T76 l1 x5_1).f0), .slice A173_1 ((rd_T76 l1 x5_1).f1).length c173_1]] (by rfl) rfl rfl (by (try simp only [List.map_toArray, List.map_cons, List.map_nil]); first | done | rfl | (simp only [List.length_drop, List.length_take]; rfl)) ?_
     with_reducible refine (cellarref0_EqBlock.calls k1 ((rd_T76 l0 x5_1).f0) _ _ ((rd_T76 l0 x5_1).f1) ((rd_T76 l1 x5_1).f0) _ _ ((rd_T76 l1 x5_1).f1) false _ ?side1 ?side2 ?side3 ?side4 A7.out).mono ?_
     (case side1 => repeat (first | exact (Kd.C_below HR172_1.out HB.out) | (with_reducible refine Kd.C_alloc ?_ _) | (with_reducible refine Kd.C_drewN ?_ _) | (with_reducible refine Kd.C_drew ?_)))
     (case side2 => exact HC172_1.out)
     (case side3 => repeat (first | exact (Kd.C_below HR173_1.out HB.out) | (with_reducible refine Kd.C_alloc ?_ _) | (with_reducible refine Kd.C_drewN ?_ _) | (with_reducible refine Kd.C_drew ?_)))
     (case side4 => exact HC173_1.out)
     rintro e w12 ⟨rfl, hb⟩
     refine ⟨_, rfl, ?_⟩
     have n0_ := Aside0.mk (below_step (zw0 HB.out) hb)
     clear HB
     have HB := n0_
     clear n0_
     (try clear hb)
     (try clear hb2)
     (try clear hk)
     (try clear hi)
     refine hK.out _ _ ⟨((HB.out.cell (World.block_lt_of_cell? w _ hw172_0)).trans hw172_0), ((HB.out.cell (World.block_lt_of_cell? w _ hw172_1)).trans hw172_1), ((HB.out.cell (World.block_lt_of_cell? w _ hw173_0)).trans hw173_0), ((HB.out.cell (World.block_lt_of_cell? w _ hw173_1)).trans hw173_1)⟩ (fun hHeld => ?_)
     clear hK K
     refine norm_ (a' := ?_) ?_ ?_
     rotate_left
     ·show Act.put _ (some 25) _ = _
      simp only [Act.put, List.setIfInBounds_toArray, List.set_cons_zero, List.set_cons_succ, i64_w, i32_w]
      rfl
     refine zp (i := 9) (N := some 26) #[true,true,true,true,true,true,true,true,true,true] (any_of HT_.out (by kernel_rfl)) ?_
     refine done_ (done_of HT_.out (by kernel_rfl)) ?_
     try go_wp2
     go_ret
     exact ⟨ze, zw0 HB.out⟩
    subst c8
    have H1 : (cellarref0_EqBlocks.l0 k1 l0 l1 (wrap64 (x5_1 + 1))) = some r := by rw [if_pos rfl] at H; exact H
    clear H
    have H := H1
    clear H1
    have H' := Aside0.mk H
    clear H
    try go_wp2
    have n0_ := Aside0.mk (below_drew1 HB.out)
    clear HB
    have HB := n0_
    clear n0_
    have p172 : 0 ≤ (x5_1 : Int) := zdec
    have q172 : x5_1 < (l0.length : Int) := zdec
    obtain ⟨ad172, A172_1, c172_1, e172, hx172_0, hx172_1, hl172_1, hi172_1⟩ := at_T76 HR0.out x5_1 p172 q172
    have hw172_1 := hx172_1
    have hw172_0 := hx172_0
    cases e172
    replace hx172_0 := zh HB.out hx172_0
    replace hx172_1 := zh HB.out hx172_1
    have HR172_1 := Aside0.mk hi172_1
    have HC172_1 := Aside0.mk hl172_1
    clear hi172_1 hl172_1
    replace p172 := eq_true p172
    replace q172 := eq_true q172
    have p173 : 0 ≤ (x5_1 : Int) := zdec
    have q173 : x5_1 < (l1.length : Int) := zdec
    obtain ⟨ad173, A173_1, c173_1, e173, hx173_0, hx173_1, hl173_1, hi173_1⟩ := at_T76 HR1.out x5_1 p173 q173
    have hw173_1 := hx173_1
    have hw173_0 := hx173_0
    cases e173
    replace hx173_0 := zh HB.out hx173_0
    replace hx173_1 := zh HB.out hx173_1
    have HR173_1 := Aside0.mk hi173_1
    have HC173_1 := Aside0.mk hl173_1
    clear hi173_1 hl173_1
    replace p173 := eq_true p173
    replace q173 := eq_true q173
    refine start_ (n := 10) (S := fun w' => w'.cell? (ad172.add ((x5_1).toNat * 2)) = some (.int .i64 ((rd_T76 l0 x5_1).f0)) ∧ w'.cell? ⟨(ad172.add ((x5_1).toNat * 2)).block, (ad172.add ((x5_1).toNat * 2)).off + 1, none⟩ = some (.slice A172_1 ((rd_T76 l0 x5_1).f1).length c172_1) ∧ w'.cell? (ad173.add ((x5_1).toNat * 2)) = some (.int .i64 ((rd_T76 l1 x5_1).f0)) ∧ w'.cell? ⟨(ad173.add ((x5_1).toNat * 2)).block, (ad173.add ((x5_1).toNat * 2)).off + 1, none⟩ = some (.slice A173_1 ((rd_T76 l1 x5_1).f1).length c173_1)) (ds := []) #[false,false,false,false,false,false,false,false,false,false] (by kernel_rfl) rfl rfl ⟨((HB.out.cell (World.block_lt_of_cell? w _ hw172_0)).trans hw172_0), ((HB.out.cell (World.block_lt_of_cell? w _ hw172_1)).trans hw172_1), ((HB.out.cell (World.block_lt_of_cell? w _ hw173_0)).trans hw173_0), ((HB.out.cell (World.block_lt_of_cell? w _ hw173_1)).trans hw173_1)⟩ (fun hHeld => ?_); refine with_tabW cellarref0_EqBlocks.tab6 cellarref0_EqBlocks.bits6 (fun HT_ HW_ => ?_)
    generalize wr.drew = w9 at HB HR172_1 HR173_1 hx172_0 hx172_1 hx173_0 hx173_1 hHeld ⊢
    refine zp (i := 0) (N := some 17) #[true,false,false,false,false,false,false,false,false,false] (any_of HT_.out (by kernel_rfl)) ?_
    refine zp (i := 1) (N := some 18) #[true,true,false,false,false,false,false,false,false,false] (any_of HT_.out (by kernel_rfl)) ?_
    refine zp (i := 2) (N := some 19) #[true,true,true,false,false,false,false,false,false,false] (any_of HT_.out (by kernel_rfl)) ?_
    refine zp (i := 4) (N := some 21) #[true,true,true,false,true,false,false,false,false,false] (any_of HT_.out (by kernel_rfl)) ?_
    refine zp (i := 5) (N := some 22) #[true,true,true,false,true,true,false,false,false,false] (any_of HT_.out (by kernel_rfl)) ?_
    refine zp (i := 6) (N := some 23) #[true,true,true,false,true,true,true,false,false,false] (any_of HT_.out (by kernel_rfl)) ?_
    refine take_ (i := 3) (N := some 20) (v := ?_) (a' := ?_) #[true,true,true,true,true,true,true,false,false,false] rfl rfl (take_ofW HT_.out HW_.out (by kernel_rfl)) (fun _ _ _ h => h) (Or.inl ⟨by rfl, ?_⟩) hHeld ?_ ?_
    rotate_left
    ·rintro w' ⟨s0, s1, s2, s3⟩
     go_simp
     with_reducible rfl
    rotate_left
    ·simp only [Act.put, List.setIfInBounds_toArray, List.set_cons_zero, List.set_cons_succ, i64_w, i32_w]
     rfl
    refine take_ (i := 7) (N := some 24) (v := ?_) (a' := ?_) #[true,true,true,true,true,true,true,true,false,false] rfl rfl (take_ofW HT_.out HW_.out (by kernel_rfl)) (fun _ _ _ h => h) (Or.inl ⟨by rfl, ?_⟩) hHeld ?_ ?_
    rotate_left
    ·rintro w' ⟨s0, s1, s2, s3⟩
     go_simp
     with_reducible rfl
    rotate_left
    ·simp only [Act.put, List.setIfInBounds_toArray, List.set_cons_zero, List.set_cons_succ, i64_w, i32_w]
     rfl
    refine one_ (i := 8) (N := some 25) #[true,true,true,true,true,true,true,true,true,false] rfl rfl (one_of HT_.out (by kernel_rfl)) (by decide) (fun K hK => ?_)
    refine goes_ Try.func73 (by kernel_rfl) rfl #[.agg #[.int .i64 ((rd_T76 l0 x5_1).f0), .slice A172_1 ((rd_T76 l0 x5_1).f1).length c172_1], .agg #[.int .i64 ((rd_T76 l1 x5_1).f0), .slice A173_1 ((rd_T76 l1 x5_1).f1).length c173_1]] (by rfl) rfl rfl (by (try simp only [List.map_toArray, List.map_cons, List.map_nil]); first | done | rfl | (simp only [List.length_drop, List.length_take]; rfl)) ?_
    with_reducible refine (cellarref0_EqBlock.calls k1 ((rd_T76 l0 x5_1).f0) _ _ ((rd_T76 l0 x5_1).f1) ((rd_T76 l1 x5_1).f0) _ _ ((rd_T76 l1 x5_1).f1) true _ ?side1 ?side2 ?side3 ?side4 A7.out).mono ?_
    (case side1 => repeat (first | exact (Kd.C_below HR172_1.out HB.out) | (with_reducible refine Kd.C_alloc ?_ _) | (with_reducible refine Kd.C_drewN ?_ _) | (with_reducible refine Kd.C_drew ?_)))
    (case side2 => exact HC172_1.out)
    (case side3 => repeat (first | exact (Kd.C_below HR173_1.out HB.out) | (with_reducible refine Kd.C_alloc ?_ _) | (with_reducible refine Kd.C_drewN ?_ _) | (with_reducible refine Kd.C_drew ?_)))
    (case side4 => exact HC173_1.out)
    rintro e w10 ⟨rfl, hb⟩
    refine ⟨_, rfl, ?_⟩
    have n0_ := Aside0.mk (below_step (zw0 HB.out) hb)
    clear HB
    have HB := n0_
    clear n0_
    (try clear hb)
    (try clear hb2)
    (try clear hk)
    (try clear hi)
    refine hK.out _ _ ⟨((HB.out.cell (World.block_lt_of_cell? w _ hw172_0)).trans hw172_0), ((HB.out.cell (World.block_lt_of_cell? w _ hw172_1)).trans hw172_1), ((HB.out.cell (World.block_lt_of_cell? w _ hw173_0)).trans hw173_0), ((HB.out.cell (World.block_lt_of_cell? w _ hw173_1)).trans hw173_1)⟩ (fun hHeld => ?_)
    clear hK K
    refine norm_ (a' := ?_) ?_ ?_
    rotate_left
    ·show Act.put _ (some 25) _ = _
     simp only [Act.put, List.setIfInBounds_toArray, List.set_cons_zero, List.set_cons_succ, i64_w, i32_w]
     rfl
    refine zp (i := 9) (N := some 26) #[true,true,true,true,true,true,true,true,true,true] (any_of HT_.out (by kernel_rfl)) ?_
    refine done_ (done_of HT_.out (by kernel_rfl)) ?_
    try go_wp2
    go_roundg k1
    case measure => have := HK1.out; omega
    case rel => exact ⟨(wrap64 (x5_1 + 1)), (zr), H', ⟨by have := HK1.out; omega⟩, ⟨zw0 HB.out⟩⟩
 ·rw [if_neg c3] at H
  have c3b0 : ((l0.length : Int) == (l1.length : Int)) = false := beq_eq_false_iff_ne.mpr c3
  have c3b1 : ((l0.length : Int) != (l1.length : Int)) = true := bne_iff_ne.mpr c3
  have c3b2 : (l0.length == l1.length) = false := by first | simpa using c3 | (simp at c3 ⊢; omega)
  obtain rfl := Option.some.inj H
  go_enter Try.func36, Try.ntmps36
  go_wp2
  go_ret
  exact ⟨ze, zw0 HB.out⟩

end Go.Proofs.Ytjoplkillkhiaaa.M
