-- Written by this session's own edition of the print.
import Derived.Test.YtjoplkillkhiaaaStx0
import Derived.Test.YtjoplkillkhiaaaStx7
import Derived.Test.YtjoplkillkhiaaaZSq
import Derived.Test.YtjoplkillkhiaaaZSq2
namespace Go.Proofs.Ytjoplkillkhiaaa.St
open Go.RowKit Go.Proofs.Ytjoplkillkhiaaa.Fn Go.Proofs.YtjoplkillkhiaaaW.PrintWords Go.Proofs.YtjoplkillkhiaaaW.PrintLast Go.Proofs.YtjoplkillkhiaaaW.PrintMore
attribute [local go_sem] max2_int min2_int max_two min_two max_three min_three max_four min_four   -- for this text's walks alone
set_option linter.unusedVariables false
set_option linter.unusedSimpArgs false

/-! cellarref7_Pointer -/
def cellarref7_Pointer.f (k : Nat) (l0 : List (S76)) (a1_0 : Bool) (a1_1 : Int) (a1_2 : Int) (a1_3 : Int) : Option (Bool) := (cellarref7_Scalar.f k 7 a1_0 a1_1 a1_2 a1_3).bind fun t225 => (if t225 = true then (some (decide (a1_2 < (l0.length : Int)))) else (some false))
theorem cellarref7_Pointer.mono : ∀ a0 a1 a2 a3 a4 k, LeO (cellarref7_Pointer.f k a0 a1 a2 a3 a4) (cellarref7_Pointer.f (k + 1) a0 a1 a2 a3 a4) := by
 intro a0 a1 a2 a3 a4 k
 unfold cellarref7_Pointer.f
 repeat' first
   | (with_reducible apply cellarref7_Scalar.mono)
   | (with_reducible apply LeO.refl)
   | (with_reducible apply LeO.none)
   | (with_reducible refine LeO.ite ?_ ?_)
   | (with_reducible refine LeO.bind ?_ (fun _ => ?_))
set_option maxHeartbeats 8000000 in
set_option maxRecDepth 100000 in
theorem cellarref7_Pointer.calls (k : Nat) (A0 : Option Addr) (c0 : Nat) (l0 : List (S76)) (a1_0 : Bool) (a1_1 : Int) (a1_2 : Int) (a1_3 : Int) (r : Bool) (w : World) (hr0 : Kd.C k76 w A0 l0.length l0) (hc0 : l0.length ≤ c0) (h : cellarref7_Pointer.f k l0 a1_0 a1_1 a1_2 a1_3 = some r) :
  Calls Try.prog 33 #[.slice A0 l0.length c0, .agg #[.bool a1_0, .int .i64 a1_1, .int .i64 a1_2, .int .i64 a1_3]] w fun e w' => e = .returned (.bool r) ∧ Below w.heap.size w w' := by
 have hu62 := Try.underlying62
 have HR0 := Aside0.mk hr0
 have HC0 := Aside0.mk hc0
 clear hr0 hc0
 have HB := Aside0.mk (Below.refl w.heap.size w)
 have H : ((cellarref7_Scalar.f k 7 a1_0 a1_1 a1_2 a1_3).bind fun t225 => (if t225 = true then (some (decide (a1_2 < (l0.length : Int)))) else (some false))) = some r := h
 clear h
 replace H := Option.bind_eq_some_iff.mp H
 obtain ⟨t225, A30, H⟩ := H
 replace H : (if t225 = true then (some (decide (a1_2 < (l0.length : Int)))) else (some false)) = some r := H
 have A3 := Aside0.mk A30
 clear A30
 by_cases c4 : t225 = true
 ·subst c4
  have H1 : (some (decide (a1_2 < (l0.length : Int)))) = some r := by rw [if_pos rfl] at H; exact H
  clear H
  have H := H1
  clear H1
  obtain rfl := Option.some.inj H
  go_enter Try.func33, Try.ntmps33
  go_wp2_with (first | ((with_reducible refine gate_dst (N := 3) rfl ?_); (try (refine gate_guard (by rfl) ?_; dsimp only)); refine zbox (N := 3) (cs := #[.bool a1_0, .int .i64 a1_1, .int .i64 a1_2, .int .i64 a1_3]) (t := 62) ?_; intro gb224 hg w5 hbox hb; have n0_ := Aside0.mk (below_step (zw0 HB.out) hb); have BK224 := Aside0.mk (hbox); have GW224 := Aside0.mk (zg hg (below_size (zw0 HB.out))); have GE224 := GW224; clear HB; have HB := n0_; clear n0_; clear hb hbox hg; have hcz6_0 := zc BK224.out 0; have hcz6_1 := zc BK224.out 1; have hcz6_2 := zc BK224.out 2; have hcz6_3 := zc BK224.out 3; have hfz6_0 := blk_frozen BK224.out 0; have hfz6_1 := blk_frozen BK224.out 1; have hfz6_2 := blk_frozen BK224.out 2; have hfz6_3 := blk_frozen BK224.out 3) | ((with_reducible refine gate_callee (f := 32) rfl ?_); refine zgo (some 6) Try.func32 #[.int .i64 7, .agg #[.bool a1_0, .int .i64 a1_1, .int .i64 a1_2, .int .i64 a1_3]] ?_; (with_reducible refine (cellarref7_Scalar.calls k 7 a1_0 a1_1 a1_2 a1_3 true _ A3.out).mono ?_); rintro e w7 ⟨rfl, hb⟩; refine ⟨_, rfl, ?_⟩; have n0_ := Aside0.mk (zbb BK224.out hb); have n1_ := Aside0.mk (below_step (zw1 HB.out GE224.out) hb); clear BK224 HB; have BK224 := n0_; have HB := n1_; clear n0_ n1_; (try clear hb); (try clear hb2); (try clear hk); (try clear hi); have hcz8_0 := zc BK224.out 0; have hcz8_1 := zc BK224.out 1; have hcz8_2 := zc BK224.out 2; have hcz8_3 := zc BK224.out 3; have hfz8_0 := blk_frozen BK224.out 0; have hfz8_1 := blk_frozen BK224.out 1; have hfz8_2 := blk_frozen BK224.out 2; have hfz8_3 := blk_frozen BK224.out 3))
  go_ret
  exact ⟨ze, zw1 HB.out GE224.out⟩
 ·replace c4 := Bool.eq_false_iff.mpr c4
  subst c4
  have H1 : (some false) = some r := by rw [if_neg (show ¬ (false = true) by decide)] at H; exact H
  clear H
  have H := H1
  clear H1
  obtain rfl := Option.some.inj H
  go_enter Try.func33, Try.ntmps33
  go_wp2_with (first | ((with_reducible refine gate_dst (N := 3) rfl ?_); (try (refine gate_guard (by rfl) ?_; dsimp only)); refine zbox (N := 3) (cs := #[.bool a1_0, .int .i64 a1_1, .int .i64 a1_2, .int .i64 a1_3]) (t := 62) ?_; intro gb224 hg w9 hbox hb; have n0_ := Aside0.mk (below_step (zw0 HB.out) hb); have BK224 := Aside0.mk (hbox); have GW224 := Aside0.mk (zg hg (below_size (zw0 HB.out))); have GE224 := GW224; clear HB; have HB := n0_; clear n0_; clear hb hbox hg; have hcz10_0 := zc BK224.out 0; have hcz10_1 := zc BK224.out 1; have hcz10_2 := zc BK224.out 2; have hcz10_3 := zc BK224.out 3; have hfz10_0 := blk_frozen BK224.out 0; have hfz10_1 := blk_frozen BK224.out 1; have hfz10_2 := blk_frozen BK224.out 2; have hfz10_3 := blk_frozen BK224.out 3) | ((with_reducible refine gate_callee (f := 32) rfl ?_); refine zgo (some 6) Try.func32 #[.int .i64 7, .agg #[.bool a1_0, .int .i64 a1_1, .int .i64 a1_2, .int .i64 a1_3]] ?_; (with_reducible refine (cellarref7_Scalar.calls k 7 a1_0 a1_1 a1_2 a1_3 false _ A3.out).mono ?_); rintro e w11 ⟨rfl, hb⟩; refine ⟨_, rfl, ?_⟩; have n0_ := Aside0.mk (zbb BK224.out hb); have n1_ := Aside0.mk (below_step (zw1 HB.out GE224.out) hb); clear BK224 HB; have BK224 := n0_; have HB := n1_; clear n0_ n1_; (try clear hb); (try clear hb2); (try clear hk); (try clear hi)))
  go_ret
  exact ⟨ze, zw1 HB.out GE224.out⟩

/-! cellarref1_Size -/
def cellarref1_Size.f (k : Nat) (a0_0 : Bool) (a0_1 : Int) (a1 : Int) : Option (Int) := if a1 = 7 then (some a0_1) else ((cellarref1_Width.f k a1).bind fun t227 => (some (wrap64 (Int.tdiv t227 8))))
theorem cellarref1_Size.mono : ∀ a0 a1 a2 k, LeO (cellarref1_Size.f k a0 a1 a2) (cellarref1_Size.f (k + 1) a0 a1 a2) := by
 intro a0 a1 a2 k
 unfold cellarref1_Size.f
 repeat' first
   | (with_reducible apply cellarref1_Width.mono)
   | (with_reducible apply LeO.refl)
   | (with_reducible apply LeO.none)
   | (with_reducible refine LeO.ite ?_ ?_)
   | (with_reducible refine LeO.bind ?_ (fun _ => ?_))
set_option maxHeartbeats 8000000 in
set_option maxRecDepth 100000 in
theorem cellarref1_Size.calls (k : Nat) (a0_0 : Bool) (a0_1 : Int) (a1 : Int) (r : Int) (w : World) (h : cellarref1_Size.f k a0_0 a0_1 a1 = some r) :
  Calls Try.prog 43 #[.agg #[.bool a0_0, .int .i64 a0_1], .int .i64 a1] w fun e w' => e = .returned (.int .i64 r) ∧ Below w.heap.size w w' := by
 have hu29 := Try.underlying29
 have HB := Aside0.mk (Below.refl w.heap.size w)
 have H : (if a1 = 7 then (some a0_1) else ((cellarref1_Width.f k a1).bind fun t227 => (some (wrap64 (Int.tdiv t227 8))))) = some r := h
 clear h
 by_cases c3 : a1 = 7
 ·rw [if_pos c3] at H
  have c3b0 : (a1 == 7) = true := beq_iff_eq.mpr c3
  have c3b1 : (a1 != 7) = false := bne_eq_false_iff_eq.mpr c3
  clear c3
  obtain rfl := Option.some.inj H
  go_enter Try.func43, Try.ntmps43
  go_wp2_with (first | ((with_reducible refine gate_dst (N := 2) rfl ?_); refine zbox (N := 2) (cs := #[.bool a0_0, .int .i64 a0_1]) (t := 29) ?_; intro gb226 hg w4 hbox hb; have n0_ := Aside0.mk (below_step (zw0 HB.out) hb); have BK226 := Aside0.mk (hbox); have GW226 := Aside0.mk (zg hg (below_size (zw0 HB.out))); have GE226 := GW226; clear HB; have HB := n0_; clear n0_; clear hb hbox hg; have hcz5_0 := zc BK226.out 0; have hcz5_1 := zc BK226.out 1; have hfz5_0 := blk_frozen BK226.out 0; have hfz5_1 := blk_frozen BK226.out 1))
  go_ret
  exact ⟨ze, zw1 HB.out GE226.out⟩
 ·rw [if_neg c3] at H
  have c3b0 : (a1 == 7) = false := beq_eq_false_iff_ne.mpr c3
  have c3b1 : (a1 != 7) = true := bne_iff_ne.mpr c3
  replace H := Option.bind_eq_some_iff.mp H
  obtain ⟨t227, A60, H⟩ := H
  replace H : (some (wrap64 (Int.tdiv t227 8))) = some r := H
  have A6 := Aside0.mk A60
  clear A60
  obtain rfl := Option.some.inj H
  go_enter Try.func43, Try.ntmps43
  go_wp2_with (first | ((with_reducible refine gate_dst (N := 2) rfl ?_); refine zbox (N := 2) (cs := #[.bool a0_0, .int .i64 a0_1]) (t := 29) ?_; intro gb226 hg w7 hbox hb; have n0_ := Aside0.mk (below_step (zw0 HB.out) hb); have BK226 := Aside0.mk (hbox); have GW226 := Aside0.mk (zg hg (below_size (zw0 HB.out))); have GE226 := GW226; clear HB; have HB := n0_; clear n0_; clear hb hbox hg) | ((with_reducible refine gate_callee (f := 70) rfl ?_); refine zgo (some 10) Try.func70 #[.int .i64 a1] ?_; (with_reducible refine (cellarref1_Width.calls k a1 t227 _ A6.out).mono ?_); rintro e w' ⟨rfl, ⟨nd, rfl⟩⟩; refine ⟨_, rfl, ?_⟩))
  go_ret
  exact ⟨ze, zw1 HB.out GE226.out⟩

/-! cellarref7_reach -/
def cellarref7_reach.f (k : Nat) (a0_0 : Bool) (a0_1 : Int) (l1 : List (S76)) (a2_0 : Bool) (a2_1 : Int) (a2_2 : Int) (a2_3 : Int) (a3 : Int) : Option (Int) := (cellarref1_Size.f k a0_0 a0_1 a3).bind fun t230 => (if 0 ≤ a2_2 then (if a2_2 < (l1.length : Int) then (if ((rd_T76 l1 a2_2).f0) = 1 then (if (wrap64 (a2_3 + t230)) > (((rd_T76 l1 a2_2).f1).length : Int) then (some 1) else (if t230 = 0 then (none) else (if (Int.tmod a2_3 t230) = 0 then (some 0) else (some 3)))) else (some 2)) else (none)) else (none))
theorem cellarref7_reach.mono : ∀ a0 a1 a2 a3 a4 a5 a6 a7 k, LeO (cellarref7_reach.f k a0 a1 a2 a3 a4 a5 a6 a7) (cellarref7_reach.f (k + 1) a0 a1 a2 a3 a4 a5 a6 a7) := by
 intro a0 a1 a2 a3 a4 a5 a6 a7 k
 unfold cellarref7_reach.f
 repeat' first
   | (with_reducible apply cellarref1_Size.mono)
   | (with_reducible apply LeO.refl)
   | (with_reducible apply LeO.none)
   | (with_reducible refine LeO.ite ?_ ?_)
   | (with_reducible refine LeO.bind ?_ (fun _ => ?_))
set_option maxHeartbeats 8000000 in
set_option maxRecDepth 100000 in
theorem cellarref7_reach.calls (k : Nat) (a0_0 : Bool) (a0_1 : Int) (A1 : Option Addr) (c1 : Nat) (l1 : List (S76)) (a2_0 : Bool) (a2_1 : Int) (a2_2 : Int) (a2_3 : Int) (a3 : Int) (r : Int) (w : World) (hr1 : Kd.C k76 w A1 l1.length l1) (hc1 : l1.length ≤ c1) (h : cellarref7_reach.f k a0_0 a0_1 l1 a2_0 a2_1 a2_2 a2_3 a3 = some r) :
  Calls Try.prog 71 #[.agg #[.bool a0_0, .int .i64 a0_1], .slice A1 l1.length c1, .agg #[.bool a2_0, .int .i64 a2_1, .int .i64 a2_2, .int .i64 a2_3], .int .i64 a3] w fun e w' => e = .returned (.int .i64 r) ∧ Below w.heap.size w w' := by
 have hu29 := Try.underlying29
 have hu62 := Try.underlying62
 have HR1 := Aside0.mk hr1
 have HC1 := Aside0.mk hc1
 clear hr1 hc1
 have HB := Aside0.mk (Below.refl w.heap.size w)
 have H : ((cellarref1_Size.f k a0_0 a0_1 a3).bind fun t230 => (if 0 ≤ a2_2 then (if a2_2 < (l1.length : Int) then (if ((rd_T76 l1 a2_2).f0) = 1 then (if (wrap64 (a2_3 + t230)) > (((rd_T76 l1 a2_2).f1).length : Int) then (some 1) else (if t230 = 0 then (none) else (if (Int.tmod a2_3 t230) = 0 then (some 0) else (some 3)))) else (some 2)) else (none)) else (none))) = some r := h
 clear h
 replace H := Option.bind_eq_some_iff.mp H
 obtain ⟨t230, A50, H⟩ := H
 replace H : (if 0 ≤ a2_2 then (if a2_2 < (l1.length : Int) then (if ((rd_T76 l1 a2_2).f0) = 1 then (if (wrap64 (a2_3 + t230)) > (((rd_T76 l1 a2_2).f1).length : Int) then (some 1) else (if t230 = 0 then (none) else (if (Int.tmod a2_3 t230) = 0 then (some 0) else (some 3)))) else (some 2)) else (none)) else (none)) = some r := H
 have A5 := Aside0.mk A50
 clear A50
 by_cases c6 : 0 ≤ a2_2
 ·rw [if_pos c6] at H
  have c6b0 : decide (0 ≤ a2_2) = true := decide_eq_true c6
  clear c6
  by_cases c7 : a2_2 < (l1.length : Int)
  rotate_left
  ·rw [if_neg c7] at H
   exact absurd H (by simp)
  rw [if_pos c7] at H
  have c7b0 : decide (a2_2 < (l1.length : Int)) = true := decide_eq_true c7
  clear c7
  by_cases c8 : ((rd_T76 l1 a2_2).f0) = 1
  rotate_left
  ·rw [if_neg c8] at H
   have c8b0 : (((rd_T76 l1 a2_2).f0) == 1) = false := beq_eq_false_iff_ne.mpr c8
   have c8b1 : (((rd_T76 l1 a2_2).f0) != 1) = true := bne_iff_ne.mpr c8
   obtain rfl := Option.some.inj H
   go_enter Try.func71, Try.ntmps71
   go_wp2_with (first | ((with_reducible refine gate_dst (N := 4) rfl ?_); refine zbox (N := 4) (cs := #[.bool a0_0, .int .i64 a0_1]) (t := 29) ?_; intro gb228 hg w30 hbox hb; have n0_ := Aside0.mk (below_step (zw0 HB.out) hb); have BK228 := Aside0.mk (hbox); have GW228 := Aside0.mk (zg hg (below_size (zw0 HB.out))); have GE228 := GW228; clear HB; have HB := n0_; clear n0_; clear hb hbox hg) | ((with_reducible refine gate_dst (N := 6) rfl ?_); refine zbox (N := 6) (cs := #[.bool a2_0, .int .i64 a2_1, .int .i64 a2_2, .int .i64 a2_3]) (t := 62) ?_; intro gb229 hg w31 hbox hb; have n0_ := Aside0.mk (zbb BK228.out hb); have n1_ := Aside0.mk (below_step (zw1 HB.out GE228.out) hb); have BK229 := Aside0.mk (hbox); have GW229 := Aside0.mk (zg hg (below_size (zw1 HB.out GE228.out))); have GE229 := GW229; have NB228_229 := Aside0.mk (zlt hg BK228.out); have NB229_228 := Aside0.mk (zgt hg BK228.out); clear BK228 HB; have BK228 := n0_; have HB := n1_; clear n0_ n1_; clear hb hbox hg; have hnb32 := NB228_229.out; have hnc32 := NB229_228.out; have hcz33_0 := zc BK228.out 0; have hcz33_1 := zc BK228.out 1; have hfz33_0 := blk_frozen BK228.out 0; have hfz33_1 := blk_frozen BK228.out 1) | (go_at_call 43; (with_reducible refine (cellarref1_Size.calls k a0_0 a0_1 a3 t230 _ A5.out).mono ?_); rintro e w34 ⟨rfl, hb⟩; have n0_ := Aside0.mk (zbb BK228.out hb); have n1_ := Aside0.mk (zbb BK229.out hb); have n2_ := Aside0.mk (below_step (zw2 HB.out GE228.out GE229.out) hb); clear BK228 BK229 HB; have BK228 := n0_; have BK229 := n1_; have HB := n2_; clear n0_ n1_ n2_; (try clear hb); (try clear hb2); (try clear hk); (try clear hi); have hcz35_0 := zc BK229.out 0; have hcz35_1 := zc BK229.out 1; have hcz35_2 := zc BK229.out 2; have hcz35_3 := zc BK229.out 3; have hfz35_0 := blk_frozen BK229.out 0; have hfz35_1 := blk_frozen BK229.out 1; have hfz35_2 := blk_frozen BK229.out 2; have hfz35_3 := blk_frozen BK229.out 3; have p231 : 0 ≤ (a2_2 : Int) := zdec; have q231 : a2_2 < (l1.length : Int) := zdec; obtain ⟨ad231, A231_1, c231_1, e231, hx231_0, hx231_1, hl231_1, hi231_1⟩ := at_T76 HR1.out a2_2 p231 q231; cases e231; replace hx231_0 := zh HB.out hx231_0; replace hx231_1 := zh HB.out hx231_1; have HR231_1 := Aside0.mk hi231_1; have HC231_1 := Aside0.mk hl231_1; clear hi231_1 hl231_1; replace p231 := eq_true p231; replace q231 := eq_true q231))
   repeat (go_quiet (first | ((with_reducible refine gate_dst (N := 4) rfl ?_); refine zbox (N := 4) (cs := #[.bool a0_0, .int .i64 a0_1]) (t := 29) ?_; intro gb228 hg w30 hbox hb; have n0_ := Aside0.mk (below_step (zw0 HB.out) hb); have BK228 := Aside0.mk (hbox); have GW228 := Aside0.mk (zg hg (below_size (zw0 HB.out))); have GE228 := GW228; clear HB; have HB := n0_; clear n0_; clear hb hbox hg) | ((with_reducible refine gate_dst (N := 6) rfl ?_); refine zbox (N := 6) (cs := #[.bool a2_0, .int .i64 a2_1, .int .i64 a2_2, .int .i64 a2_3]) (t := 62) ?_; intro gb229 hg w31 hbox hb; have n0_ := Aside0.mk (zbb BK228.out hb); have n1_ := Aside0.mk (below_step (zw1 HB.out GE228.out) hb); have BK229 := Aside0.mk (hbox); have GW229 := Aside0.mk (zg hg (below_size (zw1 HB.out GE228.out))); have GE229 := GW229; have NB228_229 := Aside0.mk (zlt hg BK228.out); have NB229_228 := Aside0.mk (zgt hg BK228.out); clear BK228 HB; have BK228 := n0_; have HB := n1_; clear n0_ n1_; clear hb hbox hg; have hnb32 := NB228_229.out; have hnc32 := NB229_228.out; have hcz33_0 := zc BK228.out 0; have hcz33_1 := zc BK228.out 1; have hfz33_0 := blk_frozen BK228.out 0; have hfz33_1 := blk_frozen BK228.out 1) | (go_at_call 43; (with_reducible refine (cellarref1_Size.calls k a0_0 a0_1 a3 t230 _ A5.out).mono ?_); rintro e w34 ⟨rfl, hb⟩; have n0_ := Aside0.mk (zbb BK228.out hb); have n1_ := Aside0.mk (zbb BK229.out hb); have n2_ := Aside0.mk (below_step (zw2 HB.out GE228.out GE229.out) hb); clear BK228 BK229 HB; have BK228 := n0_; have BK229 := n1_; have HB := n2_; clear n0_ n1_ n2_; (try clear hb); (try clear hb2); (try clear hk); (try clear hi); have hcz35_0 := zc BK229.out 0; have hcz35_1 := zc BK229.out 1; have hcz35_2 := zc BK229.out 2; have hcz35_3 := zc BK229.out 3; have hfz35_0 := blk_frozen BK229.out 0; have hfz35_1 := blk_frozen BK229.out 1; have hfz35_2 := blk_frozen BK229.out 2; have hfz35_3 := blk_frozen BK229.out 3; have p231 : 0 ≤ (a2_2 : Int) := zdec; have q231 : a2_2 < (l1.length : Int) := zdec; obtain ⟨ad231, A231_1, c231_1, e231, hx231_0, hx231_1, hl231_1, hi231_1⟩ := at_T76 HR1.out a2_2 p231 q231; cases e231; replace hx231_0 := zh HB.out hx231_0; replace hx231_1 := zh HB.out hx231_1; have HR231_1 := Aside0.mk hi231_1; have HC231_1 := Aside0.mk hl231_1; clear hi231_1 hl231_1; replace p231 := eq_true p231; replace q231 := eq_true q231)); try go_wp2_with (first | ((with_reducible refine gate_dst (N := 4) rfl ?_); refine zbox (N := 4) (cs := #[.bool a0_0, .int .i64 a0_1]) (t := 29) ?_; intro gb228 hg w30 hbox hb; have n0_ := Aside0.mk (below_step (zw0 HB.out) hb); have BK228 := Aside0.mk (hbox); have GW228 := Aside0.mk (zg hg (below_size (zw0 HB.out))); have GE228 := GW228; clear HB; have HB := n0_; clear n0_; clear hb hbox hg) | ((with_reducible refine gate_dst (N := 6) rfl ?_); refine zbox (N := 6) (cs := #[.bool a2_0, .int .i64 a2_1, .int .i64 a2_2, .int .i64 a2_3]) (t := 62) ?_; intro gb229 hg w31 hbox hb; have n0_ := Aside0.mk (zbb BK228.out hb); have n1_ := Aside0.mk (below_step (zw1 HB.out GE228.out) hb); have BK229 := Aside0.mk (hbox); have GW229 := Aside0.mk (zg hg (below_size (zw1 HB.out GE228.out))); have GE229 := GW229; have NB228_229 := Aside0.mk (zlt hg BK228.out); have NB229_228 := Aside0.mk (zgt hg BK228.out); clear BK228 HB; have BK228 := n0_; have HB := n1_; clear n0_ n1_; clear hb hbox hg; have hnb32 := NB228_229.out; have hnc32 := NB229_228.out; have hcz33_0 := zc BK228.out 0; have hcz33_1 := zc BK228.out 1; have hfz33_0 := blk_frozen BK228.out 0; have hfz33_1 := blk_frozen BK228.out 1) | (go_at_call 43; (with_reducible refine (cellarref1_Size.calls k a0_0 a0_1 a3 t230 _ A5.out).mono ?_); rintro e w34 ⟨rfl, hb⟩; have n0_ := Aside0.mk (zbb BK228.out hb); have n1_ := Aside0.mk (zbb BK229.out hb); have n2_ := Aside0.mk (below_step (zw2 HB.out GE228.out GE229.out) hb); clear BK228 BK229 HB; have BK228 := n0_; have BK229 := n1_; have HB := n2_; clear n0_ n1_ n2_; (try clear hb); (try clear hb2); (try clear hk); (try clear hi); have hcz35_0 := zc BK229.out 0; have hcz35_1 := zc BK229.out 1; have hcz35_2 := zc BK229.out 2; have hcz35_3 := zc BK229.out 3; have hfz35_0 := blk_frozen BK229.out 0; have hfz35_1 := blk_frozen BK229.out 1; have hfz35_2 := blk_frozen BK229.out 2; have hfz35_3 := blk_frozen BK229.out 3; have p231 : 0 ≤ (a2_2 : Int) := zdec; have q231 : a2_2 < (l1.length : Int) := zdec; obtain ⟨ad231, A231_1, c231_1, e231, hx231_0, hx231_1, hl231_1, hi231_1⟩ := at_T76 HR1.out a2_2 p231 q231; cases e231; replace hx231_0 := zh HB.out hx231_0; replace hx231_1 := zh HB.out hx231_1; have HR231_1 := Aside0.mk hi231_1; have HC231_1 := Aside0.mk hl231_1; clear hi231_1 hl231_1; replace p231 := eq_true p231; replace q231 := eq_true q231)))
   go_ret
   exact ⟨ze, zw2 HB.out GE228.out GE229.out⟩
  rw [if_pos c8] at H
  have c8b0 : (((rd_T76 l1 a2_2).f0) == 1) = true := beq_iff_eq.mpr c8
  have c8b1 : (((rd_T76 l1 a2_2).f0) != 1) = false := bne_eq_false_iff_eq.mpr c8
  clear c8
  by_cases c9 : (wrap64 (a2_3 + t230)) > (((rd_T76 l1 a2_2).f1).length : Int)
  ·rw [if_pos c9] at H
   have c9b0 : decide ((((rd_T76 l1 a2_2).f1).length : Int) < (wrap64 (a2_3 + t230))) = true := decide_eq_true c9
   clear c9
   obtain rfl := Option.some.inj H
   go_enter Try.func71, Try.ntmps71
   go_wp2_with (first | ((with_reducible refine gate_dst (N := 4) rfl ?_); refine zbox (N := 4) (cs := #[.bool a0_0, .int .i64 a0_1]) (t := 29) ?_; intro gb228 hg w10 hbox hb; have n0_ := Aside0.mk (below_step (zw0 HB.out) hb); have BK228 := Aside0.mk (hbox); have GW228 := Aside0.mk (zg hg (below_size (zw0 HB.out))); have GE228 := GW228; clear HB; have HB := n0_; clear n0_; clear hb hbox hg) | ((with_reducible refine gate_dst (N := 6) rfl ?_); refine zbox (N := 6) (cs := #[.bool a2_0, .int .i64 a2_1, .int .i64 a2_2, .int .i64 a2_3]) (t := 62) ?_; intro gb229 hg w11 hbox hb; have n0_ := Aside0.mk (zbb BK228.out hb); have n1_ := Aside0.mk (below_step (zw1 HB.out GE228.out) hb); have BK229 := Aside0.mk (hbox); have GW229 := Aside0.mk (zg hg (below_size (zw1 HB.out GE228.out))); have GE229 := GW229; have NB228_229 := Aside0.mk (zlt hg BK228.out); have NB229_228 := Aside0.mk (zgt hg BK228.out); clear BK228 HB; have BK228 := n0_; have HB := n1_; clear n0_ n1_; clear hb hbox hg; have hnb12 := NB228_229.out; have hnc12 := NB229_228.out; have hcz13_0 := zc BK228.out 0; have hcz13_1 := zc BK228.out 1; have hfz13_0 := blk_frozen BK228.out 0; have hfz13_1 := blk_frozen BK228.out 1) | (go_at_call 43; (with_reducible refine (cellarref1_Size.calls k a0_0 a0_1 a3 t230 _ A5.out).mono ?_); rintro e w14 ⟨rfl, hb⟩; have n0_ := Aside0.mk (zbb BK228.out hb); have n1_ := Aside0.mk (zbb BK229.out hb); have n2_ := Aside0.mk (below_step (zw2 HB.out GE228.out GE229.out) hb); clear BK228 BK229 HB; have BK228 := n0_; have BK229 := n1_; have HB := n2_; clear n0_ n1_ n2_; (try clear hb); (try clear hb2); (try clear hk); (try clear hi); have hcz15_0 := zc BK229.out 0; have hcz15_1 := zc BK229.out 1; have hcz15_2 := zc BK229.out 2; have hcz15_3 := zc BK229.out 3; have hfz15_0 := blk_frozen BK229.out 0; have hfz15_1 := blk_frozen BK229.out 1; have hfz15_2 := blk_frozen BK229.out 2; have hfz15_3 := blk_frozen BK229.out 3; have p231 : 0 ≤ (a2_2 : Int) := zdec; have q231 : a2_2 < (l1.length : Int) := zdec; obtain ⟨ad231, A231_1, c231_1, e231, hx231_0, hx231_1, hl231_1, hi231_1⟩ := at_T76 HR1.out a2_2 p231 q231; cases e231; replace hx231_0 := zh HB.out hx231_0; replace hx231_1 := zh HB.out hx231_1; have HR231_1 := Aside0.mk hi231_1; have HC231_1 := Aside0.mk hl231_1; clear hi231_1 hl231_1; replace p231 := eq_true p231; replace q231 := eq_true q231; have p232 : 0 ≤ (a2_2 : Int) := zdec; have q232 : a2_2 < (l1.length : Int) := zdec; obtain ⟨ad232, A232_1, c232_1, e232, hx232_0, hx232_1, hl232_1, hi232_1⟩ := at_T76 HR1.out a2_2 p232 q232; obtain rfl : ad231 = ad232 := (by injection e232); replace hx232_0 := zh HB.out hx232_0; replace hx232_1 := zh HB.out hx232_1; have HR232_1 := Aside0.mk hi232_1; have HC232_1 := Aside0.mk hl232_1; clear hi232_1 hl232_1; replace p232 := eq_true p232; replace q232 := eq_true q232; have ea_ := Option.some.inj (hx231_1.symm.trans hx232_1); injection ea_ with ea_ en_ ec_; subst ea_; subst ec_; clear en_))
   repeat (go_quiet (first | ((with_reducible refine gate_dst (N := 4) rfl ?_); refine zbox (N := 4) (cs := #[.bool a0_0, .int .i64 a0_1]) (t := 29) ?_; intro gb228 hg w10 hbox hb; have n0_ := Aside0.mk (below_step (zw0 HB.out) hb); have BK228 := Aside0.mk (hbox); have GW228 := Aside0.mk (zg hg (below_size (zw0 HB.out))); have GE228 := GW228; clear HB; have HB := n0_; clear n0_; clear hb hbox hg) | ((with_reducible refine gate_dst (N := 6) rfl ?_); refine zbox (N := 6) (cs := #[.bool a2_0, .int .i64 a2_1, .int .i64 a2_2, .int .i64 a2_3]) (t := 62) ?_; intro gb229 hg w11 hbox hb; have n0_ := Aside0.mk (zbb BK228.out hb); have n1_ := Aside0.mk (below_step (zw1 HB.out GE228.out) hb); have BK229 := Aside0.mk (hbox); have GW229 := Aside0.mk (zg hg (below_size (zw1 HB.out GE228.out))); have GE229 := GW229; have NB228_229 := Aside0.mk (zlt hg BK228.out); have NB229_228 := Aside0.mk (zgt hg BK228.out); clear BK228 HB; have BK228 := n0_; have HB := n1_; clear n0_ n1_; clear hb hbox hg; have hnb12 := NB228_229.out; have hnc12 := NB229_228.out; have hcz13_0 := zc BK228.out 0; have hcz13_1 := zc BK228.out 1; have hfz13_0 := blk_frozen BK228.out 0; have hfz13_1 := blk_frozen BK228.out 1) | (go_at_call 43; (with_reducible refine (cellarref1_Size.calls k a0_0 a0_1 a3 t230 _ A5.out).mono ?_); rintro e w14 ⟨rfl, hb⟩; have n0_ := Aside0.mk (zbb BK228.out hb); have n1_ := Aside0.mk (zbb BK229.out hb); have n2_ := Aside0.mk (below_step (zw2 HB.out GE228.out GE229.out) hb); clear BK228 BK229 HB; have BK228 := n0_; have BK229 := n1_; have HB := n2_; clear n0_ n1_ n2_; (try clear hb); (try clear hb2); (try clear hk); (try clear hi); have hcz15_0 := zc BK229.out 0; have hcz15_1 := zc BK229.out 1; have hcz15_2 := zc BK229.out 2; have hcz15_3 := zc BK229.out 3; have hfz15_0 := blk_frozen BK229.out 0; have hfz15_1 := blk_frozen BK229.out 1; have hfz15_2 := blk_frozen BK229.out 2; have hfz15_3 := blk_frozen BK229.out 3; have p231 : 0 ≤ (a2_2 : Int) := zdec; have q231 : a2_2 < (l1.length : Int) := zdec; obtain ⟨ad231, A231_1, c231_1, e231, hx231_0, hx231_1, hl231_1, hi231_1⟩ := at_T76 HR1.out a2_2 p231 q231; cases e231; replace hx231_0 := zh HB.out hx231_0; replace hx231_1 := zh HB.out hx231_1; have HR231_1 := Aside0.mk hi231_1; have HC231_1 := Aside0.mk hl231_1; clear hi231_1 hl231_1; replace p231 := eq_true p231; replace q231 := eq_true q231; have p232 : 0 ≤ (a2_2 : Int) := zdec; have q232 : a2_2 < (l1.length : Int) := zdec; obtain ⟨ad232, A232_1, c232_1, e232, hx232_0, hx232_1, hl232_1, hi232_1⟩ := at_T76 HR1.out a2_2 p232 q232; obtain rfl : ad231 = ad232 := (by injection e232); replace hx232_0 := zh HB.out hx232_0; replace hx232_1 := zh HB.out hx232_1; have HR232_1 := Aside0.mk hi232_1; have HC232_1 := Aside0.mk hl232_1; clear hi232_1 hl232_1; replace p232 := eq_true p232; replace q232 := eq_true q232; have ea_ := Option.some.inj (hx231_1.symm.trans hx232_1); injection ea_ with ea_ en_ ec_; subst ea_; subst ec_; clear en_)); try go_wp2_with (first | ((with_reducible refine gate_dst (N := 4) rfl ?_); refine zbox (N := 4) (cs := #[.bool a0_0, .int .i64 a0_1]) (t := 29) ?_; intro gb228 hg w10 hbox hb; have n0_ := Aside0.mk (below_step (zw0 HB.out) hb); have BK228 := Aside0.mk (hbox); have GW228 := Aside0.mk (zg hg (below_size (zw0 HB.out))); have GE228 := GW228; clear HB; have HB := n0_; clear n0_; clear hb hbox hg) | ((with_reducible refine gate_dst (N := 6) rfl ?_); refine zbox (N := 6) (cs := #[.bool a2_0, .int .i64 a2_1, .int .i64 a2_2, .int .i64 a2_3]) (t := 62) ?_; intro gb229 hg w11 hbox hb; have n0_ := Aside0.mk (zbb BK228.out hb); have n1_ := Aside0.mk (below_step (zw1 HB.out GE228.out) hb); have BK229 := Aside0.mk (hbox); have GW229 := Aside0.mk (zg hg (below_size (zw1 HB.out GE228.out))); have GE229 := GW229; have NB228_229 := Aside0.mk (zlt hg BK228.out); have NB229_228 := Aside0.mk (zgt hg BK228.out); clear BK228 HB; have BK228 := n0_; have HB := n1_; clear n0_ n1_; clear hb hbox hg; have hnb12 := NB228_229.out; have hnc12 := NB229_228.out; have hcz13_0 := zc BK228.out 0; have hcz13_1 := zc BK228.out 1; have hfz13_0 := blk_frozen BK228.out 0; have hfz13_1 := blk_frozen BK228.out 1) | (go_at_call 43; (with_reducible refine (cellarref1_Size.calls k a0_0 a0_1 a3 t230 _ A5.out).mono ?_); rintro e w14 ⟨rfl, hb⟩; have n0_ := Aside0.mk (zbb BK228.out hb); have n1_ := Aside0.mk (zbb BK229.out hb); have n2_ := Aside0.mk (below_step (zw2 HB.out GE228.out GE229.out) hb); clear BK228 BK229 HB; have BK228 := n0_; have BK229 := n1_; have HB := n2_; clear n0_ n1_ n2_; (try clear hb); (try clear hb2); (try clear hk); (try clear hi); have hcz15_0 := zc BK229.out 0; have hcz15_1 := zc BK229.out 1; have hcz15_2 := zc BK229.out 2; have hcz15_3 := zc BK229.out 3; have hfz15_0 := blk_frozen BK229.out 0; have hfz15_1 := blk_frozen BK229.out 1; have hfz15_2 := blk_frozen BK229.out 2; have hfz15_3 := blk_frozen BK229.out 3; have p231 : 0 ≤ (a2_2 : Int) := zdec; have q231 : a2_2 < (l1.length : Int) := zdec; obtain ⟨ad231, A231_1, c231_1, e231, hx231_0, hx231_1, hl231_1, hi231_1⟩ := at_T76 HR1.out a2_2 p231 q231; cases e231; replace hx231_0 := zh HB.out hx231_0; replace hx231_1 := zh HB.out hx231_1; have HR231_1 := Aside0.mk hi231_1; have HC231_1 := Aside0.mk hl231_1; clear hi231_1 hl231_1; replace p231 := eq_true p231; replace q231 := eq_true q231; have p232 : 0 ≤ (a2_2 : Int) := zdec; have q232 : a2_2 < (l1.length : Int) := zdec; obtain ⟨ad232, A232_1, c232_1, e232, hx232_0, hx232_1, hl232_1, hi232_1⟩ := at_T76 HR1.out a2_2 p232 q232; obtain rfl : ad231 = ad232 := (by injection e232); replace hx232_0 := zh HB.out hx232_0; replace hx232_1 := zh HB.out hx232_1; have HR232_1 := Aside0.mk hi232_1; have HC232_1 := Aside0.mk hl232_1; clear hi232_1 hl232_1; replace p232 := eq_true p232; replace q232 := eq_true q232; have ea_ := Option.some.inj (hx231_1.symm.trans hx232_1); injection ea_ with ea_ en_ ec_; subst ea_; subst ec_; clear en_)))
   go_ret
   exact ⟨ze, zw2 HB.out GE228.out GE229.out⟩
  rw [if_neg c9] at H
  have c9b0 : decide ((((rd_T76 l1 a2_2).f1).length : Int) < (wrap64 (a2_3 + t230))) = false := decide_eq_false c9
  clear c9
  by_cases c16 : t230 = 0
  ·rw [if_pos c16] at H
   exact absurd H (by simp)
  rw [if_neg c16] at H
  have c16b0 : (t230 == 0) = false := beq_eq_false_iff_ne.mpr c16
  have c16b1 : (t230 != 0) = true := bne_iff_ne.mpr c16
  by_cases c17 : (Int.tmod a2_3 t230) = 0
  rotate_left
  ·rw [if_neg c17] at H
   have c17b0 : ((Int.tmod a2_3 t230) == 0) = false := beq_eq_false_iff_ne.mpr c17
   have c17b1 : ((Int.tmod a2_3 t230) != 0) = true := bne_iff_ne.mpr c17
   obtain rfl := Option.some.inj H
   go_enter Try.func71, Try.ntmps71
   go_wp2_with (first | ((with_reducible refine gate_dst (N := 4) rfl ?_); refine zbox (N := 4) (cs := #[.bool a0_0, .int .i64 a0_1]) (t := 29) ?_; intro gb228 hg w24 hbox hb; have n0_ := Aside0.mk (below_step (zw0 HB.out) hb); have BK228 := Aside0.mk (hbox); have GW228 := Aside0.mk (zg hg (below_size (zw0 HB.out))); have GE228 := GW228; clear HB; have HB := n0_; clear n0_; clear hb hbox hg) | ((with_reducible refine gate_dst (N := 6) rfl ?_); refine zbox (N := 6) (cs := #[.bool a2_0, .int .i64 a2_1, .int .i64 a2_2, .int .i64 a2_3]) (t := 62) ?_; intro gb229 hg w25 hbox hb; have n0_ := Aside0.mk (zbb BK228.out hb); have n1_ := Aside0.mk (below_step (zw1 HB.out GE228.out) hb); have BK229 := Aside0.mk (hbox); have GW229 := Aside0.mk (zg hg (below_size (zw1 HB.out GE228.out))); have GE229 := GW229; have NB228_229 := Aside0.mk (zlt hg BK228.out); have NB229_228 := Aside0.mk (zgt hg BK228.out); clear BK228 HB; have BK228 := n0_; have HB := n1_; clear n0_ n1_; clear hb hbox hg; have hnb26 := NB228_229.out; have hnc26 := NB229_228.out; have hcz27_0 := zc BK228.out 0; have hcz27_1 := zc BK228.out 1; have hfz27_0 := blk_frozen BK228.out 0; have hfz27_1 := blk_frozen BK228.out 1) | (go_at_call 43; (with_reducible refine (cellarref1_Size.calls k a0_0 a0_1 a3 t230 _ A5.out).mono ?_); rintro e w28 ⟨rfl, hb⟩; have n0_ := Aside0.mk (zbb BK228.out hb); have n1_ := Aside0.mk (zbb BK229.out hb); have n2_ := Aside0.mk (below_step (zw2 HB.out GE228.out GE229.out) hb); clear BK228 BK229 HB; have BK228 := n0_; have BK229 := n1_; have HB := n2_; clear n0_ n1_ n2_; (try clear hb); (try clear hb2); (try clear hk); (try clear hi); have hcz29_0 := zc BK229.out 0; have hcz29_1 := zc BK229.out 1; have hcz29_2 := zc BK229.out 2; have hcz29_3 := zc BK229.out 3; have hfz29_0 := blk_frozen BK229.out 0; have hfz29_1 := blk_frozen BK229.out 1; have hfz29_2 := blk_frozen BK229.out 2; have hfz29_3 := blk_frozen BK229.out 3; have p231 : 0 ≤ (a2_2 : Int) := zdec; have q231 : a2_2 < (l1.length : Int) := zdec; obtain ⟨ad231, A231_1, c231_1, e231, hx231_0, hx231_1, hl231_1, hi231_1⟩ := at_T76 HR1.out a2_2 p231 q231; cases e231; replace hx231_0 := zh HB.out hx231_0; replace hx231_1 := zh HB.out hx231_1; have HR231_1 := Aside0.mk hi231_1; have HC231_1 := Aside0.mk hl231_1; clear hi231_1 hl231_1; replace p231 := eq_true p231; replace q231 := eq_true q231; have p232 : 0 ≤ (a2_2 : Int) := zdec; have q232 : a2_2 < (l1.length : Int) := zdec; obtain ⟨ad232, A232_1, c232_1, e232, hx232_0, hx232_1, hl232_1, hi232_1⟩ := at_T76 HR1.out a2_2 p232 q232; obtain rfl : ad231 = ad232 := (by injection e232); replace hx232_0 := zh HB.out hx232_0; replace hx232_1 := zh HB.out hx232_1; have HR232_1 := Aside0.mk hi232_1; have HC232_1 := Aside0.mk hl232_1; clear hi232_1 hl232_1; replace p232 := eq_true p232; replace q232 := eq_true q232; have ea_ := Option.some.inj (hx231_1.symm.trans hx232_1); injection ea_ with ea_ en_ ec_; subst ea_; subst ec_; clear en_))
   repeat (go_quiet (first | ((with_reducible refine gate_dst (N := 4) rfl ?_); refine zbox (N := 4) (cs := #[.bool a0_0, .int .i64 a0_1]) (t := 29) ?_; intro gb228 hg w24 hbox hb; have n0_ := Aside0.mk (below_step (zw0 HB.out) hb); have BK228 := Aside0.mk (hbox); have GW228 := Aside0.mk (zg hg (below_size (zw0 HB.out))); have GE228 := GW228; clear HB; have HB := n0_; clear n0_; clear hb hbox hg) | ((with_reducible refine gate_dst (N := 6) rfl ?_); refine zbox (N := 6) (cs := #[.bool a2_0, .int .i64 a2_1, .int .i64 a2_2, .int .i64 a2_3]) (t := 62) ?_; intro gb229 hg w25 hbox hb; have n0_ := Aside0.mk (zbb BK228.out hb); have n1_ := Aside0.mk (below_step (zw1 HB.out GE228.out) hb); have BK229 := Aside0.mk (hbox); have GW229 := Aside0.mk (zg hg (below_size (zw1 HB.out GE228.out))); have GE229 := GW229; have NB228_229 := Aside0.mk (zlt hg BK228.out); have NB229_228 := Aside0.mk (zgt hg BK228.out); clear BK228 HB; have BK228 := n0_; have HB := n1_; clear n0_ n1_; clear hb hbox hg; have hnb26 := NB228_229.out; have hnc26 := NB229_228.out; have hcz27_0 := zc BK228.out 0; have hcz27_1 := zc BK228.out 1; have hfz27_0 := blk_frozen BK228.out 0; have hfz27_1 := blk_frozen BK228.out 1) | (go_at_call 43; (with_reducible refine (cellarref1_Size.calls k a0_0 a0_1 a3 t230 _ A5.out).mono ?_); rintro e w28 ⟨rfl, hb⟩; have n0_ := Aside0.mk (zbb BK228.out hb); have n1_ := Aside0.mk (zbb BK229.out hb); have n2_ := Aside0.mk (below_step (zw2 HB.out GE228.out GE229.out) hb); clear BK228 BK229 HB; have BK228 := n0_; have BK229 := n1_; have HB := n2_; clear n0_ n1_ n2_; (try clear hb); (try clear hb2); (try clear hk); (try clear hi); have hcz29_0 := zc BK229.out 0; have hcz29_1 := zc BK229.out 1; have hcz29_2 := zc BK229.out 2; have hcz29_3 := zc BK229.out 3; have hfz29_0 := blk_frozen BK229.out 0; have hfz29_1 := blk_frozen BK229.out 1; have hfz29_2 := blk_frozen BK229.out 2; have hfz29_3 := blk_frozen BK229.out 3; have p231 : 0 ≤ (a2_2 : Int) := zdec; have q231 : a2_2 < (l1.length : Int) := zdec; obtain ⟨ad231, A231_1, c231_1, e231, hx231_0, hx231_1, hl231_1, hi231_1⟩ := at_T76 HR1.out a2_2 p231 q231; cases e231; replace hx231_0 := zh HB.out hx231_0; replace hx231_1 := zh HB.out hx231_1; have HR231_1 := Aside0.mk hi231_1; have HC231_1 := Aside0.mk hl231_1; clear hi231_1 hl231_1; replace p231 := eq_true p231; replace q231 := eq_true q231; have p232 : 0 ≤ (a2_2 : Int) := zdec; have q232 : a2_2 < (l1.length : Int) := zdec; obtain ⟨ad232, A232_1, c232_1, e232, hx232_0, hx232_1, hl232_1, hi232_1⟩ := at_T76 HR1.out a2_2 p232 q232; obtain rfl : ad231 = ad232 := (by injection e232); replace hx232_0 := zh HB.out hx232_0; replace hx232_1 := zh HB.out hx232_1; have HR232_1 := Aside0.mk hi232_1; have HC232_1 := Aside0.mk hl232_1; clear hi232_1 hl232_1; replace p232 := eq_true p232; replace q232 := eq_true q232; have ea_ := Option.some.inj (hx231_1.symm.trans hx232_1); injection ea_ with ea_ en_ ec_; subst ea_; subst ec_; clear en_)); try go_wp2_with (first | ((with_reducible refine gate_dst (N := 4) rfl ?_); refine zbox (N := 4) (cs := #[.bool a0_0, .int .i64 a0_1]) (t := 29) ?_; intro gb228 hg w24 hbox hb; have n0_ := Aside0.mk (below_step (zw0 HB.out) hb); have BK228 := Aside0.mk (hbox); have GW228 := Aside0.mk (zg hg (below_size (zw0 HB.out))); have GE228 := GW228; clear HB; have HB := n0_; clear n0_; clear hb hbox hg) | ((with_reducible refine gate_dst (N := 6) rfl ?_); refine zbox (N := 6) (cs := #[.bool a2_0, .int .i64 a2_1, .int .i64 a2_2, .int .i64 a2_3]) (t := 62) ?_; intro gb229 hg w25 hbox hb; have n0_ := Aside0.mk (zbb BK228.out hb); have n1_ := Aside0.mk (below_step (zw1 HB.out GE228.out) hb); have BK229 := Aside0.mk (hbox); have GW229 := Aside0.mk (zg hg (below_size (zw1 HB.out GE228.out))); have GE229 := GW229; have NB228_229 := Aside0.mk (zlt hg BK228.out); have NB229_228 := Aside0.mk (zgt hg BK228.out); clear BK228 HB; have BK228 := n0_; have HB := n1_; clear n0_ n1_; clear hb hbox hg; have hnb26 := NB228_229.out; have hnc26 := NB229_228.out; have hcz27_0 := zc BK228.out 0; have hcz27_1 := zc BK228.out 1; have hfz27_0 := blk_frozen BK228.out 0; have hfz27_1 := blk_frozen BK228.out 1) | (go_at_call 43; (with_reducible refine (cellarref1_Size.calls k a0_0 a0_1 a3 t230 _ A5.out).mono ?_); rintro e w28 ⟨rfl, hb⟩; have n0_ := Aside0.mk (zbb BK228.out hb); have n1_ := Aside0.mk (zbb BK229.out hb); have n2_ := Aside0.mk (below_step (zw2 HB.out GE228.out GE229.out) hb); clear BK228 BK229 HB; have BK228 := n0_; have BK229 := n1_; have HB := n2_; clear n0_ n1_ n2_; (try clear hb); (try clear hb2); (try clear hk); (try clear hi); have hcz29_0 := zc BK229.out 0; have hcz29_1 := zc BK229.out 1; have hcz29_2 := zc BK229.out 2; have hcz29_3 := zc BK229.out 3; have hfz29_0 := blk_frozen BK229.out 0; have hfz29_1 := blk_frozen BK229.out 1; have hfz29_2 := blk_frozen BK229.out 2; have hfz29_3 := blk_frozen BK229.out 3; have p231 : 0 ≤ (a2_2 : Int) := zdec; have q231 : a2_2 < (l1.length : Int) := zdec; obtain ⟨ad231, A231_1, c231_1, e231, hx231_0, hx231_1, hl231_1, hi231_1⟩ := at_T76 HR1.out a2_2 p231 q231; cases e231; replace hx231_0 := zh HB.out hx231_0; replace hx231_1 := zh HB.out hx231_1; have HR231_1 := Aside0.mk hi231_1; have HC231_1 := Aside0.mk hl231_1; clear hi231_1 hl231_1; replace p231 := eq_true p231; replace q231 := eq_true q231; have p232 : 0 ≤ (a2_2 : Int) := zdec; have q232 : a2_2 < (l1.length : Int) := zdec; obtain ⟨ad232, A232_1, c232_1, e232, hx232_0, hx232_1, hl232_1, hi232_1⟩ := at_T76 HR1.out a2_2 p232 q232; obtain rfl : ad231 = ad232 := (by injection e232); replace hx232_0 := zh HB.out hx232_0; replace hx232_1 := zh HB.out hx232_1; have HR232_1 := Aside0.mk hi232_1; have HC232_1 := Aside0.mk hl232_1; clear hi232_1 hl232_1; replace p232 := eq_true p232; replace q232 := eq_true q232; have ea_ := Option.some.inj (hx231_1.symm.trans hx232_1); injection ea_ with ea_ en_ ec_; subst ea_; subst ec_; clear en_)))
   go_ret
   exact ⟨ze, zw2 HB.out GE228.out GE229.out⟩
  rw [if_pos c17] at H
  have c17b0 : ((Int.tmod a2_3 t230) == 0) = true := beq_iff_eq.mpr c17
  have c17b1 : ((Int.tmod a2_3 t230) != 0) = false := bne_eq_false_iff_eq.mpr c17
  clear c17
  obtain rfl := Option.some.inj H
  go_enter Try.func71, Try.ntmps71
  go_wp2_with (first | ((with_reducible refine gate_dst (N := 4) rfl ?_); refine zbox (N := 4) (cs := #[.bool a0_0, .int .i64 a0_1]) (t := 29) ?_; intro gb228 hg w18 hbox hb; have n0_ := Aside0.mk (below_step (zw0 HB.out) hb); have BK228 := Aside0.mk (hbox); have GW228 := Aside0.mk (zg hg (below_size (zw0 HB.out))); have GE228 := GW228; clear HB; have HB := n0_; clear n0_; clear hb hbox hg) | ((with_reducible refine gate_dst (N := 6) rfl ?_); refine zbox (N := 6) (cs := #[.bool a2_0, .int .i64 a2_1, .int .i64 a2_2, .int .i64 a2_3]) (t := 62) ?_; intro gb229 hg w19 hbox hb; have n0_ := Aside0.mk (zbb BK228.out hb); have n1_ := Aside0.mk (below_step (zw1 HB.out GE228.out) hb); have BK229 := Aside0.mk (hbox); have GW229 := Aside0.mk (zg hg (below_size (zw1 HB.out GE228.out))); have GE229 := GW229; have NB228_229 := Aside0.mk (zlt hg BK228.out); have NB229_228 := Aside0.mk (zgt hg BK228.out); clear BK228 HB; have BK228 := n0_; have HB := n1_; clear n0_ n1_; clear hb hbox hg; have hnb20 := NB228_229.out; have hnc20 := NB229_228.out; have hcz21_0 := zc BK228.out 0; have hcz21_1 := zc BK228.out 1; have hfz21_0 := blk_frozen BK228.out 0; have hfz21_1 := blk_frozen BK228.out 1) | (go_at_call 43; (with_reducible refine (cellarref1_Size.calls k a0_0 a0_1 a3 t230 _ A5.out).mono ?_); rintro e w22 ⟨rfl, hb⟩; have n0_ := Aside0.mk (zbb BK228.out hb); have n1_ := Aside0.mk (zbb BK229.out hb); have n2_ := Aside0.mk (below_step (zw2 HB.out GE228.out GE229.out) hb); clear BK228 BK229 HB; have BK228 := n0_; have BK229 := n1_; have HB := n2_; clear n0_ n1_ n2_; (try clear hb); (try clear hb2); (try clear hk); (try clear hi); have hcz23_0 := zc BK229.out 0; have hcz23_1 := zc BK229.out 1; have hcz23_2 := zc BK229.out 2; have hcz23_3 := zc BK229.out 3; have hfz23_0 := blk_frozen BK229.out 0; have hfz23_1 := blk_frozen BK229.out 1; have hfz23_2 := blk_frozen BK229.out 2; have hfz23_3 := blk_frozen BK229.out 3; have p231 : 0 ≤ (a2_2 : Int) := zdec; have q231 : a2_2 < (l1.length : Int) := zdec; obtain ⟨ad231, A231_1, c231_1, e231, hx231_0, hx231_1, hl231_1, hi231_1⟩ := at_T76 HR1.out a2_2 p231 q231; cases e231; replace hx231_0 := zh HB.out hx231_0; replace hx231_1 := zh HB.out hx231_1; have HR231_1 := Aside0.mk hi231_1; have HC231_1 := Aside0.mk hl231_1; clear hi231_1 hl231_1; replace p231 := eq_true p231; replace q231 := eq_true q231; have p232 : 0 ≤ (a2_2 : Int) := zdec; have q232 : a2_2 < (l1.length : Int) := zdec; obtain ⟨ad232, A232_1, c232_1, e232, hx232_0, hx232_1, hl232_1, hi232_1⟩ := at_T76 HR1.out a2_2 p232 q232; obtain rfl : ad231 = ad232 := (by injection e232); replace hx232_0 := zh HB.out hx232_0; replace hx232_1 := zh HB.out hx232_1; have HR232_1 := Aside0.mk hi232_1; have HC232_1 := Aside0.mk hl232_1; clear hi232_1 hl232_1; replace p232 := eq_true p232; replace q232 := eq_true q232; have ea_ := Option.some.inj (hx231_1.symm.trans hx232_1); injection ea_ with ea_ en_ ec_; subst ea_; subst ec_; clear en_))
  repeat (go_quiet (first | ((with_reducible refine gate_dst (N := 4) rfl ?_); refine zbox (N := 4) (cs := #[.bool a0_0, .int .i64 a0_1]) (t := 29) ?_; intro gb228 hg w18 hbox hb; have n0_ := Aside0.mk (below_step (zw0 HB.out) hb); have BK228 := Aside0.mk (hbox); have GW228 := Aside0.mk (zg hg (below_size (zw0 HB.out))); have GE228 := GW228; clear HB; have HB := n0_; clear n0_; clear hb hbox hg) | ((with_reducible refine gate_dst (N := 6) rfl ?_); refine zbox (N := 6) (cs := #[.bool a2_0, .int .i64 a2_1, .int .i64 a2_2, .int .i64 a2_3]) (t := 62) ?_; intro gb229 hg w19 hbox hb; have n0_ := Aside0.mk (zbb BK228.out hb); have n1_ := Aside0.mk (below_step (zw1 HB.out GE228.out) hb); have BK229 := Aside0.mk (hbox); have GW229 := Aside0.mk (zg hg (below_size (zw1 HB.out GE228.out))); have GE229 := GW229; have NB228_229 := Aside0.mk (zlt hg BK228.out); have NB229_228 := Aside0.mk (zgt hg BK228.out); clear BK228 HB; have BK228 := n0_; have HB := n1_; clear n0_ n1_; clear hb hbox hg; have hnb20 := NB228_229.out; have hnc20 := NB229_228.out; have hcz21_0 := zc BK228.out 0; have hcz21_1 := zc BK228.out 1; have hfz21_0 := blk_frozen BK228.out 0; have hfz21_1 := blk_frozen BK228.out 1) | (go_at_call 43; (with_reducible refine (cellarref1_Size.calls k a0_0 a0_1 a3 t230 _ A5.out).mono ?_); rintro e w22 ⟨rfl, hb⟩; have n0_ := Aside0.mk (zbb BK228.out hb); have n1_ := Aside0.mk (zbb BK229.out hb); have n2_ := Aside0.mk (below_step (zw2 HB.out GE228.out GE229.out) hb); clear BK228 BK229 HB; have BK228 := n0_; have BK229 := n1_; have HB := n2_; clear n0_ n1_ n2_; (try clear hb); (try clear hb2); (try clear hk); (try clear hi); have hcz23_0 := zc BK229.out 0; have hcz23_1 := zc BK229.out 1; have hcz23_2 := zc BK229.out 2; have hcz23_3 := zc BK229.out 3; have hfz23_0 := blk_frozen BK229.out 0; have hfz23_1 := blk_frozen BK229.out 1; have hfz23_2 := blk_frozen BK229.out 2; have hfz23_3 := blk_frozen BK229.out 3; have p231 : 0 ≤ (a2_2 : Int) := zdec; have q231 : a2_2 < (l1.length : Int) := zdec; obtain ⟨ad231, A231_1, c231_1, e231, hx231_0, hx231_1, hl231_1, hi231_1⟩ := at_T76 HR1.out a2_2 p231 q231; cases e231; replace hx231_0 := zh HB.out hx231_0; replace hx231_1 := zh HB.out hx231_1; have HR231_1 := Aside0.mk hi231_1; have HC231_1 := Aside0.mk hl231_1; clear hi231_1 hl231_1; replace p231 := eq_true p231; replace q231 := eq_true q231; have p232 : 0 ≤ (a2_2 : Int) := zdec; have q232 : a2_2 < (l1.length : Int) := zdec; obtain ⟨ad232, A232_1, c232_1, e232, hx232_0, hx232_1, hl232_1, hi232_1⟩ := at_T76 HR1.out a2_2 p232 q232; obtain rfl : ad231 = ad232 := (by injection e232); replace hx232_0 := zh HB.out hx232_0; replace hx232_1 := zh HB.out hx232_1; have HR232_1 := Aside0.mk hi232_1; have HC232_1 := Aside0.mk hl232_1; clear hi232_1 hl232_1; replace p232 := eq_true p232; replace q232 := eq_true q232; have ea_ := Option.some.inj (hx231_1.symm.trans hx232_1); injection ea_ with ea_ en_ ec_; subst ea_; subst ec_; clear en_)); try go_wp2_with (first | ((with_reducible refine gate_dst (N := 4) rfl ?_); refine zbox (N := 4) (cs := #[.bool a0_0, .int .i64 a0_1]) (t := 29) ?_; intro gb228 hg w18 hbox hb; have n0_ := Aside0.mk (below_step (zw0 HB.out) hb); have BK228 := Aside0.mk (hbox); have GW228 := Aside0.mk (zg hg (below_size (zw0 HB.out))); have GE228 := GW228; clear HB; have HB := n0_; clear n0_; clear hb hbox hg) | ((with_reducible refine gate_dst (N := 6) rfl ?_); refine zbox (N := 6) (cs := #[.bool a2_0, .int .i64 a2_1, .int .i64 a2_2, .int .i64 a2_3]) (t := 62) ?_; intro gb229 hg w19 hbox hb; have n0_ := Aside0.mk (zbb BK228.out hb); have n1_ := Aside0.mk (below_step (zw1 HB.out GE228.out) hb); have BK229 := Aside0.mk (hbox); have GW229 := Aside0.mk (zg hg (below_size (zw1 HB.out GE228.out))); have GE229 := GW229; have NB228_229 := Aside0.mk (zlt hg BK228.out); have NB229_228 := Aside0.mk (zgt hg BK228.out); clear BK228 HB; have BK228 := n0_; have HB := n1_; clear n0_ n1_; clear hb hbox hg; have hnb20 := NB228_229.out; have hnc20 := NB229_228.out; have hcz21_0 := zc BK228.out 0; have hcz21_1 := zc BK228.out 1; have hfz21_0 := blk_frozen BK228.out 0; have hfz21_1 := blk_frozen BK228.out 1) | (go_at_call 43; (with_reducible refine (cellarref1_Size.calls k a0_0 a0_1 a3 t230 _ A5.out).mono ?_); rintro e w22 ⟨rfl, hb⟩; have n0_ := Aside0.mk (zbb BK228.out hb); have n1_ := Aside0.mk (zbb BK229.out hb); have n2_ := Aside0.mk (below_step (zw2 HB.out GE228.out GE229.out) hb); clear BK228 BK229 HB; have BK228 := n0_; have BK229 := n1_; have HB := n2_; clear n0_ n1_ n2_; (try clear hb); (try clear hb2); (try clear hk); (try clear hi); have hcz23_0 := zc BK229.out 0; have hcz23_1 := zc BK229.out 1; have hcz23_2 := zc BK229.out 2; have hcz23_3 := zc BK229.out 3; have hfz23_0 := blk_frozen BK229.out 0; have hfz23_1 := blk_frozen BK229.out 1; have hfz23_2 := blk_frozen BK229.out 2; have hfz23_3 := blk_frozen BK229.out 3; have p231 : 0 ≤ (a2_2 : Int) := zdec; have q231 : a2_2 < (l1.length : Int) := zdec; obtain ⟨ad231, A231_1, c231_1, e231, hx231_0, hx231_1, hl231_1, hi231_1⟩ := at_T76 HR1.out a2_2 p231 q231; cases e231; replace hx231_0 := zh HB.out hx231_0; replace hx231_1 := zh HB.out hx231_1; have HR231_1 := Aside0.mk hi231_1; have HC231_1 := Aside0.mk hl231_1; clear hi231_1 hl231_1; replace p231 := eq_true p231; replace q231 := eq_true q231; have p232 : 0 ≤ (a2_2 : Int) := zdec; have q232 : a2_2 < (l1.length : Int) := zdec; obtain ⟨ad232, A232_1, c232_1, e232, hx232_0, hx232_1, hl232_1, hi232_1⟩ := at_T76 HR1.out a2_2 p232 q232; obtain rfl : ad231 = ad232 := (by injection e232); replace hx232_0 := zh HB.out hx232_0; replace hx232_1 := zh HB.out hx232_1; have HR232_1 := Aside0.mk hi232_1; have HC232_1 := Aside0.mk hl232_1; clear hi232_1 hl232_1; replace p232 := eq_true p232; replace q232 := eq_true q232; have ea_ := Option.some.inj (hx231_1.symm.trans hx232_1); injection ea_ with ea_ en_ ec_; subst ea_; subst ec_; clear en_)))
  go_ret
  exact ⟨ze, zw2 HB.out GE228.out GE229.out⟩
 ·rw [if_neg c6] at H
  exact absurd H (by simp)

/-! cellarref7_Put -/
mutual
def cellarref7_Put.l0 : Nat → Int → List (S74) → Int → Bool → Int → Bool → Int → Int → Int → Option ((List (S74)))
 | 0, _, _, _, _, _, _, _, _, _ => none
 | k + 1, x7, x8, x9, x234000, x234001, x235000, x235001, x235002, x235003 => if x9 < x7 then (if x234000 = true then (cellarref7_Put.j1 k x7 x8 x9 (wrap64 ((wrap64 (x7 - 1)) - x9)) x234000 x234001 x235000 x235001 x235002 x235003) else (cellarref7_Put.j1 k x7 x8 x9 x9 x234000 x234001 x235000 x235001 x235002 x235003)) else (some x8)
def cellarref7_Put.j1 : Nat → Int → List (S74) → Int → Int → Bool → Int → Bool → Int → Int → Int → Option ((List (S74)))
 | 0, _, _, _, _, _, _, _, _, _, _ => none
 | k + 1, x7, x8, x9, x10, x234000, x234001, x235000, x235001, x235002, x235003 => if 0 ≤ (wrap64 (8 * x10)) then (if 0 ≤ x9 then (if x9 < (x8.length : Int) then ((some (x8.set (x9 : Int).toNat (⟨1, Go.bits .and .i64 (shr .i64 x235001 (wrap64 (8 * x10))) 255, 0, 0, 0⟩ : S74) : List (S74))).bind fun y239 => (if x235000 = true then ((some (y239.set (x9 : Int).toNat (⟨1, 0, 0, 0, 0⟩ : S74) : List (S74))).bind fun y240 => (if x235002 > 0 then (cellarref7_Put.l0 k x7 (y240.set (x9 : Int).toNat (⟨2, 0, x235002, x235003, x9⟩ : S74)) (wrap64 (x9 + 1)) x234000 x234001 x235000 x235001 x235002 x235003) else (cellarref7_Put.l0 k x7 y240 (wrap64 (x9 + 1)) x234000 x234001 x235000 x235001 x235002 x235003))) else (cellarref7_Put.l0 k x7 y239 (wrap64 (x9 + 1)) x234000 x234001 x235000 x235001 x235002 x235003))) else (none)) else (none)) else (none)
end
def cellarref7_Put.f (k : Nat) (a0_0 : Bool) (a0_1 : Int) (a1 : Int) (a2_0 : Bool) (a2_1 : Int) (a2_2 : Int) (a2_3 : Int) : Option ((List (S74))) := (cellarref1_Size.f k a0_0 a0_1 a1).bind fun t235 => (if 0 ≤ t235 then (if (t235 : Int).toNat ≤ 7036874417766 then (cellarref7_Put.l0 k t235 (List.replicate (t235 : Int).toNat z74) 0 a0_0 a0_1 a2_0 a2_1 a2_2 a2_3) else (none)) else (none))
theorem cellarref7_Put.mono_l : ∀ k, (∀ y0 y1 y2 y3 y4 y5 y6 y7 y8, LeO (cellarref7_Put.l0 k y0 y1 y2 y3 y4 y5 y6 y7 y8) (cellarref7_Put.l0 (k + 1) y0 y1 y2 y3 y4 y5 y6 y7 y8)) ∧ (∀ y0 y1 y2 y3 y4 y5 y6 y7 y8 y9, LeO (cellarref7_Put.j1 k y0 y1 y2 y3 y4 y5 y6 y7 y8 y9) (cellarref7_Put.j1 (k + 1) y0 y1 y2 y3 y4 y5 y6 y7 y8 y9))
 | 0 => ⟨fun _ _ _ _ _ _ _ _ _ r h => by simp [cellarref7_Put.l0] at h, fun _ _ _ _ _ _ _ _ _ _ r h => by simp [cellarref7_Put.j1] at h⟩
 | k + 1 => by
  obtain ⟨ih0, ih1⟩ := cellarref7_Put.mono_l k
  refine ⟨?_, ?_⟩
  ·intro y0 y1 y2 y3 y4 y5 y6 y7 y8
   unfold cellarref7_Put.l0
   repeat' first
   | (with_reducible apply ih0)
   | (with_reducible apply ih1)
   | (with_reducible apply cellarref1_Size.mono)
   | (with_reducible apply LeO.refl)
   | (with_reducible apply LeO.none)
   | (with_reducible refine LeO.ite ?_ ?_)
   | (with_reducible refine LeO.bind ?_ (fun _ => ?_))
  ·intro y0 y1 y2 y3 y4 y5 y6 y7 y8 y9
   unfold cellarref7_Put.j1
   repeat' first
   | (with_reducible apply ih0)
   | (with_reducible apply ih1)
   | (with_reducible apply cellarref1_Size.mono)
   | (with_reducible apply LeO.refl)
   | (with_reducible apply LeO.none)
   | (with_reducible refine LeO.ite ?_ ?_)
   | (with_reducible refine LeO.bind ?_ (fun _ => ?_))
theorem cellarref7_Put.mono : ∀ a0 a1 a2 a3 a4 a5 a6 k, LeO (cellarref7_Put.f k a0 a1 a2 a3 a4 a5 a6) (cellarref7_Put.f (k + 1) a0 a1 a2 a3 a4 a5 a6) := by
 intro a0 a1 a2 a3 a4 a5 a6 k
 obtain ⟨ih0, ih1⟩ := cellarref7_Put.mono_l k
 unfold cellarref7_Put.f
 repeat' first
   | (with_reducible apply ih0)
   | (with_reducible apply ih1)
   | (with_reducible apply cellarref1_Size.mono)
   | (with_reducible apply LeO.refl)
   | (with_reducible apply LeO.none)
   | (with_reducible refine LeO.ite ?_ ?_)
   | (with_reducible refine LeO.bind ?_ (fun _ => ?_))
set_option maxHeartbeats 8000000 in
set_option maxRecDepth 100000 in
theorem cellarref7_Put.calls (k : Nat) (a0_0 : Bool) (a0_1 : Int) (a1 : Int) (a2_0 : Bool) (a2_1 : Int) (a2_2 : Int) (a2_3 : Int) (r : List (S74)) (w : World) (h : cellarref7_Put.f k a0_0 a0_1 a1 a2_0 a2_1 a2_2 a2_3 = some r) :
  Calls Try.prog 72 #[.agg #[.bool a0_0, .int .i64 a0_1], .int .i64 a1, .agg #[.bool a2_0, .int .i64 a2_1, .int .i64 a2_2, .int .i64 a2_3]] w fun e w' => ∃ v0_ : Value, e = .returned (v0_) ∧ Kd.R k74 74 w' w.heap.size (fun _ => True) v0_ r ∧ Below w.heap.size w w' := by
 have hu29 := Try.underlying29
 have hu62 := Try.underlying62
 have hu74 := Try.underlying74
 have HB := Aside0.mk (Below.refl w.heap.size w)
 have H : ((cellarref1_Size.f k a0_0 a0_1 a1).bind fun t235 => (if 0 ≤ t235 then (if (t235 : Int).toNat ≤ 7036874417766 then (cellarref7_Put.l0 k t235 (List.replicate (t235 : Int).toNat z74) 0 a0_0 a0_1 a2_0 a2_1 a2_2 a2_3) else (none)) else (none))) = some r := h
 clear h
 replace H := Option.bind_eq_some_iff.mp H
 obtain ⟨t235, A40, H⟩ := H
 replace H : (if 0 ≤ t235 then (if (t235 : Int).toNat ≤ 7036874417766 then (cellarref7_Put.l0 k t235 (List.replicate (t235 : Int).toNat z74) 0 a0_0 a0_1 a2_0 a2_1 a2_2 a2_3) else (none)) else (none)) = some r := H
 have A4 := Aside0.mk A40
 clear A40
 by_cases c5 : 0 ≤ t235
 ·rw [if_pos c5] at H
  have c5b0 := eq_true c5
  have c5b1 : decide (0 ≤ t235) = true := decide_eq_true c5
  clear c5
  by_cases c6 : (t235 : Int).toNat ≤ 7036874417766
  rotate_left
  ·rw [if_neg c6] at H
   exact absurd H (by simp)
  rw [if_pos c6] at H
  have c6b0 := eq_true c6
  have c6b1 : decide ((t235 : Int).toNat ≤ 7036874417766) = true := decide_eq_true c6
  clear c6
  obtain ⟨y236, hy236⟩ : ∃ y_ : List (S74), y_ = (List.replicate (t235 : Int).toNat z74) := ⟨_, rfl⟩
  replace H : (cellarref7_Put.l0 k t235 y236 0 a0_0 a0_1 a2_0 a2_1 a2_2 a2_3) = some r := by first | (rw [hy236]; with_reducible exact H) | (have H2_ := (Option.bind_some _ _).symm.trans H; rw [hy236]; with_reducible exact H2_) | (have H2_ := (Option.bind_some _ _).symm.trans H; with_reducible exact H2_) | with_reducible exact H | (rw [hy236]; exact H) | exact H
  have Ny236 := Aside0.mk hy236
  clear hy236
  have H' := Aside0.mk H
  clear H
  go_enter Try.func72, Try.ntmps72
  go_wp2_with (first | ((with_reducible refine gate_dst (N := 3) rfl ?_); refine zbox (N := 3) (cs := #[.bool a0_0, .int .i64 a0_1]) (t := 29) ?_; intro gb233 hg w7 hbox hb; have n0_ := Aside0.mk (below_step (zw0 HB.out) hb); have BK233 := Aside0.mk (hbox); have GW233 := Aside0.mk (zg hg (below_size (zw0 HB.out))); have GE233 := GW233; clear HB; have HB := n0_; clear n0_; clear hb hbox hg) | ((with_reducible refine gate_dst (N := 5) rfl ?_); refine zbox (N := 5) (cs := #[.bool a2_0, .int .i64 a2_1, .int .i64 a2_2, .int .i64 a2_3]) (t := 62) ?_; intro gb234 hg w8 hbox hb; have n0_ := Aside0.mk (zbb BK233.out hb); have n1_ := Aside0.mk (below_step (zw1 HB.out GE233.out) hb); have BK234 := Aside0.mk (hbox); have GW234 := Aside0.mk (zg hg (below_size (zw1 HB.out GE233.out))); have GE234 := GW234; have NB233_234 := Aside0.mk (zlt hg BK233.out); have NB234_233 := Aside0.mk (zgt hg BK233.out); clear BK233 HB; have BK233 := n0_; have HB := n1_; clear n0_ n1_; clear hb hbox hg; have hnb9 := NB233_234.out; have hnc9 := NB234_233.out; have hcz10_0 := zc BK233.out 0; have hcz10_1 := zc BK233.out 1; have hfz10_0 := blk_frozen BK233.out 0; have hfz10_1 := blk_frozen BK233.out 1) | ((with_reducible refine gate_callee (f := 43) rfl ?_); refine zgo (some 13) Try.func43 #[.agg #[.bool a0_0, .int .i64 a0_1], .int .i64 a1] ?_; (with_reducible refine (cellarref1_Size.calls k a0_0 a0_1 a1 t235 _ A4.out).mono ?_); rintro e w11 ⟨rfl, hb⟩; refine ⟨_, rfl, ?_⟩; have n0_ := Aside0.mk (zbb BK233.out hb); have n1_ := Aside0.mk (zbb BK234.out hb); have n2_ := Aside0.mk (below_step (zw2 HB.out GE233.out GE234.out) hb); clear BK233 BK234 HB; have BK233 := n0_; have BK234 := n1_; have HB := n2_; clear n0_ n1_ n2_; (try clear hb); (try clear hb2); (try clear hk); (try clear hi)) | ((with_reducible refine gate_dst (N := 15) rfl ?_); refine Kd.R_make k74 _ 74 rfl (N := 15) rfl 72 _ _ rfl t235 rfl rfl Try.underlying72 (.agg #[(.int .i64 0), (.int .i64 0), (.int .i64 0), (.int .i64 0), (.int .i64 0)]) 40 info74 rfl (by decide) (by omega) z74 (ok := fun _ => True) (okp := fun _ => True) (k74_mkM _ _ _ z74 ) (fun _ hk => hk) trivial (zdec) (Nat.le_trans (Nat.mul_le_mul_right _ (zdec : t235.toNat ≤ 7036874417766)) (by omega)) (Below.refl _ _) (Nat.le_refl _) ?_; intro v237 w12 ho13 hb hg_ hnew_; clear hg_ hnew_; (first | rw [← Ny236.out] at ho13 | (simp only [Int.reduceToNat] at ho13; rw [← Ny236.out] at ho13)); have HO238 := Aside0.mk (Kd.R_lower ho13 (below_size (zw2 HB.out GE233.out GE234.out))); have n1_ := Aside0.mk (zbb BK233.out hb); have n2_ := Aside0.mk (zbb BK234.out hb); have n3_ := Aside0.mk (below_step (zw2 HB.out GE233.out GE234.out) hb); clear BK233 BK234 HB; have BK233 := n1_; have BK234 := n2_; have HB := n3_; clear n1_ n2_ n3_; clear hb ho13))
  go_loopg [9] k (fun kq v9 w' => ∃ (x8_1 : List (S74)) (x9_1 : Int), v9 = .int .i64 x9_1 ∧ Aside0 (cellarref7_Put.l0 kq t235 x8_1 x9_1 a0_0 a0_1 a2_0 a2_1 a2_2 a2_3 = some r) ∧ Aside0 (kq ≤ k) ∧ Aside0 (Kd.R k74 74 w' w.heap.size (fun _ => True) v237 x8_1) ∧ Aside0 (w'.heap[gb233]? = some (.cells #[.bool a0_0, .int .i64 a0_1] 29 (0, 0))) ∧ Aside0 (w'.heap[gb234]? = some (.cells #[.bool a2_0, .int .i64 a2_1, .int .i64 a2_2, .int .i64 a2_3] 62 (0, 0))) ∧ Aside0 (Below w.heap.size w w'))
  case atStart => exact ⟨(y236), (0), (zr), H', ⟨Nat.le_refl _⟩, ⟨by (with_reducible repeat (first | apply Kd.R_alloc | apply Kd.R_drewN | apply Kd.R_drew)); exact HO238.out⟩, ⟨zb BK233.out⟩, ⟨zb BK234.out⟩, ⟨zw2 HB.out GE233.out GE234.out⟩⟩
  case round =>
   clear H'
   try clear p2; try clear c4; try clear c5; try clear c5b0; try clear c5b1; try clear c6; try clear c6b0; try clear c6b1; try clear c7; try clear c9
   obtain ⟨x8_1, x9_1, rfl, HA, HK1, HO_8, BK233, BK234, HB⟩ := hrel
   cases gk with
   | zero => exact absurd HA.out (by simp [cellarref7_Put.l0])
   | succ k1 =>
    have H := HA.out
    clear HA
    simp only [cellarref7_Put.l0] at H
    by_cases c14 : x9_1 < t235
    rotate_left
    ·rw [if_neg c14] at H
     have c14b0 : decide (x9_1 < t235) = false := decide_eq_false c14
     clear c14
     obtain rfl := Option.some.inj H
     go_wp2
     go_ret
     exact ⟨_, ze, by (with_reducible repeat (first | apply Kd.R_alloc | apply Kd.R_drewN | apply Kd.R_drew)); exact HO_8.out, zw2 HB.out GE233.out GE234.out⟩
    rw [if_pos c14] at H
    have c14b0 : decide (x9_1 < t235) = true := decide_eq_true c14
    clear c14
    have HC15 := Aside0.mk H
    clear H
    have hnb16 := NB233_234.out
    have hnc16 := NB234_233.out
    have hcz17_0 := zc BK233.out 0
    have hcz17_1 := zc BK233.out 1
    have hfz17_0 := blk_frozen BK233.out 0
    have hfz17_1 := blk_frozen BK233.out 1
    go_upto_if 23 with (fail)
    go_cut [10] (fun v10 wc => ∃ (kq : Nat) (x10_14 : Int), v10 = .int .i64 x10_14 ∧ Aside0 (cellarref7_Put.j1 kq t235 x8_1 x9_1 x10_14 a0_0 a0_1 a2_0 a2_1 a2_2 a2_3 = some r) ∧ Aside0 (kq ≤ k1) ∧ Aside0 (Kd.R k74 74 wc w.heap.size (fun _ => True) v237 x8_1) ∧ Aside0 (wc.heap[gb233]? = some (.cells #[.bool a0_0, .int .i64 a0_1] 29 (0, 0))) ∧ Aside0 (wc.heap[gb234]? = some (.cells #[.bool a2_0, .int .i64 a2_1, .int .i64 a2_2, .int .i64 a2_3] 62 (0, 0))) ∧ Aside0 (Below w.heap.size w wc))
    case first =>
     have H := HC15.out
     clear HC15
     by_cases c18 : a0_0 = true
     ·subst c18
      have H1 : (cellarref7_Put.j1 k1 t235 x8_1 x9_1 (wrap64 ((wrap64 (t235 - 1)) - x9_1)) true a0_1 a2_0 a2_1 a2_2 a2_3) = some r := by rw [if_pos rfl] at H; exact H
      clear H
      have H := H1
      clear H1
      have H' := Aside0.mk H
      clear H
      go_wp2
      go_meet
      case rel => exact ⟨_, (wrap64 ((wrap64 (t235 - 1)) - x9_1)), (zr), H', ⟨by have := HK1.out; first | omega | exact Nat.le_refl _⟩, ⟨by (with_reducible repeat (first | apply Kd.R_alloc | apply Kd.R_drewN | apply Kd.R_drew)); exact HO_8.out⟩, ⟨zb BK233.out⟩, ⟨zb BK234.out⟩, ⟨zw2 HB.out GE233.out GE234.out⟩⟩
     replace c18 := Bool.eq_false_iff.mpr c18
     subst c18
     have H1 : (cellarref7_Put.j1 k1 t235 x8_1 x9_1 x9_1 false a0_1 a2_0 a2_1 a2_2 a2_3) = some r := by rw [if_neg (show ¬ (false = true) by decide)] at H; exact H
     clear H
     have H := H1
     clear H1
     have H' := Aside0.mk H
     clear H
     go_wp2
     go_meet
     case rel => exact ⟨_, (x9_1), (zr), H', ⟨by have := HK1.out; first | omega | exact Nat.le_refl _⟩, ⟨by (with_reducible repeat (first | apply Kd.R_alloc | apply Kd.R_drewN | apply Kd.R_drew)); exact HO_8.out⟩, ⟨zb BK233.out⟩, ⟨zb BK234.out⟩, ⟨zw2 HB.out GE233.out GE234.out⟩⟩
    case rest =>
     clear HC15
     try clear c1; try clear p2; try clear c4; try clear c5; try clear c5b0; try clear c5b1; try clear c6; try clear c6b0; try clear c6b1; try clear p6; try clear c7; try clear c9; try clear c14; try clear c14b0; try clear c16; try clear c18; try clear p2
     obtain ⟨kq, x10_14, rfl, HA, HJ14, HO_8, BK233, BK234, HB⟩ := hcut
     cases kq with
     | zero => exact absurd HA.out (by simp [cellarref7_Put.j1])
     | succ kj14 =>
      have H := HA.out
      clear HA
      simp only [cellarref7_Put.j1] at H
      obtain ⟨ji19, hji19⟩ : ∃ j_ : Int, (wrap64 (8 * x10_14)) = j_ := ⟨_, rfl⟩
      replace H : (if 0 ≤ (ji19) then (if 0 ≤ x9_1 then (if x9_1 < (x8_1.length : Int) then ((some (x8_1.set (x9_1 : Int).toNat (⟨1, Go.bits .and .i64 (shr .i64 a2_1 (ji19)) 255, 0, 0, 0⟩ : S74) : List (S74))).bind fun y239 => (if a2_0 = true then ((some (y239.set (x9_1 : Int).toNat (⟨1, 0, 0, 0, 0⟩ : S74) : List (S74))).bind fun y240 => (if a2_2 > 0 then (cellarref7_Put.l0 kj14 t235 (y240.set (x9_1 : Int).toNat (⟨2, 0, a2_2, a2_3, x9_1⟩ : S74)) (wrap64 (x9_1 + 1)) a0_0 a0_1 a2_0 a2_1 a2_2 a2_3) else (cellarref7_Put.l0 kj14 t235 y240 (wrap64 (x9_1 + 1)) a0_0 a0_1 a2_0 a2_1 a2_2 a2_3))) else (cellarref7_Put.l0 kj14 t235 y239 (wrap64 (x9_1 + 1)) a0_0 a0_1 a2_0 a2_1 a2_2 a2_3))) else (none)) else (none)) else (none)) = some r := by first | (rw [hji19] at H; exact H) | (simp only [hji19] at H ⊢; exact H)
      have hji19w : (IntKind.i64.wrap (8 * x10_14)) = ji19 := (i64_w _).trans hji19
      by_cases c20 : 0 ≤ (ji19)
      rotate_left
      ·rw [if_neg c20] at H
       exact absurd H (by simp)
      rw [if_pos c20] at H
      have c20b0 := eq_true c20
      have c20b1 : decide (0 ≤ (ji19)) = true := decide_eq_true c20
      clear c20
      obtain ⟨ji21, hji21⟩ : ∃ j_ : Int, (shr .i64 a2_1 (ji19)) = j_ := ⟨_, rfl⟩
      replace H : (if 0 ≤ x9_1 then (if x9_1 < (x8_1.length : Int) then ((some (x8_1.set (x9_1 : Int).toNat (⟨1, Go.bits .and .i64 (ji21) 255, 0, 0, 0⟩ : S74) : List (S74))).bind fun y239 => (if a2_0 = true then ((some (y239.set (x9_1 : Int).toNat (⟨1, 0, 0, 0, 0⟩ : S74) : List (S74))).bind fun y240 => (if a2_2 > 0 then (cellarref7_Put.l0 kj14 t235 (y240.set (x9_1 : Int).toNat (⟨2, 0, a2_2, a2_3, x9_1⟩ : S74)) (wrap64 (x9_1 + 1)) a0_0 a0_1 a2_0 a2_1 a2_2 a2_3) else (cellarref7_Put.l0 kj14 t235 y240 (wrap64 (x9_1 + 1)) a0_0 a0_1 a2_0 a2_1 a2_2 a2_3))) else (cellarref7_Put.l0 kj14 t235 y239 (wrap64 (x9_1 + 1)) a0_0 a0_1 a2_0 a2_1 a2_2 a2_3))) else (none)) else (none)) = some r := by first | (rw [hji21] at H; exact H) | (simp only [hji21] at H ⊢; exact H)
      have hji21_ : (a2_1 / 2 ^ min (ji19).toNat 64) = ji21 := hji21
      have hji21z : (ji19) ≤ 64 → (a2_1 / 2 ^ (ji19).toNat) = ji21 := shr_small hji21
      by_cases c22 : 0 ≤ x9_1
      rotate_left
      ·rw [if_neg c22] at H
       exact absurd H (by simp)
      rw [if_pos c22] at H
      have c22b0 : decide (0 ≤ x9_1) = true := decide_eq_true c22
      clear c22
      by_cases c23 : x9_1 < (x8_1.length : Int)
      rotate_left
      ·rw [if_neg c23] at H
       exact absurd H (by simp)
      rw [if_pos c23] at H
      have c23b0 : decide (x9_1 < (x8_1.length : Int)) = true := decide_eq_true c23
      clear c23
      obtain ⟨y239, hy239⟩ : ∃ y_ : List (S74), y_ = (x8_1.set (x9_1 : Int).toNat (⟨1, Go.bits .and .i64 (ji21) 255, 0, 0, 0⟩ : S74)) := ⟨_, rfl⟩
      replace H : (if a2_0 = true then ((some (y239.set (x9_1 : Int).toNat (⟨1, 0, 0, 0, 0⟩ : S74) : List (S74))).bind fun y240 => (if a2_2 > 0 then (cellarref7_Put.l0 kj14 t235 (y240.set (x9_1 : Int).toNat (⟨2, 0, a2_2, a2_3, x9_1⟩ : S74)) (wrap64 (x9_1 + 1)) a0_0 a0_1 a2_0 a2_1 a2_2 a2_3) else (cellarref7_Put.l0 kj14 t235 y240 (wrap64 (x9_1 + 1)) a0_0 a0_1 a2_0 a2_1 a2_2 a2_3))) else (cellarref7_Put.l0 kj14 t235 y239 (wrap64 (x9_1 + 1)) a0_0 a0_1 a2_0 a2_1 a2_2 a2_3)) = some r := by first | (rw [hy239]; with_reducible exact H) | (have H2_ := (Option.bind_some _ _).symm.trans H; rw [hy239]; with_reducible exact H2_) | (have H2_ := (Option.bind_some _ _).symm.trans H; with_reducible exact H2_) | with_reducible exact H | (rw [hy239]; exact H) | exact H
      have Ny239 := Aside0.mk hy239
      clear hy239
      by_cases c25 : a2_0 = true
      rotate_left
      ·replace c25 := Bool.eq_false_iff.mpr c25
       subst c25
       have H1 : (cellarref7_Put.l0 kj14 t235 y239 (wrap64 (x9_1 + 1)) a0_0 a0_1 false a2_1 a2_2 a2_3) = some r := by rw [if_neg (show ¬ (false = true) by decide)] at H; exact H
       clear H
       have H := H1
       clear H1
       have H' := Aside0.mk H
       clear H
       have hnb47 := NB234_233.out
       have hnc47 := NB233_234.out
       have hcz48_0 := zc BK234.out 0
       have hcz48_1 := zc BK234.out 1
       have hcz48_2 := zc BK234.out 2
       have hcz48_3 := zc BK234.out 3
       have hfz48_0 := blk_frozen BK234.out 0
       have hfz48_1 := blk_frozen BK234.out 1
       have hfz48_2 := blk_frozen BK234.out 2
       have hfz48_3 := blk_frozen BK234.out 3
       have p24 : 0 ≤ (x9_1 : Int) := zdec
       have q24 : (x9_1 : Int) < ((x8_1.length : Int) : Int) := zdec
       obtain ⟨go24, co24, eo24, gb24, gl24, cl24, HG24⟩ := Kd.R_form HO_8.out (by omega)
       (first | cases eo24 | (injection eo24 with ea_ en_ ec_; (first | subst ea_ | (injection ea_ with ea_; subst ea_)); subst ec_; clear en_))
       have GB24 := Aside0.mk gb24
       have GG24 := Aside0.mk HG24
       clear gb24 gl24 HG24
       obtain ⟨ce24, hcl24, hM24, hcc24, hfr24⟩ := Kd.R_elem HO_8.out z74 (x9_1 : Int) p24 q24
       obtain rfl := k74_openM hM24
       have hx24_0 : wc.cell? ⟨go24, (x9_1 : Int).toNat * 5, none⟩ = some (.int .i64 ((rd_T74 x8_1 x9_1).f0)) := hcc24 0 _ rfl
       have hx24_1 : wc.cell? ⟨go24, (x9_1 : Int).toNat * 5 + 1, none⟩ = some (.int .i64 ((rd_T74 x8_1 x9_1).f1)) := hcc24 1 _ rfl
       have hx24_2 : wc.cell? ⟨go24, (x9_1 : Int).toNat * 5 + 2, none⟩ = some (.int .i64 ((rd_T74 x8_1 x9_1).f2)) := hcc24 2 _ rfl
       have hx24_3 : wc.cell? ⟨go24, (x9_1 : Int).toNat * 5 + 3, none⟩ = some (.int .i64 ((rd_T74 x8_1 x9_1).f3)) := hcc24 3 _ rfl
       have hx24_4 : wc.cell? ⟨go24, (x9_1 : Int).toNat * 5 + 4, none⟩ = some (.int .i64 ((rd_T74 x8_1 x9_1).f4)) := hcc24 4 _ rfl
       have hf24_0 : wc.frozen? ⟨go24, (x9_1 : Int).toNat * 5, none⟩ = false := hfr24 0
       have hf24_1 : wc.frozen? ⟨go24, (x9_1 : Int).toNat * 5 + 1, none⟩ = false := hfr24 1
       have hf24_2 : wc.frozen? ⟨go24, (x9_1 : Int).toNat * 5 + 2, none⟩ = false := hfr24 2
       have hf24_3 : wc.frozen? ⟨go24, (x9_1 : Int).toNat * 5 + 3, none⟩ = false := hfr24 3
       have hf24_4 : wc.frozen? ⟨go24, (x9_1 : Int).toNat * 5 + 4, none⟩ = false := hfr24 4
       clear hcl24 hcc24 hfr24 hM24
       replace p24 := eq_true p24
       replace q24 := eq_true q24
       have HX49 := Aside0.mk (show Kd.R k74 74 wc w.heap.size (fun _ => True) (.slice (some ⟨go24, 0, none⟩) x8_1.length co24) x8_1 from (by (with_reducible repeat (first | apply Kd.R_alloc | apply Kd.R_drewN | apply Kd.R_drew)); exact HO_8.out))
       obtain ⟨ce49, hcl49, hM49, hcc49, hfr49⟩ := Kd.R_elem HX49.out z74 (x9_1 : Int) (zdec) (by have h_ : (x9_1 : Int) < ((x8_1.length : Int) : Int) := zdec; first | exact h_ | (have e_ := (Kd.R_reads' HO_8.out).1; omega) | simpa using h_)
       obtain rfl := k74_openM hM49
       have HP49 := Kd.R_seg HX49.out (x9_1 : Int) (zdec) (by have h_ : (x9_1 : Int) < ((x8_1.length : Int) : Int) := zdec; first | exact h_ | (have e_ := (Kd.R_reads' HO_8.out).1; omega) | simpa using h_) (seg := [.int .i64 1, .int .i64 (Go.bits .and .i64 (ji21) 255), .int .i64 0, .int .i64 0, .int .i64 0]) (j := 0) hcl49 hcc49 (show 5 ≤ 5 from by decide) (x' := (⟨1, Go.bits .and .i64 (ji21) 255, 0, 0, 0⟩ : S74)) (k74_mkM _ _ _ (⟨1, Go.bits .and .i64 (ji21) 255, 0, 0, 0⟩ : S74) ) (fun _ hk => hk)
       have hx49_0 := hcc49 0 _ rfl
       (try simp only [show (k74).sz = 5 from rfl, Nat.mul_one, Nat.add_zero] at hx49_0)
       have hf49_0 := hfr49 0
       (try simp only [show (k74).sz = 5 from rfl, Nat.mul_one, Nat.add_zero] at hf49_0)
       have hx49_1 := hcc49 1 _ rfl
       (try simp only [show (k74).sz = 5 from rfl, Nat.mul_one, Nat.add_zero] at hx49_1)
       have hf49_1 := hfr49 1
       (try simp only [show (k74).sz = 5 from rfl, Nat.mul_one, Nat.add_zero] at hf49_1)
       have hx49_2 := hcc49 2 _ rfl
       (try simp only [show (k74).sz = 5 from rfl, Nat.mul_one, Nat.add_zero] at hx49_2)
       have hf49_2 := hfr49 2
       (try simp only [show (k74).sz = 5 from rfl, Nat.mul_one, Nat.add_zero] at hf49_2)
       have hx49_3 := hcc49 3 _ rfl
       (try simp only [show (k74).sz = 5 from rfl, Nat.mul_one, Nat.add_zero] at hx49_3)
       have hf49_3 := hfr49 3
       (try simp only [show (k74).sz = 5 from rfl, Nat.mul_one, Nat.add_zero] at hf49_3)
       have hx49_4 := hcc49 4 _ rfl
       (try simp only [show (k74).sz = 5 from rfl, Nat.mul_one, Nat.add_zero] at hx49_4)
       have hf49_4 := hfr49 4
       (try simp only [show (k74).sz = 5 from rfl, Nat.mul_one, Nat.add_zero] at hf49_4)
       clear hcl49 hcc49 hfr49 hM49
       go_wp2_with (first | ((with_reducible refine gate_store (t := 74) (p := 37) rfl ?_); refine store_event (t := 74) (p := 37) (v := ?vo_w50) (w1 := (((((wc.setCell ⟨go24, (x9_1 : Int).toNat * 5, none⟩ (.int .i64 1)).setCell ⟨go24, (x9_1 : Int).toNat * 5 + 1, none⟩ (.int .i64 (Go.bits .and .i64 (ji21) 255))).setCell ⟨go24, (x9_1 : Int).toNat * 5 + 2, none⟩ (.int .i64 0)).setCell ⟨go24, (x9_1 : Int).toNat * 5 + 3, none⟩ (.int .i64 0)).setCell ⟨go24, (x9_1 : Int).toNat * 5 + 4, none⟩ (.int .i64 0))) ?hg ?ho ?hn ?hr ?_; (case ho => rfl); (case hg => rfl); (case hn => rfl); (case hr => first | (go_simp; done) | (go_simp; rfl)); intro w50 hw; have hg : wc.grownBy w50 (some go24) := (by rw [hw]; exact HP49.2); have hp_ : Kd.R k74 74 w50 w.heap.size (fun _ => True) (.slice (some ⟨go24, 0, none⟩) x8_1.length co24) y239 := (by rw [hw, Ny239.out]; exact HP49.1); clear HP49; have n0_ := Aside0.mk (hp_); have n1_ := Aside0.mk (blk_grown (g := gb233) (o := .cells #[.bool a0_0, .int .i64 a0_1] 29 (0, 0)) (zb BK233.out) hg (Kd.R_ne HO_8.out BK233.out (by decide))); have n2_ := Aside0.mk (blk_grown (g := gb234) (o := .cells #[.bool false, .int .i64 a2_1, .int .i64 a2_2, .int .i64 a2_3] 62 (0, 0)) (zb BK234.out) hg (Kd.R_ne HO_8.out BK234.out (by decide))); have n3_ := Aside0.mk ((by rw [hw]; exact below_set (below_set (below_set (below_set (below_set (HB.out) GB24.out) GB24.out) GB24.out) GB24.out) GB24.out : Below w.heap.size w w50)); clear HO_8 BK233 BK234 HB; have HO_8 := n0_; have BK233 := n1_; have BK234 := n2_; have HB := n3_; clear n0_ n1_ n2_ n3_; clear hg hw hp_; have hcz51_0 := zc BK234.out 0; have hcz51_1 := zc BK234.out 1; have hcz51_2 := zc BK234.out 2; have hcz51_3 := zc BK234.out 3; have hfz51_0 := blk_frozen BK234.out 0; have hfz51_1 := blk_frozen BK234.out 1; have hfz51_2 := blk_frozen BK234.out 2; have hfz51_3 := blk_frozen BK234.out 3))
       go_roundg kj14
       case measure => have := HK1.out; have := HJ14.out; omega
       case rel => exact ⟨(y239), (wrap64 (x9_1 + 1)), (zr), H', ⟨by have := HK1.out; have := HJ14.out; omega⟩, ⟨by (with_reducible repeat (first | apply Kd.R_alloc | apply Kd.R_drewN | apply Kd.R_drew)); exact HO_8.out⟩, ⟨zb BK233.out⟩, ⟨zb BK234.out⟩, ⟨zw2 HB.out GE233.out GE234.out⟩⟩
      subst c25
      have H1 : ((some (y239.set (x9_1 : Int).toNat (⟨1, 0, 0, 0, 0⟩ : S74) : List (S74))).bind fun y240 => (if a2_2 > 0 then (cellarref7_Put.l0 kj14 t235 (y240.set (x9_1 : Int).toNat (⟨2, 0, a2_2, a2_3, x9_1⟩ : S74)) (wrap64 (x9_1 + 1)) a0_0 a0_1 true a2_1 a2_2 a2_3) else (cellarref7_Put.l0 kj14 t235 y240 (wrap64 (x9_1 + 1)) a0_0 a0_1 true a2_1 a2_2 a2_3))) = some r := by rw [if_pos rfl] at H; exact H
      clear H
      have H := H1
      clear H1
      obtain ⟨y240, hy240⟩ : ∃ y_ : List (S74), y_ = (y239.set (x9_1 : Int).toNat (⟨1, 0, 0, 0, 0⟩ : S74)) := ⟨_, rfl⟩
      replace H : (if a2_2 > 0 then (cellarref7_Put.l0 kj14 t235 (y240.set (x9_1 : Int).toNat (⟨2, 0, a2_2, a2_3, x9_1⟩ : S74)) (wrap64 (x9_1 + 1)) a0_0 a0_1 true a2_1 a2_2 a2_3) else (cellarref7_Put.l0 kj14 t235 y240 (wrap64 (x9_1 + 1)) a0_0 a0_1 true a2_1 a2_2 a2_3)) = some r := by first | (rw [hy240]; with_reducible exact H) | (have H2_ := (Option.bind_some _ _).symm.trans H; rw [hy240]; with_reducible exact H2_) | (have H2_ := (Option.bind_some _ _).symm.trans H; with_reducible exact H2_) | with_reducible exact H | (rw [hy240]; exact H) | exact H
      have Ny240 := Aside0.mk hy240
      clear hy240
      by_cases c27 : a2_2 > 0
      rotate_left
      ·rw [if_neg c27] at H
       have c27b0 : decide (0 < a2_2) = false := decide_eq_false c27
       clear c27
       have H' := Aside0.mk H
       clear H
       have hnb39 := NB234_233.out
       have hnc39 := NB233_234.out
       have hcz40_0 := zc BK234.out 0
       have hcz40_1 := zc BK234.out 1
       have hcz40_2 := zc BK234.out 2
       have hcz40_3 := zc BK234.out 3
       have hfz40_0 := blk_frozen BK234.out 0
       have hfz40_1 := blk_frozen BK234.out 1
       have hfz40_2 := blk_frozen BK234.out 2
       have hfz40_3 := blk_frozen BK234.out 3
       have p24 : 0 ≤ (x9_1 : Int) := zdec
       have q24 : (x9_1 : Int) < ((x8_1.length : Int) : Int) := zdec
       obtain ⟨go24, co24, eo24, gb24, gl24, cl24, HG24⟩ := Kd.R_form HO_8.out (by omega)
       (first | cases eo24 | (injection eo24 with ea_ en_ ec_; (first | subst ea_ | (injection ea_ with ea_; subst ea_)); subst ec_; clear en_))
       have GB24 := Aside0.mk gb24
       have GG24 := Aside0.mk HG24
       clear gb24 gl24 HG24
       obtain ⟨ce24, hcl24, hM24, hcc24, hfr24⟩ := Kd.R_elem HO_8.out z74 (x9_1 : Int) p24 q24
       obtain rfl := k74_openM hM24
       have hx24_0 : wc.cell? ⟨go24, (x9_1 : Int).toNat * 5, none⟩ = some (.int .i64 ((rd_T74 x8_1 x9_1).f0)) := hcc24 0 _ rfl
       have hx24_1 : wc.cell? ⟨go24, (x9_1 : Int).toNat * 5 + 1, none⟩ = some (.int .i64 ((rd_T74 x8_1 x9_1).f1)) := hcc24 1 _ rfl
       have hx24_2 : wc.cell? ⟨go24, (x9_1 : Int).toNat * 5 + 2, none⟩ = some (.int .i64 ((rd_T74 x8_1 x9_1).f2)) := hcc24 2 _ rfl
       have hx24_3 : wc.cell? ⟨go24, (x9_1 : Int).toNat * 5 + 3, none⟩ = some (.int .i64 ((rd_T74 x8_1 x9_1).f3)) := hcc24 3 _ rfl
       have hx24_4 : wc.cell? ⟨go24, (x9_1 : Int).toNat * 5 + 4, none⟩ = some (.int .i64 ((rd_T74 x8_1 x9_1).f4)) := hcc24 4 _ rfl
       have hf24_0 : wc.frozen? ⟨go24, (x9_1 : Int).toNat * 5, none⟩ = false := hfr24 0
       have hf24_1 : wc.frozen? ⟨go24, (x9_1 : Int).toNat * 5 + 1, none⟩ = false := hfr24 1
       have hf24_2 : wc.frozen? ⟨go24, (x9_1 : Int).toNat * 5 + 2, none⟩ = false := hfr24 2
       have hf24_3 : wc.frozen? ⟨go24, (x9_1 : Int).toNat * 5 + 3, none⟩ = false := hfr24 3
       have hf24_4 : wc.frozen? ⟨go24, (x9_1 : Int).toNat * 5 + 4, none⟩ = false := hfr24 4
       clear hcl24 hcc24 hfr24 hM24
       replace p24 := eq_true p24
       replace q24 := eq_true q24
       have HX41 := Aside0.mk (show Kd.R k74 74 wc w.heap.size (fun _ => True) (.slice (some ⟨go24, 0, none⟩) x8_1.length co24) x8_1 from (by (with_reducible repeat (first | apply Kd.R_alloc | apply Kd.R_drewN | apply Kd.R_drew)); exact HO_8.out))
       obtain ⟨ce41, hcl41, hM41, hcc41, hfr41⟩ := Kd.R_elem HX41.out z74 (x9_1 : Int) (zdec) (by have h_ : (x9_1 : Int) < ((x8_1.length : Int) : Int) := zdec; first | exact h_ | (have e_ := (Kd.R_reads' HO_8.out).1; omega) | simpa using h_)
       obtain rfl := k74_openM hM41
       have HP41 := Kd.R_seg HX41.out (x9_1 : Int) (zdec) (by have h_ : (x9_1 : Int) < ((x8_1.length : Int) : Int) := zdec; first | exact h_ | (have e_ := (Kd.R_reads' HO_8.out).1; omega) | simpa using h_) (seg := [.int .i64 1, .int .i64 (Go.bits .and .i64 (ji21) 255), .int .i64 0, .int .i64 0, .int .i64 0]) (j := 0) hcl41 hcc41 (show 5 ≤ 5 from by decide) (x' := (⟨1, Go.bits .and .i64 (ji21) 255, 0, 0, 0⟩ : S74)) (k74_mkM _ _ _ (⟨1, Go.bits .and .i64 (ji21) 255, 0, 0, 0⟩ : S74) ) (fun _ hk => hk)
       have hx41_0 := hcc41 0 _ rfl
       (try simp only [show (k74).sz = 5 from rfl, Nat.mul_one, Nat.add_zero] at hx41_0)
       have hf41_0 := hfr41 0
       (try simp only [show (k74).sz = 5 from rfl, Nat.mul_one, Nat.add_zero] at hf41_0)
       have hx41_1 := hcc41 1 _ rfl
       (try simp only [show (k74).sz = 5 from rfl, Nat.mul_one, Nat.add_zero] at hx41_1)
       have hf41_1 := hfr41 1
       (try simp only [show (k74).sz = 5 from rfl, Nat.mul_one, Nat.add_zero] at hf41_1)
       have hx41_2 := hcc41 2 _ rfl
       (try simp only [show (k74).sz = 5 from rfl, Nat.mul_one, Nat.add_zero] at hx41_2)
       have hf41_2 := hfr41 2
       (try simp only [show (k74).sz = 5 from rfl, Nat.mul_one, Nat.add_zero] at hf41_2)
       have hx41_3 := hcc41 3 _ rfl
       (try simp only [show (k74).sz = 5 from rfl, Nat.mul_one, Nat.add_zero] at hx41_3)
       have hf41_3 := hfr41 3
       (try simp only [show (k74).sz = 5 from rfl, Nat.mul_one, Nat.add_zero] at hf41_3)
       have hx41_4 := hcc41 4 _ rfl
       (try simp only [show (k74).sz = 5 from rfl, Nat.mul_one, Nat.add_zero] at hx41_4)
       have hf41_4 := hfr41 4
       (try simp only [show (k74).sz = 5 from rfl, Nat.mul_one, Nat.add_zero] at hf41_4)
       clear hcl41 hcc41 hfr41 hM41
       go_wp2_with (first | ((with_reducible refine gate_store (t := 74) (p := 37) rfl ?_); refine store_event (t := 74) (p := 37) (v := ?vo_w42) (w1 := (((((wc.setCell ⟨go24, (x9_1 : Int).toNat * 5, none⟩ (.int .i64 1)).setCell ⟨go24, (x9_1 : Int).toNat * 5 + 1, none⟩ (.int .i64 (Go.bits .and .i64 (ji21) 255))).setCell ⟨go24, (x9_1 : Int).toNat * 5 + 2, none⟩ (.int .i64 0)).setCell ⟨go24, (x9_1 : Int).toNat * 5 + 3, none⟩ (.int .i64 0)).setCell ⟨go24, (x9_1 : Int).toNat * 5 + 4, none⟩ (.int .i64 0))) ?hg ?ho ?hn ?hr ?_; (case ho => rfl); (case hg => rfl); (case hn => rfl); (case hr => first | (go_simp; done) | (go_simp; rfl)); intro w42 hw; have hg : wc.grownBy w42 (some go24) := (by rw [hw]; exact HP41.2); have hp_ : Kd.R k74 74 w42 w.heap.size (fun _ => True) (.slice (some ⟨go24, 0, none⟩) x8_1.length co24) y239 := (by rw [hw, Ny239.out]; exact HP41.1); clear HP41; have n0_ := Aside0.mk (hp_); have n1_ := Aside0.mk (blk_grown (g := gb233) (o := .cells #[.bool a0_0, .int .i64 a0_1] 29 (0, 0)) (zb BK233.out) hg (Kd.R_ne HO_8.out BK233.out (by decide))); have n2_ := Aside0.mk (blk_grown (g := gb234) (o := .cells #[.bool true, .int .i64 a2_1, .int .i64 a2_2, .int .i64 a2_3] 62 (0, 0)) (zb BK234.out) hg (Kd.R_ne HO_8.out BK234.out (by decide))); have n3_ := Aside0.mk ((by rw [hw]; exact below_set (below_set (below_set (below_set (below_set (HB.out) GB24.out) GB24.out) GB24.out) GB24.out) GB24.out : Below w.heap.size w w42)); clear HO_8 BK233 BK234 HB; have HO_8 := n0_; have BK233 := n1_; have BK234 := n2_; have HB := n3_; clear n0_ n1_ n2_ n3_; clear hg hw hp_; have hcz43_0 := zc BK234.out 0; have hcz43_1 := zc BK234.out 1; have hcz43_2 := zc BK234.out 2; have hcz43_3 := zc BK234.out 3; have hfz43_0 := blk_frozen BK234.out 0; have hfz43_1 := blk_frozen BK234.out 1; have hfz43_2 := blk_frozen BK234.out 2; have hfz43_3 := blk_frozen BK234.out 3; have p26 : 0 ≤ (x9_1 : Int) := zdec; have q26 : (x9_1 : Int) < ((x8_1.length : Int) : Int) := zdec; obtain ⟨ce26, hcl26, hM26, hcc26, hfr26⟩ := Kd.R_elem HO_8.out z74 (x9_1 : Int) p26 q26; obtain rfl := k74_openM hM26; have hx26_0 : w42.cell? ⟨go24, (x9_1 : Int).toNat * 5, none⟩ = some (.int .i64 ((rd_T74 y239 x9_1).f0)) := hcc26 0 _ rfl; have hx26_1 : w42.cell? ⟨go24, (x9_1 : Int).toNat * 5 + 1, none⟩ = some (.int .i64 ((rd_T74 y239 x9_1).f1)) := hcc26 1 _ rfl; have hx26_2 : w42.cell? ⟨go24, (x9_1 : Int).toNat * 5 + 2, none⟩ = some (.int .i64 ((rd_T74 y239 x9_1).f2)) := hcc26 2 _ rfl; have hx26_3 : w42.cell? ⟨go24, (x9_1 : Int).toNat * 5 + 3, none⟩ = some (.int .i64 ((rd_T74 y239 x9_1).f3)) := hcc26 3 _ rfl; have hx26_4 : w42.cell? ⟨go24, (x9_1 : Int).toNat * 5 + 4, none⟩ = some (.int .i64 ((rd_T74 y239 x9_1).f4)) := hcc26 4 _ rfl; have hf26_0 : w42.frozen? ⟨go24, (x9_1 : Int).toNat * 5, none⟩ = false := hfr26 0; have hf26_1 : w42.frozen? ⟨go24, (x9_1 : Int).toNat * 5 + 1, none⟩ = false := hfr26 1; have hf26_2 : w42.frozen? ⟨go24, (x9_1 : Int).toNat * 5 + 2, none⟩ = false := hfr26 2; have hf26_3 : w42.frozen? ⟨go24, (x9_1 : Int).toNat * 5 + 3, none⟩ = false := hfr26 3; have hf26_4 : w42.frozen? ⟨go24, (x9_1 : Int).toNat * 5 + 4, none⟩ = false := hfr26 4; clear hcl26 hcc26 hfr26 hM26; replace p26 := eq_true p26; replace q26 := eq_true q26; have HX44 := Aside0.mk (show Kd.R k74 74 w42 w.heap.size (fun _ => True) (.slice (some ⟨go24, 0, none⟩) x8_1.length co24) y239 from (by (with_reducible repeat (first | apply Kd.R_alloc | apply Kd.R_drewN | apply Kd.R_drew)); exact HO_8.out)); obtain ⟨ce44, hcl44, hM44, hcc44, hfr44⟩ := Kd.R_elem HX44.out z74 (x9_1 : Int) (zdec) (by have h_ : (x9_1 : Int) < ((x8_1.length : Int) : Int) := zdec; first | exact h_ | (have e_ := (Kd.R_reads' HO_8.out).1; omega) | simpa using h_); obtain rfl := k74_openM hM44; have HP44 := Kd.R_seg HX44.out (x9_1 : Int) (zdec) (by have h_ : (x9_1 : Int) < ((x8_1.length : Int) : Int) := zdec; first | exact h_ | (have e_ := (Kd.R_reads' HO_8.out).1; omega) | simpa using h_) (seg := [.int .i64 1, .int .i64 0, .int .i64 0, .int .i64 0, .int .i64 0]) (j := 0) hcl44 hcc44 (show 5 ≤ 5 from by decide) (x' := (⟨1, 0, 0, 0, 0⟩ : S74)) (k74_mkM _ _ _ (⟨1, 0, 0, 0, 0⟩ : S74) ) (fun _ hk => hk); have hx44_0 := hcc44 0 _ rfl; (try simp only [show (k74).sz = 5 from rfl, Nat.mul_one, Nat.add_zero] at hx44_0); have hf44_0 := hfr44 0; (try simp only [show (k74).sz = 5 from rfl, Nat.mul_one, Nat.add_zero] at hf44_0); have hx44_1 := hcc44 1 _ rfl; (try simp only [show (k74).sz = 5 from rfl, Nat.mul_one, Nat.add_zero] at hx44_1); have hf44_1 := hfr44 1; (try simp only [show (k74).sz = 5 from rfl, Nat.mul_one, Nat.add_zero] at hf44_1); have hx44_2 := hcc44 2 _ rfl; (try simp only [show (k74).sz = 5 from rfl, Nat.mul_one, Nat.add_zero] at hx44_2); have hf44_2 := hfr44 2; (try simp only [show (k74).sz = 5 from rfl, Nat.mul_one, Nat.add_zero] at hf44_2); have hx44_3 := hcc44 3 _ rfl; (try simp only [show (k74).sz = 5 from rfl, Nat.mul_one, Nat.add_zero] at hx44_3); have hf44_3 := hfr44 3; (try simp only [show (k74).sz = 5 from rfl, Nat.mul_one, Nat.add_zero] at hf44_3); have hx44_4 := hcc44 4 _ rfl; (try simp only [show (k74).sz = 5 from rfl, Nat.mul_one, Nat.add_zero] at hx44_4); have hf44_4 := hfr44 4; (try simp only [show (k74).sz = 5 from rfl, Nat.mul_one, Nat.add_zero] at hf44_4); clear hcl44 hcc44 hfr44 hM44) | ((with_reducible refine gate_store (t := 74) (p := 43) rfl ?_); refine store_event (t := 74) (p := 43) (v := ?vo_w45) (w1 := (((((w42.setCell ⟨go24, (x9_1 : Int).toNat * 5, none⟩ (.int .i64 1)).setCell ⟨go24, (x9_1 : Int).toNat * 5 + 1, none⟩ (.int .i64 0)).setCell ⟨go24, (x9_1 : Int).toNat * 5 + 2, none⟩ (.int .i64 0)).setCell ⟨go24, (x9_1 : Int).toNat * 5 + 3, none⟩ (.int .i64 0)).setCell ⟨go24, (x9_1 : Int).toNat * 5 + 4, none⟩ (.int .i64 0))) ?hg ?ho ?hn ?hr ?_; (case ho => rfl); (case hg => rfl); (case hn => rfl); (case hr => first | (go_simp; done) | (go_simp; rfl)); intro w45 hw; have hg : w42.grownBy w45 (some go24) := (by rw [hw]; exact HP44.2); have hp_ : Kd.R k74 74 w45 w.heap.size (fun _ => True) (.slice (some ⟨go24, 0, none⟩) x8_1.length co24) y240 := (by rw [hw, Ny240.out]; exact HP44.1); clear HP44; have n0_ := Aside0.mk (hp_); have n1_ := Aside0.mk (blk_grown (g := gb233) (o := .cells #[.bool a0_0, .int .i64 a0_1] 29 (0, 0)) (zb BK233.out) hg (Kd.R_ne HO_8.out BK233.out (by decide))); have n2_ := Aside0.mk (blk_grown (g := gb234) (o := .cells #[.bool true, .int .i64 a2_1, .int .i64 a2_2, .int .i64 a2_3] 62 (0, 0)) (zb BK234.out) hg (Kd.R_ne HO_8.out BK234.out (by decide))); have n3_ := Aside0.mk ((by rw [hw]; exact below_set (below_set (below_set (below_set (below_set (HB.out) GB24.out) GB24.out) GB24.out) GB24.out) GB24.out : Below w.heap.size w w45)); clear HO_8 BK233 BK234 HB; have HO_8 := n0_; have BK233 := n1_; have BK234 := n2_; have HB := n3_; clear n0_ n1_ n2_ n3_; clear hg hw hp_; have hcz46_0 := zc BK234.out 0; have hcz46_1 := zc BK234.out 1; have hcz46_2 := zc BK234.out 2; have hcz46_3 := zc BK234.out 3; have hfz46_0 := blk_frozen BK234.out 0; have hfz46_1 := blk_frozen BK234.out 1; have hfz46_2 := blk_frozen BK234.out 2; have hfz46_3 := blk_frozen BK234.out 3))
       go_roundg kj14
       case measure => have := HK1.out; have := HJ14.out; omega
       case rel => exact ⟨(y240), (wrap64 (x9_1 + 1)), (zr), H', ⟨by have := HK1.out; have := HJ14.out; omega⟩, ⟨by (with_reducible repeat (first | apply Kd.R_alloc | apply Kd.R_drewN | apply Kd.R_drew)); exact HO_8.out⟩, ⟨zb BK233.out⟩, ⟨zb BK234.out⟩, ⟨zw2 HB.out GE233.out GE234.out⟩⟩
      rw [if_pos c27] at H
      have c27b0 : decide (0 < a2_2) = true := decide_eq_true c27
      clear c27
      obtain ⟨y241, hy241⟩ : ∃ y_ : List (S74), y_ = (y240.set (x9_1 : Int).toNat (⟨2, 0, a2_2, a2_3, x9_1⟩ : S74)) := ⟨_, rfl⟩
      replace H : (cellarref7_Put.l0 kj14 t235 y241 (wrap64 (x9_1 + 1)) a0_0 a0_1 true a2_1 a2_2 a2_3) = some r := by first | (rw [hy241]; with_reducible exact H) | (have H2_ := (Option.bind_some _ _).symm.trans H; rw [hy241]; with_reducible exact H2_) | (have H2_ := (Option.bind_some _ _).symm.trans H; with_reducible exact H2_) | with_reducible exact H | (rw [hy241]; exact H) | exact H
      have Ny241 := Aside0.mk hy241
      clear hy241
      have H' := Aside0.mk H
      clear H
      have hnb29 := NB234_233.out
      have hnc29 := NB233_234.out
      have hcz30_0 := zc BK234.out 0
      have hcz30_1 := zc BK234.out 1
      have hcz30_2 := zc BK234.out 2
      have hcz30_3 := zc BK234.out 3
      have hfz30_0 := blk_frozen BK234.out 0
      have hfz30_1 := blk_frozen BK234.out 1
      have hfz30_2 := blk_frozen BK234.out 2
      have hfz30_3 := blk_frozen BK234.out 3
      have p24 : 0 ≤ (x9_1 : Int) := zdec
      have q24 : (x9_1 : Int) < ((x8_1.length : Int) : Int) := zdec
      obtain ⟨go24, co24, eo24, gb24, gl24, cl24, HG24⟩ := Kd.R_form HO_8.out (by omega)
      (first | cases eo24 | (injection eo24 with ea_ en_ ec_; (first | subst ea_ | (injection ea_ with ea_; subst ea_)); subst ec_; clear en_))
      have GB24 := Aside0.mk gb24
      have GG24 := Aside0.mk HG24
      clear gb24 gl24 HG24
      obtain ⟨ce24, hcl24, hM24, hcc24, hfr24⟩ := Kd.R_elem HO_8.out z74 (x9_1 : Int) p24 q24
      obtain rfl := k74_openM hM24
      have hx24_0 : wc.cell? ⟨go24, (x9_1 : Int).toNat * 5, none⟩ = some (.int .i64 ((rd_T74 x8_1 x9_1).f0)) := hcc24 0 _ rfl
      have hx24_1 : wc.cell? ⟨go24, (x9_1 : Int).toNat * 5 + 1, none⟩ = some (.int .i64 ((rd_T74 x8_1 x9_1).f1)) := hcc24 1 _ rfl
      have hx24_2 : wc.cell? ⟨go24, (x9_1 : Int).toNat * 5 + 2, none⟩ = some (.int .i64 ((rd_T74 x8_1 x9_1).f2)) := hcc24 2 _ rfl
      have hx24_3 : wc.cell? ⟨go24, (x9_1 : Int).toNat * 5 + 3, none⟩ = some (.int .i64 ((rd_T74 x8_1 x9_1).f3)) := hcc24 3 _ rfl
      have hx24_4 : wc.cell? ⟨go24, (x9_1 : Int).toNat * 5 + 4, none⟩ = some (.int .i64 ((rd_T74 x8_1 x9_1).f4)) := hcc24 4 _ rfl
      have hf24_0 : wc.frozen? ⟨go24, (x9_1 : Int).toNat * 5, none⟩ = false := hfr24 0
      have hf24_1 : wc.frozen? ⟨go24, (x9_1 : Int).toNat * 5 + 1, none⟩ = false := hfr24 1
      have hf24_2 : wc.frozen? ⟨go24, (x9_1 : Int).toNat * 5 + 2, none⟩ = false := hfr24 2
      have hf24_3 : wc.frozen? ⟨go24, (x9_1 : Int).toNat * 5 + 3, none⟩ = false := hfr24 3
      have hf24_4 : wc.frozen? ⟨go24, (x9_1 : Int).toNat * 5 + 4, none⟩ = false := hfr24 4
      clear hcl24 hcc24 hfr24 hM24
      replace p24 := eq_true p24
      replace q24 := eq_true q24
      have HX31 := Aside0.mk (show Kd.R k74 74 wc w.heap.size (fun _ => True) (.slice (some ⟨go24, 0, none⟩) x8_1.length co24) x8_1 from (by (with_reducible repeat (first | apply Kd.R_alloc | apply Kd.R_drewN | apply Kd.R_drew)); exact HO_8.out))
      obtain ⟨ce31, hcl31, hM31, hcc31, hfr31⟩ := Kd.R_elem HX31.out z74 (x9_1 : Int) (zdec) (by have h_ : (x9_1 : Int) < ((x8_1.length : Int) : Int) := zdec; first | exact h_ | (have e_ := (Kd.R_reads' HO_8.out).1; omega) | simpa using h_)
      obtain rfl := k74_openM hM31
      have HP31 := Kd.R_seg HX31.out (x9_1 : Int) (zdec) (by have h_ : (x9_1 : Int) < ((x8_1.length : Int) : Int) := zdec; first | exact h_ | (have e_ := (Kd.R_reads' HO_8.out).1; omega) | simpa using h_) (seg := [.int .i64 1, .int .i64 (Go.bits .and .i64 (ji21) 255), .int .i64 0, .int .i64 0, .int .i64 0]) (j := 0) hcl31 hcc31 (show 5 ≤ 5 from by decide) (x' := (⟨1, Go.bits .and .i64 (ji21) 255, 0, 0, 0⟩ : S74)) (k74_mkM _ _ _ (⟨1, Go.bits .and .i64 (ji21) 255, 0, 0, 0⟩ : S74) ) (fun _ hk => hk)
      have hx31_0 := hcc31 0 _ rfl
      (try simp only [show (k74).sz = 5 from rfl, Nat.mul_one, Nat.add_zero] at hx31_0)
      have hf31_0 := hfr31 0
      (try simp only [show (k74).sz = 5 from rfl, Nat.mul_one, Nat.add_zero] at hf31_0)
      have hx31_1 := hcc31 1 _ rfl
      (try simp only [show (k74).sz = 5 from rfl, Nat.mul_one, Nat.add_zero] at hx31_1)
      have hf31_1 := hfr31 1
      (try simp only [show (k74).sz = 5 from rfl, Nat.mul_one, Nat.add_zero] at hf31_1)
      have hx31_2 := hcc31 2 _ rfl
      (try simp only [show (k74).sz = 5 from rfl, Nat.mul_one, Nat.add_zero] at hx31_2)
      have hf31_2 := hfr31 2
      (try simp only [show (k74).sz = 5 from rfl, Nat.mul_one, Nat.add_zero] at hf31_2)
      have hx31_3 := hcc31 3 _ rfl
      (try simp only [show (k74).sz = 5 from rfl, Nat.mul_one, Nat.add_zero] at hx31_3)
      have hf31_3 := hfr31 3
      (try simp only [show (k74).sz = 5 from rfl, Nat.mul_one, Nat.add_zero] at hf31_3)
      have hx31_4 := hcc31 4 _ rfl
      (try simp only [show (k74).sz = 5 from rfl, Nat.mul_one, Nat.add_zero] at hx31_4)
      have hf31_4 := hfr31 4
      (try simp only [show (k74).sz = 5 from rfl, Nat.mul_one, Nat.add_zero] at hf31_4)
      clear hcl31 hcc31 hfr31 hM31
      go_wp2_with (first | ((with_reducible refine gate_store (t := 74) (p := 37) rfl ?_); refine store_event (t := 74) (p := 37) (v := ?vo_w32) (w1 := (((((wc.setCell ⟨go24, (x9_1 : Int).toNat * 5, none⟩ (.int .i64 1)).setCell ⟨go24, (x9_1 : Int).toNat * 5 + 1, none⟩ (.int .i64 (Go.bits .and .i64 (ji21) 255))).setCell ⟨go24, (x9_1 : Int).toNat * 5 + 2, none⟩ (.int .i64 0)).setCell ⟨go24, (x9_1 : Int).toNat * 5 + 3, none⟩ (.int .i64 0)).setCell ⟨go24, (x9_1 : Int).toNat * 5 + 4, none⟩ (.int .i64 0))) ?hg ?ho ?hn ?hr ?_; (case ho => rfl); (case hg => rfl); (case hn => rfl); (case hr => first | (go_simp; done) | (go_simp; rfl)); intro w32 hw; have hg : wc.grownBy w32 (some go24) := (by rw [hw]; exact HP31.2); have hp_ : Kd.R k74 74 w32 w.heap.size (fun _ => True) (.slice (some ⟨go24, 0, none⟩) x8_1.length co24) y239 := (by rw [hw, Ny239.out]; exact HP31.1); clear HP31; have n0_ := Aside0.mk (hp_); have n1_ := Aside0.mk (blk_grown (g := gb233) (o := .cells #[.bool a0_0, .int .i64 a0_1] 29 (0, 0)) (zb BK233.out) hg (Kd.R_ne HO_8.out BK233.out (by decide))); have n2_ := Aside0.mk (blk_grown (g := gb234) (o := .cells #[.bool true, .int .i64 a2_1, .int .i64 a2_2, .int .i64 a2_3] 62 (0, 0)) (zb BK234.out) hg (Kd.R_ne HO_8.out BK234.out (by decide))); have n3_ := Aside0.mk ((by rw [hw]; exact below_set (below_set (below_set (below_set (below_set (HB.out) GB24.out) GB24.out) GB24.out) GB24.out) GB24.out : Below w.heap.size w w32)); clear HO_8 BK233 BK234 HB; have HO_8 := n0_; have BK233 := n1_; have BK234 := n2_; have HB := n3_; clear n0_ n1_ n2_ n3_; clear hg hw hp_; have hcz33_0 := zc BK234.out 0; have hcz33_1 := zc BK234.out 1; have hcz33_2 := zc BK234.out 2; have hcz33_3 := zc BK234.out 3; have hfz33_0 := blk_frozen BK234.out 0; have hfz33_1 := blk_frozen BK234.out 1; have hfz33_2 := blk_frozen BK234.out 2; have hfz33_3 := blk_frozen BK234.out 3; have p26 : 0 ≤ (x9_1 : Int) := zdec; have q26 : (x9_1 : Int) < ((x8_1.length : Int) : Int) := zdec; obtain ⟨ce26, hcl26, hM26, hcc26, hfr26⟩ := Kd.R_elem HO_8.out z74 (x9_1 : Int) p26 q26; obtain rfl := k74_openM hM26; have hx26_0 : w32.cell? ⟨go24, (x9_1 : Int).toNat * 5, none⟩ = some (.int .i64 ((rd_T74 y239 x9_1).f0)) := hcc26 0 _ rfl; have hx26_1 : w32.cell? ⟨go24, (x9_1 : Int).toNat * 5 + 1, none⟩ = some (.int .i64 ((rd_T74 y239 x9_1).f1)) := hcc26 1 _ rfl; have hx26_2 : w32.cell? ⟨go24, (x9_1 : Int).toNat * 5 + 2, none⟩ = some (.int .i64 ((rd_T74 y239 x9_1).f2)) := hcc26 2 _ rfl; have hx26_3 : w32.cell? ⟨go24, (x9_1 : Int).toNat * 5 + 3, none⟩ = some (.int .i64 ((rd_T74 y239 x9_1).f3)) := hcc26 3 _ rfl; have hx26_4 : w32.cell? ⟨go24, (x9_1 : Int).toNat * 5 + 4, none⟩ = some (.int .i64 ((rd_T74 y239 x9_1).f4)) := hcc26 4 _ rfl; have hf26_0 : w32.frozen? ⟨go24, (x9_1 : Int).toNat * 5, none⟩ = false := hfr26 0; have hf26_1 : w32.frozen? ⟨go24, (x9_1 : Int).toNat * 5 + 1, none⟩ = false := hfr26 1; have hf26_2 : w32.frozen? ⟨go24, (x9_1 : Int).toNat * 5 + 2, none⟩ = false := hfr26 2; have hf26_3 : w32.frozen? ⟨go24, (x9_1 : Int).toNat * 5 + 3, none⟩ = false := hfr26 3; have hf26_4 : w32.frozen? ⟨go24, (x9_1 : Int).toNat * 5 + 4, none⟩ = false := hfr26 4; clear hcl26 hcc26 hfr26 hM26; replace p26 := eq_true p26; replace q26 := eq_true q26; have HX34 := Aside0.mk (show Kd.R k74 74 w32 w.heap.size (fun _ => True) (.slice (some ⟨go24, 0, none⟩) x8_1.length co24) y239 from (by (with_reducible repeat (first | apply Kd.R_alloc | apply Kd.R_drewN | apply Kd.R_drew)); exact HO_8.out)); obtain ⟨ce34, hcl34, hM34, hcc34, hfr34⟩ := Kd.R_elem HX34.out z74 (x9_1 : Int) (zdec) (by have h_ : (x9_1 : Int) < ((x8_1.length : Int) : Int) := zdec; first | exact h_ | (have e_ := (Kd.R_reads' HO_8.out).1; omega) | simpa using h_); obtain rfl := k74_openM hM34; have HP34 := Kd.R_seg HX34.out (x9_1 : Int) (zdec) (by have h_ : (x9_1 : Int) < ((x8_1.length : Int) : Int) := zdec; first | exact h_ | (have e_ := (Kd.R_reads' HO_8.out).1; omega) | simpa using h_) (seg := [.int .i64 1, .int .i64 0, .int .i64 0, .int .i64 0, .int .i64 0]) (j := 0) hcl34 hcc34 (show 5 ≤ 5 from by decide) (x' := (⟨1, 0, 0, 0, 0⟩ : S74)) (k74_mkM _ _ _ (⟨1, 0, 0, 0, 0⟩ : S74) ) (fun _ hk => hk); have hx34_0 := hcc34 0 _ rfl; (try simp only [show (k74).sz = 5 from rfl, Nat.mul_one, Nat.add_zero] at hx34_0); have hf34_0 := hfr34 0; (try simp only [show (k74).sz = 5 from rfl, Nat.mul_one, Nat.add_zero] at hf34_0); have hx34_1 := hcc34 1 _ rfl; (try simp only [show (k74).sz = 5 from rfl, Nat.mul_one, Nat.add_zero] at hx34_1); have hf34_1 := hfr34 1; (try simp only [show (k74).sz = 5 from rfl, Nat.mul_one, Nat.add_zero] at hf34_1); have hx34_2 := hcc34 2 _ rfl; (try simp only [show (k74).sz = 5 from rfl, Nat.mul_one, Nat.add_zero] at hx34_2); have hf34_2 := hfr34 2; (try simp only [show (k74).sz = 5 from rfl, Nat.mul_one, Nat.add_zero] at hf34_2); have hx34_3 := hcc34 3 _ rfl; (try simp only [show (k74).sz = 5 from rfl, Nat.mul_one, Nat.add_zero] at hx34_3); have hf34_3 := hfr34 3; (try simp only [show (k74).sz = 5 from rfl, Nat.mul_one, Nat.add_zero] at hf34_3); have hx34_4 := hcc34 4 _ rfl; (try simp only [show (k74).sz = 5 from rfl, Nat.mul_one, Nat.add_zero] at hx34_4); have hf34_4 := hfr34 4; (try simp only [show (k74).sz = 5 from rfl, Nat.mul_one, Nat.add_zero] at hf34_4); clear hcl34 hcc34 hfr34 hM34) | ((with_reducible refine gate_store (t := 74) (p := 43) rfl ?_); refine store_event (t := 74) (p := 43) (v := ?vo_w35) (w1 := (((((w32.setCell ⟨go24, (x9_1 : Int).toNat * 5, none⟩ (.int .i64 1)).setCell ⟨go24, (x9_1 : Int).toNat * 5 + 1, none⟩ (.int .i64 0)).setCell ⟨go24, (x9_1 : Int).toNat * 5 + 2, none⟩ (.int .i64 0)).setCell ⟨go24, (x9_1 : Int).toNat * 5 + 3, none⟩ (.int .i64 0)).setCell ⟨go24, (x9_1 : Int).toNat * 5 + 4, none⟩ (.int .i64 0))) ?hg ?ho ?hn ?hr ?_; (case ho => rfl); (case hg => rfl); (case hn => rfl); (case hr => first | (go_simp; done) | (go_simp; rfl)); intro w35 hw; have hg : w32.grownBy w35 (some go24) := (by rw [hw]; exact HP34.2); have hp_ : Kd.R k74 74 w35 w.heap.size (fun _ => True) (.slice (some ⟨go24, 0, none⟩) x8_1.length co24) y240 := (by rw [hw, Ny240.out]; exact HP34.1); clear HP34; have n0_ := Aside0.mk (hp_); have n1_ := Aside0.mk (blk_grown (g := gb233) (o := .cells #[.bool a0_0, .int .i64 a0_1] 29 (0, 0)) (zb BK233.out) hg (Kd.R_ne HO_8.out BK233.out (by decide))); have n2_ := Aside0.mk (blk_grown (g := gb234) (o := .cells #[.bool true, .int .i64 a2_1, .int .i64 a2_2, .int .i64 a2_3] 62 (0, 0)) (zb BK234.out) hg (Kd.R_ne HO_8.out BK234.out (by decide))); have n3_ := Aside0.mk ((by rw [hw]; exact below_set (below_set (below_set (below_set (below_set (HB.out) GB24.out) GB24.out) GB24.out) GB24.out) GB24.out : Below w.heap.size w w35)); clear HO_8 BK233 BK234 HB; have HO_8 := n0_; have BK233 := n1_; have BK234 := n2_; have HB := n3_; clear n0_ n1_ n2_ n3_; clear hg hw hp_; have hcz36_0 := zc BK234.out 0; have hcz36_1 := zc BK234.out 1; have hcz36_2 := zc BK234.out 2; have hcz36_3 := zc BK234.out 3; have hfz36_0 := blk_frozen BK234.out 0; have hfz36_1 := blk_frozen BK234.out 1; have hfz36_2 := blk_frozen BK234.out 2; have hfz36_3 := blk_frozen BK234.out 3; have p28 : 0 ≤ (x9_1 : Int) := zdec; have q28 : (x9_1 : Int) < ((x8_1.length : Int) : Int) := zdec; obtain ⟨ce28, hcl28, hM28, hcc28, hfr28⟩ := Kd.R_elem HO_8.out z74 (x9_1 : Int) p28 q28; obtain rfl := k74_openM hM28; have hx28_0 : w35.cell? ⟨go24, (x9_1 : Int).toNat * 5, none⟩ = some (.int .i64 ((rd_T74 y240 x9_1).f0)) := hcc28 0 _ rfl; have hx28_1 : w35.cell? ⟨go24, (x9_1 : Int).toNat * 5 + 1, none⟩ = some (.int .i64 ((rd_T74 y240 x9_1).f1)) := hcc28 1 _ rfl; have hx28_2 : w35.cell? ⟨go24, (x9_1 : Int).toNat * 5 + 2, none⟩ = some (.int .i64 ((rd_T74 y240 x9_1).f2)) := hcc28 2 _ rfl; have hx28_3 : w35.cell? ⟨go24, (x9_1 : Int).toNat * 5 + 3, none⟩ = some (.int .i64 ((rd_T74 y240 x9_1).f3)) := hcc28 3 _ rfl; have hx28_4 : w35.cell? ⟨go24, (x9_1 : Int).toNat * 5 + 4, none⟩ = some (.int .i64 ((rd_T74 y240 x9_1).f4)) := hcc28 4 _ rfl; have hf28_0 : w35.frozen? ⟨go24, (x9_1 : Int).toNat * 5, none⟩ = false := hfr28 0; have hf28_1 : w35.frozen? ⟨go24, (x9_1 : Int).toNat * 5 + 1, none⟩ = false := hfr28 1; have hf28_2 : w35.frozen? ⟨go24, (x9_1 : Int).toNat * 5 + 2, none⟩ = false := hfr28 2; have hf28_3 : w35.frozen? ⟨go24, (x9_1 : Int).toNat * 5 + 3, none⟩ = false := hfr28 3; have hf28_4 : w35.frozen? ⟨go24, (x9_1 : Int).toNat * 5 + 4, none⟩ = false := hfr28 4; clear hcl28 hcc28 hfr28 hM28; replace p28 := eq_true p28; replace q28 := eq_true q28; have HX37 := Aside0.mk (show Kd.R k74 74 w35 w.heap.size (fun _ => True) (.slice (some ⟨go24, 0, none⟩) x8_1.length co24) y240 from (by (with_reducible repeat (first | apply Kd.R_alloc | apply Kd.R_drewN | apply Kd.R_drew)); exact HO_8.out)); obtain ⟨ce37, hcl37, hM37, hcc37, hfr37⟩ := Kd.R_elem HX37.out z74 (x9_1 : Int) (zdec) (by have h_ : (x9_1 : Int) < ((x8_1.length : Int) : Int) := zdec; first | exact h_ | (have e_ := (Kd.R_reads' HO_8.out).1; omega) | simpa using h_); obtain rfl := k74_openM hM37; have HP37 := Kd.R_seg HX37.out (x9_1 : Int) (zdec) (by have h_ : (x9_1 : Int) < ((x8_1.length : Int) : Int) := zdec; first | exact h_ | (have e_ := (Kd.R_reads' HO_8.out).1; omega) | simpa using h_) (seg := [.int .i64 2, .int .i64 0, .int .i64 a2_2, .int .i64 a2_3, .int .i64 x9_1]) (j := 0) hcl37 hcc37 (show 5 ≤ 5 from by decide) (x' := (⟨2, 0, a2_2, a2_3, x9_1⟩ : S74)) (k74_mkM _ _ _ (⟨2, 0, a2_2, a2_3, x9_1⟩ : S74) ) (fun _ hk => hk); have hx37_0 := hcc37 0 _ rfl; (try simp only [show (k74).sz = 5 from rfl, Nat.mul_one, Nat.add_zero] at hx37_0); have hf37_0 := hfr37 0; (try simp only [show (k74).sz = 5 from rfl, Nat.mul_one, Nat.add_zero] at hf37_0); have hx37_1 := hcc37 1 _ rfl; (try simp only [show (k74).sz = 5 from rfl, Nat.mul_one, Nat.add_zero] at hx37_1); have hf37_1 := hfr37 1; (try simp only [show (k74).sz = 5 from rfl, Nat.mul_one, Nat.add_zero] at hf37_1); have hx37_2 := hcc37 2 _ rfl; (try simp only [show (k74).sz = 5 from rfl, Nat.mul_one, Nat.add_zero] at hx37_2); have hf37_2 := hfr37 2; (try simp only [show (k74).sz = 5 from rfl, Nat.mul_one, Nat.add_zero] at hf37_2); have hx37_3 := hcc37 3 _ rfl; (try simp only [show (k74).sz = 5 from rfl, Nat.mul_one, Nat.add_zero] at hx37_3); have hf37_3 := hfr37 3; (try simp only [show (k74).sz = 5 from rfl, Nat.mul_one, Nat.add_zero] at hf37_3); have hx37_4 := hcc37 4 _ rfl; (try simp only [show (k74).sz = 5 from rfl, Nat.mul_one, Nat.add_zero] at hx37_4); have hf37_4 := hfr37 4; (try simp only [show (k74).sz = 5 from rfl, Nat.mul_one, Nat.add_zero] at hf37_4); clear hcl37 hcc37 hfr37 hM37) | ((with_reducible refine gate_store (t := 74) (p := 55) rfl ?_); refine store_event (t := 74) (p := 55) (v := ?vo_w38) (w1 := (((((w35.setCell ⟨go24, (x9_1 : Int).toNat * 5, none⟩ (.int .i64 2)).setCell ⟨go24, (x9_1 : Int).toNat * 5 + 1, none⟩ (.int .i64 0)).setCell ⟨go24, (x9_1 : Int).toNat * 5 + 2, none⟩ (.int .i64 a2_2)).setCell ⟨go24, (x9_1 : Int).toNat * 5 + 3, none⟩ (.int .i64 a2_3)).setCell ⟨go24, (x9_1 : Int).toNat * 5 + 4, none⟩ (.int .i64 x9_1))) ?hg ?ho ?hn ?hr ?_; (case ho => rfl); (case hg => rfl); (case hn => rfl); (case hr => first | (go_simp; done) | (go_simp; rfl)); intro w38 hw; have hg : w35.grownBy w38 (some go24) := (by rw [hw]; exact HP37.2); have hp_ : Kd.R k74 74 w38 w.heap.size (fun _ => True) (.slice (some ⟨go24, 0, none⟩) x8_1.length co24) y241 := (by rw [hw, Ny241.out]; exact HP37.1); clear HP37; have n0_ := Aside0.mk (hp_); have n1_ := Aside0.mk (blk_grown (g := gb233) (o := .cells #[.bool a0_0, .int .i64 a0_1] 29 (0, 0)) (zb BK233.out) hg (Kd.R_ne HO_8.out BK233.out (by decide))); have n2_ := Aside0.mk (blk_grown (g := gb234) (o := .cells #[.bool true, .int .i64 a2_1, .int .i64 a2_2, .int .i64 a2_3] 62 (0, 0)) (zb BK234.out) hg (Kd.R_ne HO_8.out BK234.out (by decide))); have n3_ := Aside0.mk ((by rw [hw]; exact below_set (below_set (below_set (below_set (below_set (HB.out) GB24.out) GB24.out) GB24.out) GB24.out) GB24.out : Below w.heap.size w w38)); clear HO_8 BK233 BK234 HB; have HO_8 := n0_; have BK233 := n1_; have BK234 := n2_; have HB := n3_; clear n0_ n1_ n2_ n3_; clear hg hw hp_))
      go_roundg kj14
      case measure => have := HK1.out; have := HJ14.out; omega
      case rel => exact ⟨(y241), (wrap64 (x9_1 + 1)), (zr), H', ⟨by have := HK1.out; have := HJ14.out; omega⟩, ⟨by (with_reducible repeat (first | apply Kd.R_alloc | apply Kd.R_drewN | apply Kd.R_drew)); exact HO_8.out⟩, ⟨zb BK233.out⟩, ⟨zb BK234.out⟩, ⟨zw2 HB.out GE233.out GE234.out⟩⟩
 ·rw [if_neg c5] at H
  exact absurd H (by simp)

end Go.Proofs.Ytjoplkillkhiaaa.St
