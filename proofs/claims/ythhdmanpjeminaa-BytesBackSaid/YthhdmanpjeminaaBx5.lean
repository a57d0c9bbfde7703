-- Written by this session's own edition of the print.
import Derived.Test.YthhdmanpjeminaaBx0
import Derived.Test.YthhdmanpjeminaaBx3
import Derived.Test.YthhdmanpjeminaaBx4
import Derived.Test.YthhdmanpjeminaaUSq
import Derived.Test.YthhdmanpjeminaaUSq2
namespace Go.Proofs.Ythhdmanpjeminaa.B
open Go.RowKit Go.Proofs.Ythhdmanpjeminaa.Fn Go.Proofs.YthhdmanpjeminaaW.PrintWords Go.Proofs.YthhdmanpjeminaaW.PrintLast Go.Proofs.YthhdmanpjeminaaW.PrintMore
attribute [local go_sem] max2_int min2_int max_two min_two max_three min_three max_four min_four   -- for this text's walks alone
set_option linter.unusedVariables false
set_option linter.unusedSimpArgs false

/-! bytes_Read -/
mutual
def bytes_Read.l0 : Nat → List (S51) → Int → Int → Int → Bool → Int → Option (Bool × Int × Int × Int × Int)
 | 0, _, _, _, _, _, _ => none
 | k + 1, x2, x8, x27, x28, x119000, x119001 => if x28 < x27 then (if 0 ≤ (wrap64 ((wrap64 ((x2.length : Int) - 1)) - x28)) then (if (wrap64 ((wrap64 ((x2.length : Int) - 1)) - x28)) < (x2.length : Int) then (if x119000 = true then (if 0 ≤ x28 then (if x28 < (x2.length : Int) then (bytes_Read.j1 k x2 x8 x27 x28 x119000 x119001 ((rd_T51 x2 x28).f0) ((rd_T51 x2 x28).f1) ((rd_T51 x2 x28).f2) ((rd_T51 x2 x28).f3) ((rd_T51 x2 x28).f4)) else (none)) else (none)) else (bytes_Read.j1 k x2 x8 x27 x28 x119000 x119001 ((rd_T51 x2 (wrap64 ((wrap64 ((x2.length : Int) - 1)) - x28))).f0) ((rd_T51 x2 (wrap64 ((wrap64 ((x2.length : Int) - 1)) - x28))).f1) ((rd_T51 x2 (wrap64 ((wrap64 ((x2.length : Int) - 1)) - x28))).f2) ((rd_T51 x2 (wrap64 ((wrap64 ((x2.length : Int) - 1)) - x28))).f3) ((rd_T51 x2 (wrap64 ((wrap64 ((x2.length : Int) - 1)) - x28))).f4))) else (none)) else (none)) else (some (false, x8, 0, 0, 0))
def bytes_Read.j1 : Nat → List (S51) → Int → Int → Int → Bool → Int → Int → Int → Int → Int → Int → Option (Bool × Int × Int × Int × Int)
 | 0, _, _, _, _, _, _, _, _, _, _, _ => none
 | k + 1, x2, x8, x27, x28, x119000, x119001, x129000, x129001, x129002, x129003, x129004 => bytes_Read.l0 k x2 (Go.bits .or .i64 (wrap64 (x8 * 256)) x129001) x27 (wrap64 (x28 + 1)) x119000 x119001
end
def bytes_Read.f (k : Nat) (a0_0 : Bool) (a0_1 : Int) (a1 : Int) (l2 : List (S51)) : Option (Bool × Int × Int × Int × Int) := (bytes_state.f l2 0).bind fun t120 => (if t120 = true then (some (false, 0, 0, 0, 7)) else (if a1 = 7 then ((bytes_pointer.f k l2).bind fun bt121 => (some (bt121.1, bt121.2.1, bt121.2.2.1, bt121.2.2.2.1, bt121.2.2.2.2))) else ((bytes_state.f l2 2).bind fun t126 => (if t126 = true then (some (false, 0, 0, 0, 8)) else (bytes_Read.l0 k l2 0 (l2.length : Int) 0 a0_0 a0_1)))))
theorem bytes_Read.mono_l : ∀ k, (∀ y0 y1 y2 y3 y4 y5, LeO (bytes_Read.l0 k y0 y1 y2 y3 y4 y5) (bytes_Read.l0 (k + 1) y0 y1 y2 y3 y4 y5)) ∧ (∀ y0 y1 y2 y3 y4 y5 y6 y7 y8 y9 y10, LeO (bytes_Read.j1 k y0 y1 y2 y3 y4 y5 y6 y7 y8 y9 y10) (bytes_Read.j1 (k + 1) y0 y1 y2 y3 y4 y5 y6 y7 y8 y9 y10))
 | 0 => ⟨fun _ _ _ _ _ _ r h => by simp [bytes_Read.l0] at h, fun _ _ _ _ _ _ _ _ _ _ _ r h => by simp [bytes_Read.j1] at h⟩
 | k + 1 => by
  obtain ⟨ih0, ih1⟩ := bytes_Read.mono_l k
  refine ⟨?_, ?_⟩
  ·intro y0 y1 y2 y3 y4 y5
   unfold bytes_Read.l0
   repeat' first
   | (with_reducible apply ih0)
   | (with_reducible apply ih1)
   | (with_reducible apply bytes_pointer.mono)
   | (with_reducible apply LeO.refl)
   | (with_reducible apply LeO.none)
   | (with_reducible refine LeO.ite ?_ ?_)
   | (with_reducible refine LeO.bind ?_ (fun _ => ?_))
  ·intro y0 y1 y2 y3 y4 y5 y6 y7 y8 y9 y10
   unfold bytes_Read.j1
   repeat' first
   | (with_reducible apply ih0)
   | (with_reducible apply ih1)
   | (with_reducible apply bytes_pointer.mono)
   | (with_reducible apply LeO.refl)
   | (with_reducible apply LeO.none)
   | (with_reducible refine LeO.ite ?_ ?_)
   | (with_reducible refine LeO.bind ?_ (fun _ => ?_))
theorem bytes_Read.mono : ∀ a0 a1 a2 a3 k, LeO (bytes_Read.f k a0 a1 a2 a3) (bytes_Read.f (k + 1) a0 a1 a2 a3) := by
 intro a0 a1 a2 a3 k
 obtain ⟨ih0, ih1⟩ := bytes_Read.mono_l k
 unfold bytes_Read.f
 repeat' first
   | (with_reducible apply ih0)
   | (with_reducible apply ih1)
   | (with_reducible apply bytes_pointer.mono)
   | (with_reducible apply LeO.refl)
   | (with_reducible apply LeO.none)
   | (with_reducible refine LeO.ite ?_ ?_)
   | (with_reducible refine LeO.bind ?_ (fun _ => ?_))
set_option maxHeartbeats 8000000 in
set_option maxRecDepth 100000 in
theorem bytes_Read.calls (k : Nat) (a0_0 : Bool) (a0_1 : Int) (a1 : Int) (A2 : Option Addr) (c2 : Nat) (l2 : List (S51)) (r1 : Bool) (r2 : Int) (r3 : Int) (r4 : Int) (r5 : Int) (w : World) (hr2 : Kd.C k51 w A2 l2.length l2) (hc2 : l2.length ≤ c2) (h : bytes_Read.f k a0_0 a0_1 a1 l2 = some (r1, r2, r3, r4, r5)) :
  Calls Try.prog 40 #[.agg #[.bool a0_0, .int .i64 a0_1], .int .i64 a1, .slice A2 l2.length c2] w fun e w' => e = .returned (.tuple #[.agg #[.bool r1, .int .i64 r2, .int .i64 r3, .int .i64 r4], .int .i64 r5]) ∧ Below w.heap.size w w' := by
 have hu38 := Try.underlying38
 have hu33 := Try.underlying33
 have hu51 := Try.underlying51
 have HR2 := Aside0.mk hr2
 have HC2 := Aside0.mk hc2
 clear hr2 hc2
 have HB := Aside0.mk (Below.refl w.heap.size w)
 have H : ((bytes_state.f l2 0).bind fun t120 => (if t120 = true then (some (false, 0, 0, 0, 7)) else (if a1 = 7 then ((bytes_pointer.f k l2).bind fun bt121 => (some (bt121.1, bt121.2.1, bt121.2.2.1, bt121.2.2.2.1, bt121.2.2.2.2))) else ((bytes_state.f l2 2).bind fun t126 => (if t126 = true then (some (false, 0, 0, 0, 8)) else (bytes_Read.l0 k l2 0 (l2.length : Int) 0 a0_0 a0_1)))))) = some (r1, r2, r3, r4, r5) := h
 clear h
 replace H := Option.bind_eq_some_iff.mp H
 obtain ⟨t120, A40, H⟩ := H
 replace H : (if t120 = true then (some (false, 0, 0, 0, 7)) else (if a1 = 7 then ((bytes_pointer.f k l2).bind fun bt121 => (some (bt121.1, bt121.2.1, bt121.2.2.1, bt121.2.2.2.1, bt121.2.2.2.2))) else ((bytes_state.f l2 2).bind fun t126 => (if t126 = true then (some (false, 0, 0, 0, 8)) else (bytes_Read.l0 k l2 0 (l2.length : Int) 0 a0_0 a0_1))))) = some (r1, r2, r3, r4, r5) := H
 have A4 := Aside0.mk A40
 clear A40
 by_cases c5 : t120 = true
 ·subst c5
  have H1 : (some (false, 0, 0, 0, 7)) = some (r1, r2, r3, r4, r5) := by rw [if_pos rfl] at H; exact H
  clear H
  have H := H1
  clear H1
  simp only [Option.some.injEq, Prod.mk.injEq] at H
  obtain ⟨rfl, rfl, rfl, rfl, rfl⟩ := H
  go_enter Try.func40, Try.ntmps40
  go_wp2_with (first | ((with_reducible refine gate_dst (N := 3) rfl ?_); refine zbox (N := 3) (cs := #[.bool a0_0, .int .i64 a0_1]) (t := 38) ?_; intro gb118 hg w6 hbox hb; have n0_ := Aside0.mk (below_step (zw0 HB.out) hb); have BK118 := Aside0.mk (hbox); have GW118 := Aside0.mk (zg hg (below_size (zw0 HB.out))); have GE118 := GW118; clear HB; have HB := n0_; clear n0_; clear hb hbox hg) | ((with_reducible refine gate_dst (N := 6) rfl ?_); refine zbox (N := 6) (cs := #[.bool false, .int .i64 0, .int .i64 0, .int .i64 0]) (t := 33) ?_; intro gb119 hg w7 hbox hb; have n0_ := Aside0.mk (zbb BK118.out hb); have n1_ := Aside0.mk (below_step (zw1 HB.out GE118.out) hb); have BK119 := Aside0.mk (hbox); have GW119 := Aside0.mk (zg hg (below_size (zw1 HB.out GE118.out))); have GE119 := GW119; have NB118_119 := Aside0.mk (zlt hg BK118.out); have NB119_118 := Aside0.mk (zgt hg BK118.out); clear BK118 HB; have BK118 := n0_; have HB := n1_; clear n0_ n1_; clear hb hbox hg) | ((with_reducible refine gate_callee (f := 51) rfl ?_); refine zgo (some 13) Try.func51 #[.slice A2 l2.length c2, .int .i64 0] ?_; (with_reducible refine (bytes_state.calls _ _ l2 0 true _ ?side1 ?side2 A4.out).mono ?_); (case side1 => repeat (first | exact (Kd.C_below HR2.out HB.out) | (with_reducible refine Kd.C_alloc ?_ _) | (with_reducible refine Kd.C_drewN ?_ _) | (with_reducible refine Kd.C_drew ?_))); (case side2 => exact HC2.out); rintro e w8 ⟨rfl, hb⟩; refine ⟨_, rfl, ?_⟩; have n0_ := Aside0.mk (zbb BK118.out hb); have n1_ := Aside0.mk (zbb BK119.out hb); have n2_ := Aside0.mk (below_step (zw2 HB.out GE118.out GE119.out) hb); clear BK118 BK119 HB; have BK118 := n0_; have BK119 := n1_; have HB := n2_; clear n0_ n1_ n2_; (try clear hb); (try clear hb2); (try clear hk); (try clear hi); have hnb9 := NB119_118.out; have hnc9 := NB118_119.out; have hcz10_0 := zc BK119.out 0; have hcz10_1 := zc BK119.out 1; have hcz10_2 := zc BK119.out 2; have hcz10_3 := zc BK119.out 3; have hfz10_0 := blk_frozen BK119.out 0; have hfz10_1 := blk_frozen BK119.out 1; have hfz10_2 := blk_frozen BK119.out 2; have hfz10_3 := blk_frozen BK119.out 3))
  refine bodyPost_ret (results_ct rfl _ _ gb119 33 #[.bool false, .int .i64 0, .int .i64 0, .int .i64 0] (0, 0) _ rfl (by (with_reducible repeat (first | refine blk_drewN ?_ _ | refine blk_drew ?_ | refine blk_alloc ?_ _)); refine blk_put (cs := #[.bool false, .int .i64 0, .int .i64 0, .int .i64 0]) ?_ 3 _ rfl; (with_reducible repeat (first | refine blk_drewN ?_ _ | refine blk_drew ?_ | refine blk_alloc ?_ _)); refine blk_put (cs := #[.bool false, .int .i64 0, .int .i64 0, .int .i64 0]) ?_ 2 _ rfl; (with_reducible repeat (first | refine blk_drewN ?_ _ | refine blk_drew ?_ | refine blk_alloc ?_ _)); refine blk_put (cs := #[.bool false, .int .i64 0, .int .i64 0, .int .i64 0]) ?_ 1 _ rfl; (with_reducible repeat (first | refine blk_drewN ?_ _ | refine blk_drew ?_ | refine blk_alloc ?_ _)); refine blk_put (cs := #[.bool false, .int .i64 0, .int .i64 0, .int .i64 0]) ?_ 0 _ rfl; (with_reducible repeat (first | refine blk_drewN ?_ _ | refine blk_drew ?_ | refine blk_alloc ?_ _)); exact BK119.out) Try.underlying33 rfl (by kernel_rfl)) rfl ?_
  exact ⟨ze, zw2 HB.out GE118.out GE119.out⟩
 ·replace c5 := Bool.eq_false_iff.mpr c5
  subst c5
  have H1 : (if a1 = 7 then ((bytes_pointer.f k l2).bind fun bt121 => (some (bt121.1, bt121.2.1, bt121.2.2.1, bt121.2.2.2.1, bt121.2.2.2.2))) else ((bytes_state.f l2 2).bind fun t126 => (if t126 = true then (some (false, 0, 0, 0, 8)) else (bytes_Read.l0 k l2 0 (l2.length : Int) 0 a0_0 a0_1)))) = some (r1, r2, r3, r4, r5) := by rw [if_neg (show ¬ (false = true) by decide)] at H; exact H
  clear H
  have H := H1
  clear H1
  by_cases c11 : a1 = 7
  ·rw [if_pos c11] at H
   have c11b0 : (a1 == 7) = true := beq_iff_eq.mpr c11
   have c11b1 : (a1 != 7) = false := bne_eq_false_iff_eq.mpr c11
   clear c11
   replace H := Option.bind_eq_some_iff.mp H
   obtain ⟨⟨t121, t122, t123, t124, t125⟩, A120, H⟩ := H
   replace H : (some (t121, t122, t123, t124, t125)) = some (r1, r2, r3, r4, r5) := H
   have A12 := Aside0.mk A120
   clear A120
   simp only [Option.some.injEq, Prod.mk.injEq] at H
   obtain ⟨rfl, rfl, rfl, rfl, rfl⟩ := H
   go_enter Try.func40, Try.ntmps40
   go_wp2_with (first | ((with_reducible refine gate_dst (N := 3) rfl ?_); refine zbox (N := 3) (cs := #[.bool a0_0, .int .i64 a0_1]) (t := 38) ?_; intro gb118 hg w13 hbox hb; have n0_ := Aside0.mk (below_step (zw0 HB.out) hb); have BK118 := Aside0.mk (hbox); have GW118 := Aside0.mk (zg hg (below_size (zw0 HB.out))); have GE118 := GW118; clear HB; have HB := n0_; clear n0_; clear hb hbox hg) | ((with_reducible refine gate_dst (N := 6) rfl ?_); refine zbox (N := 6) (cs := #[.bool false, .int .i64 0, .int .i64 0, .int .i64 0]) (t := 33) ?_; intro gb119 hg w14 hbox hb; have n0_ := Aside0.mk (zbb BK118.out hb); have n1_ := Aside0.mk (below_step (zw1 HB.out GE118.out) hb); have BK119 := Aside0.mk (hbox); have GW119 := Aside0.mk (zg hg (below_size (zw1 HB.out GE118.out))); have GE119 := GW119; have NB118_119 := Aside0.mk (zlt hg BK118.out); have NB119_118 := Aside0.mk (zgt hg BK118.out); clear BK118 HB; have BK118 := n0_; have HB := n1_; clear n0_ n1_; clear hb hbox hg) | ((with_reducible refine gate_callee (f := 51) rfl ?_); refine zgo (some 13) Try.func51 #[.slice A2 l2.length c2, .int .i64 0] ?_; (with_reducible refine (bytes_state.calls _ _ l2 0 false _ ?side1 ?side2 A4.out).mono ?_); (case side1 => repeat (first | exact (Kd.C_below HR2.out HB.out) | (with_reducible refine Kd.C_alloc ?_ _) | (with_reducible refine Kd.C_drewN ?_ _) | (with_reducible refine Kd.C_drew ?_))); (case side2 => exact HC2.out); rintro e w15 ⟨rfl, hb⟩; refine ⟨_, rfl, ?_⟩; have n0_ := Aside0.mk (zbb BK118.out hb); have n1_ := Aside0.mk (zbb BK119.out hb); have n2_ := Aside0.mk (below_step (zw2 HB.out GE118.out GE119.out) hb); clear BK118 BK119 HB; have BK118 := n0_; have BK119 := n1_; have HB := n2_; clear n0_ n1_ n2_; (try clear hb); (try clear hb2); (try clear hk); (try clear hi)) | ((with_reducible refine gate_callee (f := 52) rfl ?_); refine zgo (some 19) Try.func52 #[.slice A2 l2.length c2] ?_; (with_reducible refine (bytes_pointer.calls k _ _ l2 t121 t122 t123 t124 t125 _ ?side1 ?side2 A12.out).mono ?_); (case side1 => repeat (first | exact (Kd.C_below HR2.out HB.out) | (with_reducible refine Kd.C_alloc ?_ _) | (with_reducible refine Kd.C_drewN ?_ _) | (with_reducible refine Kd.C_drew ?_))); (case side2 => exact HC2.out); rintro e w16 ⟨rfl, hb⟩; refine ⟨_, rfl, ?_⟩; have n0_ := Aside0.mk (zbb BK118.out hb); have n1_ := Aside0.mk (zbb BK119.out hb); have n2_ := Aside0.mk (below_step (zw2 HB.out GE118.out GE119.out) hb); clear BK118 BK119 HB; have BK118 := n0_; have BK119 := n1_; have HB := n2_; clear n0_ n1_ n2_; (try clear hb); (try clear hb2); (try clear hk); (try clear hi); have hnb17 := NB119_118.out; have hnc17 := NB118_119.out; have hcz18_0 := zc BK119.out 0; have hcz18_1 := zc BK119.out 1; have hcz18_2 := zc BK119.out 2; have hcz18_3 := zc BK119.out 3; have hfz18_0 := blk_frozen BK119.out 0; have hfz18_1 := blk_frozen BK119.out 1; have hfz18_2 := blk_frozen BK119.out 2; have hfz18_3 := blk_frozen BK119.out 3))
   refine bodyPost_ret (results_ct rfl _ _ gb119 33 #[.bool t121, .int .i64 t122, .int .i64 t123, .int .i64 t124] (0, 0) _ rfl (by (with_reducible repeat (first | refine blk_drewN ?_ _ | refine blk_drew ?_ | refine blk_alloc ?_ _)); refine blk_put (cs := #[.bool t121, .int .i64 t122, .int .i64 t123, .int .i64 0]) ?_ 3 _ rfl; (with_reducible repeat (first | refine blk_drewN ?_ _ | refine blk_drew ?_ | refine blk_alloc ?_ _)); refine blk_put (cs := #[.bool t121, .int .i64 t122, .int .i64 0, .int .i64 0]) ?_ 2 _ rfl; (with_reducible repeat (first | refine blk_drewN ?_ _ | refine blk_drew ?_ | refine blk_alloc ?_ _)); refine blk_put (cs := #[.bool t121, .int .i64 0, .int .i64 0, .int .i64 0]) ?_ 1 _ rfl; (with_reducible repeat (first | refine blk_drewN ?_ _ | refine blk_drew ?_ | refine blk_alloc ?_ _)); refine blk_put (cs := #[.bool false, .int .i64 0, .int .i64 0, .int .i64 0]) ?_ 0 _ rfl; (with_reducible repeat (first | refine blk_drewN ?_ _ | refine blk_drew ?_ | refine blk_alloc ?_ _)); exact BK119.out) Try.underlying33 rfl (by kernel_rfl)) rfl ?_
   exact ⟨ze, zw2 HB.out GE118.out GE119.out⟩
  ·rw [if_neg c11] at H
   have c11b0 : (a1 == 7) = false := beq_eq_false_iff_ne.mpr c11
   have c11b1 : (a1 != 7) = true := bne_iff_ne.mpr c11
   replace H := Option.bind_eq_some_iff.mp H
   obtain ⟨t126, A190, H⟩ := H
   replace H : (if t126 = true then (some (false, 0, 0, 0, 8)) else (bytes_Read.l0 k l2 0 (l2.length : Int) 0 a0_0 a0_1)) = some (r1, r2, r3, r4, r5) := H
   have A19 := Aside0.mk A190
   clear A190
   by_cases c20 : t126 = true
   ·subst c20
    have H1 : (some (false, 0, 0, 0, 8)) = some (r1, r2, r3, r4, r5) := by rw [if_pos rfl] at H; exact H
    clear H
    have H := H1
    clear H1
    simp only [Option.some.injEq, Prod.mk.injEq] at H
    obtain ⟨rfl, rfl, rfl, rfl, rfl⟩ := H
    go_enter Try.func40, Try.ntmps40
    go_wp2_with (first | ((with_reducible refine gate_dst (N := 3) rfl ?_); refine zbox (N := 3) (cs := #[.bool a0_0, .int .i64 a0_1]) (t := 38) ?_; intro gb118 hg w21 hbox hb; have n0_ := Aside0.mk (below_step (zw0 HB.out) hb); have BK118 := Aside0.mk (hbox); have GW118 := Aside0.mk (zg hg (below_size (zw0 HB.out))); have GE118 := GW118; clear HB; have HB := n0_; clear n0_; clear hb hbox hg) | ((with_reducible refine gate_dst (N := 6) rfl ?_); refine zbox (N := 6) (cs := #[.bool false, .int .i64 0, .int .i64 0, .int .i64 0]) (t := 33) ?_; intro gb119 hg w22 hbox hb; have n0_ := Aside0.mk (zbb BK118.out hb); have n1_ := Aside0.mk (below_step (zw1 HB.out GE118.out) hb); have BK119 := Aside0.mk (hbox); have GW119 := Aside0.mk (zg hg (below_size (zw1 HB.out GE118.out))); have GE119 := GW119; have NB118_119 := Aside0.mk (zlt hg BK118.out); have NB119_118 := Aside0.mk (zgt hg BK118.out); clear BK118 HB; have BK118 := n0_; have HB := n1_; clear n0_ n1_; clear hb hbox hg) | ((with_reducible refine gate_callee (f := 51) rfl ?_); refine zgo (some 13) Try.func51 #[.slice A2 l2.length c2, .int .i64 0] ?_; (with_reducible refine (bytes_state.calls _ _ l2 0 false _ ?side1 ?side2 A4.out).mono ?_); (case side1 => repeat (first | exact (Kd.C_below HR2.out HB.out) | (with_reducible refine Kd.C_alloc ?_ _) | (with_reducible refine Kd.C_drewN ?_ _) | (with_reducible refine Kd.C_drew ?_))); (case side2 => exact HC2.out); rintro e w23 ⟨rfl, hb⟩; refine ⟨_, rfl, ?_⟩; have n0_ := Aside0.mk (zbb BK118.out hb); have n1_ := Aside0.mk (zbb BK119.out hb); have n2_ := Aside0.mk (below_step (zw2 HB.out GE118.out GE119.out) hb); clear BK118 BK119 HB; have BK118 := n0_; have BK119 := n1_; have HB := n2_; clear n0_ n1_ n2_; (try clear hb); (try clear hb2); (try clear hk); (try clear hi)) | ((with_reducible refine gate_callee (f := 51) rfl ?_); refine zgo (some 24) Try.func51 #[.slice A2 l2.length c2, .int .i64 2] ?_; (with_reducible refine (bytes_state.calls _ _ l2 2 true _ ?side1 ?side2 A19.out).mono ?_); (case side1 => repeat (first | exact (Kd.C_below HR2.out HB.out) | (with_reducible refine Kd.C_alloc ?_ _) | (with_reducible refine Kd.C_drewN ?_ _) | (with_reducible refine Kd.C_drew ?_))); (case side2 => exact HC2.out); rintro e w24 ⟨rfl, hb⟩; refine ⟨_, rfl, ?_⟩; have n0_ := Aside0.mk (zbb BK118.out hb); have n1_ := Aside0.mk (zbb BK119.out hb); have n2_ := Aside0.mk (below_step (zw2 HB.out GE118.out GE119.out) hb); clear BK118 BK119 HB; have BK118 := n0_; have BK119 := n1_; have HB := n2_; clear n0_ n1_ n2_; (try clear hb); (try clear hb2); (try clear hk); (try clear hi); have hnb25 := NB119_118.out; have hnc25 := NB118_119.out; have hcz26_0 := zc BK119.out 0; have hcz26_1 := zc BK119.out 1; have hcz26_2 := zc BK119.out 2; have hcz26_3 := zc BK119.out 3; have hfz26_0 := blk_frozen BK119.out 0; have hfz26_1 := blk_frozen BK119.out 1; have hfz26_2 := blk_frozen BK119.out 2; have hfz26_3 := blk_frozen BK119.out 3))
    refine bodyPost_ret (results_ct rfl _ _ gb119 33 #[.bool false, .int .i64 0, .int .i64 0, .int .i64 0] (0, 0) _ rfl (by (with_reducible repeat (first | refine blk_drewN ?_ _ | refine blk_drew ?_ | refine blk_alloc ?_ _)); refine blk_put (cs := #[.bool false, .int .i64 0, .int .i64 0, .int .i64 0]) ?_ 3 _ rfl; (with_reducible repeat (first | refine blk_drewN ?_ _ | refine blk_drew ?_ | refine blk_alloc ?_ _)); refine blk_put (cs := #[.bool false, .int .i64 0, .int .i64 0, .int .i64 0]) ?_ 2 _ rfl; (with_reducible repeat (first | refine blk_drewN ?_ _ | refine blk_drew ?_ | refine blk_alloc ?_ _)); refine blk_put (cs := #[.bool false, .int .i64 0, .int .i64 0, .int .i64 0]) ?_ 1 _ rfl; (with_reducible repeat (first | refine blk_drewN ?_ _ | refine blk_drew ?_ | refine blk_alloc ?_ _)); refine blk_put (cs := #[.bool false, .int .i64 0, .int .i64 0, .int .i64 0]) ?_ 0 _ rfl; (with_reducible repeat (first | refine blk_drewN ?_ _ | refine blk_drew ?_ | refine blk_alloc ?_ _)); exact BK119.out) Try.underlying33 rfl (by kernel_rfl)) rfl ?_
    exact ⟨ze, zw2 HB.out GE118.out GE119.out⟩
   ·replace c20 := Bool.eq_false_iff.mpr c20
    subst c20
    have H1 : (bytes_Read.l0 k l2 0 (l2.length : Int) 0 a0_0 a0_1) = some (r1, r2, r3, r4, r5) := by rw [if_neg (show ¬ (false = true) by decide)] at H; exact H
    clear H
    have H := H1
    clear H1
    have H' := Aside0.mk H
    clear H
    go_enter Try.func40, Try.ntmps40
    go_wp2_with (first | ((with_reducible refine gate_dst (N := 3) rfl ?_); refine zbox (N := 3) (cs := #[.bool a0_0, .int .i64 a0_1]) (t := 38) ?_; intro gb118 hg w27 hbox hb; have n0_ := Aside0.mk (below_step (zw0 HB.out) hb); have BK118 := Aside0.mk (hbox); have GW118 := Aside0.mk (zg hg (below_size (zw0 HB.out))); have GE118 := GW118; clear HB; have HB := n0_; clear n0_; clear hb hbox hg) | ((with_reducible refine gate_dst (N := 6) rfl ?_); refine zbox (N := 6) (cs := #[.bool false, .int .i64 0, .int .i64 0, .int .i64 0]) (t := 33) ?_; intro gb119 hg w28 hbox hb; have n0_ := Aside0.mk (zbb BK118.out hb); have n1_ := Aside0.mk (below_step (zw1 HB.out GE118.out) hb); have BK119 := Aside0.mk (hbox); have GW119 := Aside0.mk (zg hg (below_size (zw1 HB.out GE118.out))); have GE119 := GW119; have NB118_119 := Aside0.mk (zlt hg BK118.out); have NB119_118 := Aside0.mk (zgt hg BK118.out); clear BK118 HB; have BK118 := n0_; have HB := n1_; clear n0_ n1_; clear hb hbox hg) | ((with_reducible refine gate_callee (f := 51) rfl ?_); refine zgo (some 13) Try.func51 #[.slice A2 l2.length c2, .int .i64 0] ?_; (with_reducible refine (bytes_state.calls _ _ l2 0 false _ ?side1 ?side2 A4.out).mono ?_); (case side1 => repeat (first | exact (Kd.C_below HR2.out HB.out) | (with_reducible refine Kd.C_alloc ?_ _) | (with_reducible refine Kd.C_drewN ?_ _) | (with_reducible refine Kd.C_drew ?_))); (case side2 => exact HC2.out); rintro e w29 ⟨rfl, hb⟩; refine ⟨_, rfl, ?_⟩; have n0_ := Aside0.mk (zbb BK118.out hb); have n1_ := Aside0.mk (zbb BK119.out hb); have n2_ := Aside0.mk (below_step (zw2 HB.out GE118.out GE119.out) hb); clear BK118 BK119 HB; have BK118 := n0_; have BK119 := n1_; have HB := n2_; clear n0_ n1_ n2_; (try clear hb); (try clear hb2); (try clear hk); (try clear hi)) | ((with_reducible refine gate_callee (f := 51) rfl ?_); refine zgo (some 24) Try.func51 #[.slice A2 l2.length c2, .int .i64 2] ?_; (with_reducible refine (bytes_state.calls _ _ l2 2 false _ ?side1 ?side2 A19.out).mono ?_); (case side1 => repeat (first | exact (Kd.C_below HR2.out HB.out) | (with_reducible refine Kd.C_alloc ?_ _) | (with_reducible refine Kd.C_drewN ?_ _) | (with_reducible refine Kd.C_drew ?_))); (case side2 => exact HC2.out); rintro e w30 ⟨rfl, hb⟩; refine ⟨_, rfl, ?_⟩; have n0_ := Aside0.mk (zbb BK118.out hb); have n1_ := Aside0.mk (zbb BK119.out hb); have n2_ := Aside0.mk (below_step (zw2 HB.out GE118.out GE119.out) hb); clear BK118 BK119 HB; have BK118 := n0_; have BK119 := n1_; have HB := n2_; clear n0_ n1_ n2_; (try clear hb); (try clear hb2); (try clear hk); (try clear hi)))
    go_loopg [8, 28] k (fun kq v8 v28 w' => ∃ (x8_1 : Int) (x28_1 : Int), v8 = .int .i64 x8_1 ∧ v28 = .int .i64 x28_1 ∧ Aside0 (bytes_Read.l0 kq l2 x8_1 (l2.length : Int) x28_1 a0_0 a0_1 = some (r1, r2, r3, r4, r5)) ∧ Aside0 (kq ≤ k) ∧ Aside0 (w'.heap[gb118]? = some (.cells #[.bool a0_0, .int .i64 a0_1] 38 (0, 0))) ∧ Aside0 (w'.heap[gb119]? = some (.cells #[.bool false, .int .i64 0, .int .i64 0, .int .i64 0] 33 (0, 0))) ∧ Aside0 (Below w.heap.size w w'))
    case atStart => exact ⟨(0), (0), (zr), (zr), H', ⟨Nat.le_refl _⟩, ⟨zb BK118.out⟩, ⟨zb BK119.out⟩, ⟨zw2 HB.out GE118.out GE119.out⟩⟩
    case round =>
     clear H'
     try clear c1; try clear c2; try clear p2; try clear c4; try clear c5; try clear c9; try clear c11; try clear c11b0; try clear c11b1; try clear c17; try clear c20; try clear c25
     obtain ⟨x8_1, x28_1, rfl, rfl, HA, HK1, BK118, BK119, HB⟩ := hrel
     cases gk with
     | zero => exact absurd HA.out (by simp [bytes_Read.l0])
     | succ k1 =>
      have H := HA.out
      clear HA
      simp only [bytes_Read.l0] at H
      by_cases c31 : x28_1 < (l2.length : Int)
      ·rw [if_pos c31] at H
       have c31b0 : decide (x28_1 < (l2.length : Int)) = true := decide_eq_true c31
       clear c31
       obtain ⟨ji32, hji32⟩ : ∃ j_ : Int, (wrap64 ((wrap64 ((l2.length : Int) - 1)) - x28_1)) = j_ := ⟨_, rfl⟩
       replace H : (if 0 ≤ (ji32) then (if (ji32) < (l2.length : Int) then (if a0_0 = true then (if 0 ≤ x28_1 then (if x28_1 < (l2.length : Int) then (bytes_Read.j1 k1 l2 x8_1 (l2.length : Int) x28_1 a0_0 a0_1 ((rd_T51 l2 x28_1).f0) ((rd_T51 l2 x28_1).f1) ((rd_T51 l2 x28_1).f2) ((rd_T51 l2 x28_1).f3) ((rd_T51 l2 x28_1).f4)) else (none)) else (none)) else (bytes_Read.j1 k1 l2 x8_1 (l2.length : Int) x28_1 a0_0 a0_1 ((rd_T51 l2 (ji32)).f0) ((rd_T51 l2 (ji32)).f1) ((rd_T51 l2 (ji32)).f2) ((rd_T51 l2 (ji32)).f3) ((rd_T51 l2 (ji32)).f4))) else (none)) else (none)) = some (r1, r2, r3, r4, r5) := by first | (rw [hji32] at H; exact H) | (simp only [hji32] at H ⊢; exact H)
       have hji32w : (IntKind.i64.wrap ((wrap64 ((l2.length : Int) - 1)) - x28_1)) = ji32 := (i64_w _).trans hji32
       by_cases c33 : 0 ≤ (ji32)
       rotate_left
       ·rw [if_neg c33] at H
        exact absurd H (by simp)
       rw [if_pos c33] at H
       have c33b0 : decide (0 ≤ (ji32)) = true := decide_eq_true c33
       clear c33
       by_cases c34 : (ji32) < (l2.length : Int)
       rotate_left
       ·rw [if_neg c34] at H
        exact absurd H (by simp)
       rw [if_pos c34] at H
       have c34b0 : decide ((ji32) < (l2.length : Int)) = true := decide_eq_true c34
       clear c34
       have HC35 := Aside0.mk H
       clear H
       have p127 : 0 ≤ ((ji32) : Int) := zdec
       have q127 : (ji32) < (l2.length : Int) := zdec
       obtain ⟨ad127, e127, hx127_0, hx127_1, hx127_2, hx127_3, hx127_4⟩ := at_T51 HR2.out (ji32) p127 q127
       cases e127
       replace hx127_0 := zh HB.out hx127_0
       replace hx127_1 := zh HB.out hx127_1
       replace hx127_2 := zh HB.out hx127_2
       replace hx127_3 := zh HB.out hx127_3
       replace hx127_4 := zh HB.out hx127_4
       replace p127 := eq_true p127
       replace q127 := eq_true q127
       go_upto_if 40 with (first | ((with_reducible refine gate_dst (N := 10) rfl ?_); refine zbox (N := 10) (cs := #[.int .i64 0, .int .i64 0, .int .i64 0, .int .i64 0, .int .i64 0]) (t := 51) ?_; intro gb128 hg w36 hbox hb; have n0_ := Aside0.mk (zbb BK118.out hb); have n1_ := Aside0.mk (zbb BK119.out hb); have n2_ := Aside0.mk (below_step (zw2 HB.out GE118.out GE119.out) hb); have BK128 := Aside0.mk (hbox); have GW128 := Aside0.mk (zg hg (below_size (zw2 HB.out GE118.out GE119.out))); have GE128 := GW128; have NB118_128 := Aside0.mk (zlt hg BK118.out); have NB128_118 := Aside0.mk (zgt hg BK118.out); have NB119_128 := Aside0.mk (zlt hg BK119.out); have NB128_119 := Aside0.mk (zgt hg BK119.out); clear BK118 BK119 HB; have BK118 := n0_; have BK119 := n1_; have HB := n2_; clear n0_ n1_ n2_; clear hb hbox hg; have hnb37 := NB128_118.out; have hnc37 := NB118_128.out; have hnb38 := NB128_119.out; have hnc38 := NB119_128.out; have hcz39_0 := zc BK128.out 0; have hcz39_1 := zc BK128.out 1; have hcz39_2 := zc BK128.out 2; have hcz39_3 := zc BK128.out 3; have hcz39_4 := zc BK128.out 4; have hfz39_0 := blk_frozen BK128.out 0; have hfz39_1 := blk_frozen BK128.out 1; have hfz39_2 := blk_frozen BK128.out 2; have hfz39_3 := blk_frozen BK128.out 3; have hfz39_4 := blk_frozen BK128.out 4; have hnb40 := NB118_119.out; have hnc40 := NB119_118.out; have hcz41_0 := zc BK118.out 0; have hcz41_1 := zc BK118.out 1; have hfz41_0 := blk_frozen BK118.out 0; have hfz41_1 := blk_frozen BK118.out 1))
       (try simp only [Act.put, List.setIfInBounds_toArray, List.set_cons_zero, List.set_cons_succ])
       go_cut [] (fun wc => ∃ (kq : Nat) (x129000_34 : Int) (x129001_34 : Int) (x129002_34 : Int) (x129003_34 : Int) (x129004_34 : Int), Aside0 (bytes_Read.j1 kq l2 x8_1 (l2.length : Int) x28_1 a0_0 a0_1 x129000_34 x129001_34 x129002_34 x129003_34 x129004_34 = some (r1, r2, r3, r4, r5)) ∧ Aside0 (kq ≤ k1) ∧ Aside0 (wc.heap[gb118]? = some (.cells #[.bool a0_0, .int .i64 a0_1] 38 (0, 0))) ∧ Aside0 (wc.heap[gb119]? = some (.cells #[.bool false, .int .i64 0, .int .i64 0, .int .i64 0] 33 (0, 0))) ∧ Aside0 (wc.heap[gb128]? = some (.cells #[.int .i64 x129000_34, .int .i64 x129001_34, .int .i64 x129002_34, .int .i64 x129003_34, .int .i64 x129004_34] 51 (0, 0))) ∧ Aside0 (Below w.heap.size w wc))
       case first =>
        have H := HC35.out
        clear HC35
        by_cases c42 : a0_0 = true
        rotate_left
        ·replace c42 := Bool.eq_false_iff.mpr c42
         subst c42
         have H1 : (bytes_Read.j1 k1 l2 x8_1 (l2.length : Int) x28_1 false a0_1 ((rd_T51 l2 (ji32)).f0) ((rd_T51 l2 (ji32)).f1) ((rd_T51 l2 (ji32)).f2) ((rd_T51 l2 (ji32)).f3) ((rd_T51 l2 (ji32)).f4)) = some (r1, r2, r3, r4, r5) := by rw [if_neg (show ¬ (false = true) by decide)] at H; exact H
         clear H
         have H := H1
         clear H1
         have H' := Aside0.mk H
         clear H
         go_wp2
         go_meet
         case rel => exact ⟨_, ((rd_T51 l2 (ji32)).f0), ((rd_T51 l2 (ji32)).f1), ((rd_T51 l2 (ji32)).f2), ((rd_T51 l2 (ji32)).f3), ((rd_T51 l2 (ji32)).f4), H', ⟨by have := HK1.out; first | omega | exact Nat.le_refl _⟩, ⟨zf1 BK118.out NB118_128.out⟩, ⟨zf1 BK119.out NB119_128.out⟩, ⟨by (with_reducible repeat (first | refine blk_drewN ?_ _ | refine blk_drew ?_ | refine blk_alloc ?_ _)); refine blk_put (cs := #[.int .i64 ((rd_T51 l2 (ji32)).f0), .int .i64 ((rd_T51 l2 (ji32)).f1), .int .i64 ((rd_T51 l2 (ji32)).f2), .int .i64 ((rd_T51 l2 (ji32)).f3), .int .i64 0]) ?_ 4 _ rfl; (with_reducible repeat (first | refine blk_drewN ?_ _ | refine blk_drew ?_ | refine blk_alloc ?_ _)); refine blk_put (cs := #[.int .i64 ((rd_T51 l2 (ji32)).f0), .int .i64 ((rd_T51 l2 (ji32)).f1), .int .i64 ((rd_T51 l2 (ji32)).f2), .int .i64 0, .int .i64 0]) ?_ 3 _ rfl; (with_reducible repeat (first | refine blk_drewN ?_ _ | refine blk_drew ?_ | refine blk_alloc ?_ _)); refine blk_put (cs := #[.int .i64 ((rd_T51 l2 (ji32)).f0), .int .i64 ((rd_T51 l2 (ji32)).f1), .int .i64 0, .int .i64 0, .int .i64 0]) ?_ 2 _ rfl; (with_reducible repeat (first | refine blk_drewN ?_ _ | refine blk_drew ?_ | refine blk_alloc ?_ _)); refine blk_put (cs := #[.int .i64 ((rd_T51 l2 (ji32)).f0), .int .i64 0, .int .i64 0, .int .i64 0, .int .i64 0]) ?_ 1 _ rfl; (with_reducible repeat (first | refine blk_drewN ?_ _ | refine blk_drew ?_ | refine blk_alloc ?_ _)); refine blk_put (cs := #[.int .i64 0, .int .i64 0, .int .i64 0, .int .i64 0, .int .i64 0]) ?_ 0 _ rfl; (with_reducible repeat (first | refine blk_drewN ?_ _ | refine blk_drew ?_ | refine blk_alloc ?_ _)); exact BK128.out⟩, ⟨zw3 HB.out GE118.out GE119.out GE128.out⟩⟩
        subst c42
        have H1 : (if 0 ≤ x28_1 then (if x28_1 < (l2.length : Int) then (bytes_Read.j1 k1 l2 x8_1 (l2.length : Int) x28_1 true a0_1 ((rd_T51 l2 x28_1).f0) ((rd_T51 l2 x28_1).f1) ((rd_T51 l2 x28_1).f2) ((rd_T51 l2 x28_1).f3) ((rd_T51 l2 x28_1).f4)) else (none)) else (none)) = some (r1, r2, r3, r4, r5) := by rw [if_pos rfl] at H; exact H
        clear H
        have H := H1
        clear H1
        by_cases c43 : 0 ≤ x28_1
        rotate_left
        ·rw [if_neg c43] at H
         exact absurd H (by simp)
        rw [if_pos c43] at H
        have c43b0 : decide (0 ≤ x28_1) = true := decide_eq_true c43
        clear c43
        (first | rw [c43b0] | (simp only [i64_w, i32_w]; rw [c43b0]) | skip)
        by_cases c44 : x28_1 < (l2.length : Int)
        rotate_left
        ·rw [if_neg c44] at H
         exact absurd H (by simp)
        rw [if_pos c44] at H
        have c44b0 : decide (x28_1 < (l2.length : Int)) = true := decide_eq_true c44
        clear c44
        have H' := Aside0.mk H
        clear H
        have p129 : 0 ≤ (x28_1 : Int) := zdec
        have q129 : x28_1 < (l2.length : Int) := zdec
        obtain ⟨ad129, e129, hx129_0, hx129_1, hx129_2, hx129_3, hx129_4⟩ := at_T51 HR2.out x28_1 p129 q129
        obtain rfl : ad127 = ad129 := (by injection e129)
        have hn129_0 : ad127.block ≠ gb128 := zx (zfar hx129_0 GW128.out)
        have hn129_1 : ad127.block ≠ gb128 := zx (zfar hx129_0 GW128.out)
        have hn129_2 : ad127.block ≠ gb128 := zx (zfar hx129_0 GW128.out)
        have hn129_3 : ad127.block ≠ gb128 := zx (zfar hx129_0 GW128.out)
        have hn129_4 : ad127.block ≠ gb128 := zx (zfar hx129_0 GW128.out)
        replace hx129_0 := zh HB.out hx129_0
        replace hx129_1 := zh HB.out hx129_1
        replace hx129_2 := zh HB.out hx129_2
        replace hx129_3 := zh HB.out hx129_3
        replace hx129_4 := zh HB.out hx129_4
        replace hx129_0 := (cell_far (p := ⟨gb128, 0, none⟩) (zy hn129_0) (.int .i64 ((rd_T51 l2 (ji32)).f0))).trans hx129_0
        replace hx129_1 := (cell_far (p := ⟨gb128, 0, none⟩) (zy hn129_0) (.int .i64 ((rd_T51 l2 (ji32)).f0))).trans hx129_1
        replace hx129_2 := (cell_far (p := ⟨gb128, 0, none⟩) (zy hn129_0) (.int .i64 ((rd_T51 l2 (ji32)).f0))).trans hx129_2
        replace hx129_3 := (cell_far (p := ⟨gb128, 0, none⟩) (zy hn129_0) (.int .i64 ((rd_T51 l2 (ji32)).f0))).trans hx129_3
        replace hx129_4 := (cell_far (p := ⟨gb128, 0, none⟩) (zy hn129_0) (.int .i64 ((rd_T51 l2 (ji32)).f0))).trans hx129_4
        replace hx129_0 := (cell_far (p := ⟨gb128, 1, none⟩) (zy hn129_1) (.int .i64 ((rd_T51 l2 (ji32)).f1))).trans hx129_0
        replace hx129_1 := (cell_far (p := ⟨gb128, 1, none⟩) (zy hn129_1) (.int .i64 ((rd_T51 l2 (ji32)).f1))).trans hx129_1
        replace hx129_2 := (cell_far (p := ⟨gb128, 1, none⟩) (zy hn129_1) (.int .i64 ((rd_T51 l2 (ji32)).f1))).trans hx129_2
        replace hx129_3 := (cell_far (p := ⟨gb128, 1, none⟩) (zy hn129_1) (.int .i64 ((rd_T51 l2 (ji32)).f1))).trans hx129_3
        replace hx129_4 := (cell_far (p := ⟨gb128, 1, none⟩) (zy hn129_1) (.int .i64 ((rd_T51 l2 (ji32)).f1))).trans hx129_4
        replace hx129_0 := (cell_far (p := ⟨gb128, 2, none⟩) (zy hn129_2) (.int .i64 ((rd_T51 l2 (ji32)).f2))).trans hx129_0
        replace hx129_1 := (cell_far (p := ⟨gb128, 2, none⟩) (zy hn129_2) (.int .i64 ((rd_T51 l2 (ji32)).f2))).trans hx129_1
        replace hx129_2 := (cell_far (p := ⟨gb128, 2, none⟩) (zy hn129_2) (.int .i64 ((rd_T51 l2 (ji32)).f2))).trans hx129_2
        replace hx129_3 := (cell_far (p := ⟨gb128, 2, none⟩) (zy hn129_2) (.int .i64 ((rd_T51 l2 (ji32)).f2))).trans hx129_3
        replace hx129_4 := (cell_far (p := ⟨gb128, 2, none⟩) (zy hn129_2) (.int .i64 ((rd_T51 l2 (ji32)).f2))).trans hx129_4
        replace hx129_0 := (cell_far (p := ⟨gb128, 3, none⟩) (zy hn129_3) (.int .i64 ((rd_T51 l2 (ji32)).f3))).trans hx129_0
        replace hx129_1 := (cell_far (p := ⟨gb128, 3, none⟩) (zy hn129_3) (.int .i64 ((rd_T51 l2 (ji32)).f3))).trans hx129_1
        replace hx129_2 := (cell_far (p := ⟨gb128, 3, none⟩) (zy hn129_3) (.int .i64 ((rd_T51 l2 (ji32)).f3))).trans hx129_2
        replace hx129_3 := (cell_far (p := ⟨gb128, 3, none⟩) (zy hn129_3) (.int .i64 ((rd_T51 l2 (ji32)).f3))).trans hx129_3
        replace hx129_4 := (cell_far (p := ⟨gb128, 3, none⟩) (zy hn129_3) (.int .i64 ((rd_T51 l2 (ji32)).f3))).trans hx129_4
        replace hx129_0 := (cell_far (p := ⟨gb128, 4, none⟩) (zy hn129_4) (.int .i64 ((rd_T51 l2 (ji32)).f4))).trans hx129_0
        replace hx129_1 := (cell_far (p := ⟨gb128, 4, none⟩) (zy hn129_4) (.int .i64 ((rd_T51 l2 (ji32)).f4))).trans hx129_1
        replace hx129_2 := (cell_far (p := ⟨gb128, 4, none⟩) (zy hn129_4) (.int .i64 ((rd_T51 l2 (ji32)).f4))).trans hx129_2
        replace hx129_3 := (cell_far (p := ⟨gb128, 4, none⟩) (zy hn129_4) (.int .i64 ((rd_T51 l2 (ji32)).f4))).trans hx129_3
        replace hx129_4 := (cell_far (p := ⟨gb128, 4, none⟩) (zy hn129_4) (.int .i64 ((rd_T51 l2 (ji32)).f4))).trans hx129_4
        clear hn129_0
        clear hn129_1
        clear hn129_2
        clear hn129_3
        clear hn129_4
        replace p129 := eq_true p129
        replace q129 := eq_true q129
        have hnb45 := NB128_118.out
        have hnc45 := NB118_128.out
        have hnb46 := NB128_119.out
        have hnc46 := NB119_128.out
        have hcz47_0 := zc BK128.out 0
        have hcz47_1 := zc BK128.out 1
        have hcz47_2 := zc BK128.out 2
        have hcz47_3 := zc BK128.out 3
        have hcz47_4 := zc BK128.out 4
        have hfz47_0 := blk_frozen BK128.out 0
        have hfz47_1 := blk_frozen BK128.out 1
        have hfz47_2 := blk_frozen BK128.out 2
        have hfz47_3 := blk_frozen BK128.out 3
        have hfz47_4 := blk_frozen BK128.out 4
        go_wp2
        go_meet
        case rel => exact ⟨_, ((rd_T51 l2 x28_1).f0), ((rd_T51 l2 x28_1).f1), ((rd_T51 l2 x28_1).f2), ((rd_T51 l2 x28_1).f3), ((rd_T51 l2 x28_1).f4), H', ⟨by have := HK1.out; first | omega | exact Nat.le_refl _⟩, ⟨zf1 BK118.out NB118_128.out⟩, ⟨zf1 BK119.out NB119_128.out⟩, ⟨by (with_reducible repeat (first | refine blk_drewN ?_ _ | refine blk_drew ?_ | refine blk_alloc ?_ _)); refine blk_put (cs := #[.int .i64 ((rd_T51 l2 x28_1).f0), .int .i64 ((rd_T51 l2 x28_1).f1), .int .i64 ((rd_T51 l2 x28_1).f2), .int .i64 ((rd_T51 l2 x28_1).f3), .int .i64 ((rd_T51 l2 (ji32)).f4)]) ?_ 4 _ rfl; (with_reducible repeat (first | refine blk_drewN ?_ _ | refine blk_drew ?_ | refine blk_alloc ?_ _)); refine blk_put (cs := #[.int .i64 ((rd_T51 l2 x28_1).f0), .int .i64 ((rd_T51 l2 x28_1).f1), .int .i64 ((rd_T51 l2 x28_1).f2), .int .i64 ((rd_T51 l2 (ji32)).f3), .int .i64 ((rd_T51 l2 (ji32)).f4)]) ?_ 3 _ rfl; (with_reducible repeat (first | refine blk_drewN ?_ _ | refine blk_drew ?_ | refine blk_alloc ?_ _)); refine blk_put (cs := #[.int .i64 ((rd_T51 l2 x28_1).f0), .int .i64 ((rd_T51 l2 x28_1).f1), .int .i64 ((rd_T51 l2 (ji32)).f2), .int .i64 ((rd_T51 l2 (ji32)).f3), .int .i64 ((rd_T51 l2 (ji32)).f4)]) ?_ 2 _ rfl; (with_reducible repeat (first | refine blk_drewN ?_ _ | refine blk_drew ?_ | refine blk_alloc ?_ _)); refine blk_put (cs := #[.int .i64 ((rd_T51 l2 x28_1).f0), .int .i64 ((rd_T51 l2 (ji32)).f1), .int .i64 ((rd_T51 l2 (ji32)).f2), .int .i64 ((rd_T51 l2 (ji32)).f3), .int .i64 ((rd_T51 l2 (ji32)).f4)]) ?_ 1 _ rfl; (with_reducible repeat (first | refine blk_drewN ?_ _ | refine blk_drew ?_ | refine blk_alloc ?_ _)); refine blk_put (cs := #[.int .i64 ((rd_T51 l2 (ji32)).f0), .int .i64 ((rd_T51 l2 (ji32)).f1), .int .i64 ((rd_T51 l2 (ji32)).f2), .int .i64 ((rd_T51 l2 (ji32)).f3), .int .i64 ((rd_T51 l2 (ji32)).f4)]) ?_ 0 _ rfl; (with_reducible repeat (first | refine blk_drewN ?_ _ | refine blk_drew ?_ | refine blk_alloc ?_ _)); refine blk_put (cs := #[.int .i64 ((rd_T51 l2 (ji32)).f0), .int .i64 ((rd_T51 l2 (ji32)).f1), .int .i64 ((rd_T51 l2 (ji32)).f2), .int .i64 ((rd_T51 l2 (ji32)).f3), .int .i64 0]) ?_ 4 _ rfl; (with_reducible repeat (first | refine blk_drewN ?_ _ | refine blk_drew ?_ | refine blk_alloc ?_ _)); refine blk_put (cs := #[.int .i64 ((rd_T51 l2 (ji32)).f0), .int .i64 ((rd_T51 l2 (ji32)).f1), .int .i64 ((rd_T51 l2 (ji32)).f2), .int .i64 0, .int .i64 0]) ?_ 3 _ rfl; (with_reducible repeat (first | refine blk_drewN ?_ _ | refine blk_drew ?_ | refine blk_alloc ?_ _)); refine blk_put (cs := #[.int .i64 ((rd_T51 l2 (ji32)).f0), .int .i64 ((rd_T51 l2 (ji32)).f1), .int .i64 0, .int .i64 0, .int .i64 0]) ?_ 2 _ rfl; (with_reducible repeat (first | refine blk_drewN ?_ _ | refine blk_drew ?_ | refine blk_alloc ?_ _)); refine blk_put (cs := #[.int .i64 ((rd_T51 l2 (ji32)).f0), .int .i64 0, .int .i64 0, .int .i64 0, .int .i64 0]) ?_ 1 _ rfl; (with_reducible repeat (first | refine blk_drewN ?_ _ | refine blk_drew ?_ | refine blk_alloc ?_ _)); refine blk_put (cs := #[.int .i64 0, .int .i64 0, .int .i64 0, .int .i64 0, .int .i64 0]) ?_ 0 _ rfl; (with_reducible repeat (first | refine blk_drewN ?_ _ | refine blk_drew ?_ | refine blk_alloc ?_ _)); exact BK128.out⟩, ⟨zw3 HB.out GE118.out GE119.out GE128.out⟩⟩
       case rest =>
        clear HC35
        try clear c1; try clear p1; try clear q1; try clear c2; try clear p2; try clear c3; try clear c4; try clear c5; try clear p6; try clear c9; try clear c11; try clear c11b0; try clear c11b1; try clear p12; try clear q12; try clear c17; try clear c20; try clear c25; try clear c31; try clear c31b0; try clear c33; try clear c33b0; try clear c34; try clear c34b0; try clear c37; try clear c38; try clear c40; try clear c42; try clear c43; try clear c43b0; try clear c44; try clear c44b0; try clear c45; try clear c46; try clear p127; try clear p129; try clear p2; try clear q127; try clear q129
        obtain ⟨kq, x129000_34, x129001_34, x129002_34, x129003_34, x129004_34, HA, HJ34, BK118, BK119, BK128, HB⟩ := hcut
        cases kq with
        | zero => exact absurd HA.out (by simp [bytes_Read.j1])
        | succ kj34 =>
         have H := HA.out
         clear HA
         simp only [bytes_Read.j1] at H
         have H' := Aside0.mk H
         clear H
         have hnb48 := NB128_118.out
         have hnc48 := NB118_128.out
         have hnb49 := NB128_119.out
         have hnc49 := NB119_128.out
         have hcz50_0 := zc BK128.out 0
         have hcz50_1 := zc BK128.out 1
         have hcz50_2 := zc BK128.out 2
         have hcz50_3 := zc BK128.out 3
         have hcz50_4 := zc BK128.out 4
         have hfz50_0 := blk_frozen BK128.out 0
         have hfz50_1 := blk_frozen BK128.out 1
         have hfz50_2 := blk_frozen BK128.out 2
         have hfz50_3 := blk_frozen BK128.out 3
         have hfz50_4 := blk_frozen BK128.out 4
         go_wp2
         go_roundg kj34
         case measure => have := HK1.out; have := HJ34.out; omega
         case rel => exact ⟨(Go.bits .or .i64 (wrap64 (x8_1 * 256)) x129001_34), (wrap64 (x28_1 + 1)), (zr), (zr), H', ⟨by have := HK1.out; have := HJ34.out; omega⟩, ⟨zb BK118.out⟩, ⟨zb BK119.out⟩, ⟨zw3 HB.out GE118.out GE119.out GE128.out⟩⟩
      ·rw [if_neg c31] at H
       have c31b0 : decide (x28_1 < (l2.length : Int)) = false := decide_eq_false c31
       clear c31
       simp only [Option.some.injEq, Prod.mk.injEq] at H
       obtain ⟨rfl, rfl, rfl, rfl, rfl⟩ := H
       have hnb51 := NB119_118.out
       have hnc51 := NB118_119.out
       have hcz52_0 := zc BK119.out 0
       have hcz52_1 := zc BK119.out 1
       have hcz52_2 := zc BK119.out 2
       have hcz52_3 := zc BK119.out 3
       have hfz52_0 := blk_frozen BK119.out 0
       have hfz52_1 := blk_frozen BK119.out 1
       have hfz52_2 := blk_frozen BK119.out 2
       have hfz52_3 := blk_frozen BK119.out 3
       go_wp2
       refine bodyPost_ret (results_ct rfl _ _ gb119 33 #[.bool false, .int .i64 x8_1, .int .i64 0, .int .i64 0] (0, 0) _ rfl (by (with_reducible repeat (first | refine blk_drewN ?_ _ | refine blk_drew ?_ | refine blk_alloc ?_ _)); refine blk_put (cs := #[.bool false, .int .i64 x8_1, .int .i64 0, .int .i64 0]) ?_ 3 _ rfl; (with_reducible repeat (first | refine blk_drewN ?_ _ | refine blk_drew ?_ | refine blk_alloc ?_ _)); refine blk_put (cs := #[.bool false, .int .i64 x8_1, .int .i64 0, .int .i64 0]) ?_ 2 _ rfl; (with_reducible repeat (first | refine blk_drewN ?_ _ | refine blk_drew ?_ | refine blk_alloc ?_ _)); refine blk_put (cs := #[.bool false, .int .i64 0, .int .i64 0, .int .i64 0]) ?_ 1 _ rfl; (with_reducible repeat (first | refine blk_drewN ?_ _ | refine blk_drew ?_ | refine blk_alloc ?_ _)); refine blk_put (cs := #[.bool false, .int .i64 0, .int .i64 0, .int .i64 0]) ?_ 0 _ rfl; (with_reducible repeat (first | refine blk_drewN ?_ _ | refine blk_drew ?_ | refine blk_alloc ?_ _)); exact BK119.out) Try.underlying33 rfl (by kernel_rfl)) rfl ?_
       exact ⟨ze, zw2 HB.out GE118.out GE119.out⟩

/-! bytes_Get -/
def bytes_Get.f (k : Nat) (a0_0 : Bool) (a0_1 : Int) (a1 : Int) (l2 : List (S51)) : Option (Bool × Int × Int × Int × Int × Int) := (word_May.f a0_0 a0_1).bind fun t132 => (if t132 = true then ((word_IsScalar.f a1).bind fun t133 => (if t133 = true then ((word_Bytes.f a0_0 a0_1 a1).bind fun t134 => (if (l2.length : Int) = t134 then ((api_Byte_37.f l2 38).bind fun t135 => (if t135 = true then (some (false, 0, 0, 0, 0, 1)) else ((bytes_Read.f k a0_0 a0_1 a1 l2).bind fun bt136 => (some (bt136.1, bt136.2.1, bt136.2.2.1, bt136.2.2.2.1, bt136.2.2.2.2, 0))))) else (some (false, 0, 0, 0, 0, 1)))) else (some (false, 0, 0, 0, 0, 1)))) else (some (false, 0, 0, 0, 0, 1)))
theorem bytes_Get.mono : ∀ a0 a1 a2 a3 k, LeO (bytes_Get.f k a0 a1 a2 a3) (bytes_Get.f (k + 1) a0 a1 a2 a3) := by
 intro a0 a1 a2 a3 k
 unfold bytes_Get.f
 repeat' first
   | (with_reducible apply bytes_Read.mono)
   | (with_reducible apply LeO.refl)
   | (with_reducible apply LeO.none)
   | (with_reducible refine LeO.ite ?_ ?_)
   | (with_reducible refine LeO.bind ?_ (fun _ => ?_))
set_option maxHeartbeats 8000000 in
set_option maxRecDepth 100000 in
theorem bytes_Get.calls (k : Nat) (a0_0 : Bool) (a0_1 : Int) (a1 : Int) (A2 : Option Addr) (c2 : Nat) (l2 : List (S51)) (r1 : Bool) (r2 : Int) (r3 : Int) (r4 : Int) (r5 : Int) (r6 : Int) (w : World) (hr2 : Kd.C k51 w A2 l2.length l2) (hc2 : l2.length ≤ c2) (h : bytes_Get.f k a0_0 a0_1 a1 l2 = some (r1, r2, r3, r4, r5, r6)) :
  Calls Try.prog 17 #[.agg #[.bool a0_0, .int .i64 a0_1], .int .i64 a1, .slice A2 l2.length c2] w fun e w' => e = .returned (.tuple #[.agg #[.bool r1, .int .i64 r2, .int .i64 r3, .int .i64 r4], .int .i64 r5, .int .i64 r6]) ∧ Below w.heap.size w w' := by
 have hu38 := Try.underlying38
 have hu33 := Try.underlying33
 have HR2 := Aside0.mk hr2
 have HC2 := Aside0.mk hc2
 clear hr2 hc2
 have HB := Aside0.mk (Below.refl w.heap.size w)
 have H : ((word_May.f a0_0 a0_1).bind fun t132 => (if t132 = true then ((word_IsScalar.f a1).bind fun t133 => (if t133 = true then ((word_Bytes.f a0_0 a0_1 a1).bind fun t134 => (if (l2.length : Int) = t134 then ((api_Byte_37.f l2 38).bind fun t135 => (if t135 = true then (some (false, 0, 0, 0, 0, 1)) else ((bytes_Read.f k a0_0 a0_1 a1 l2).bind fun bt136 => (some (bt136.1, bt136.2.1, bt136.2.2.1, bt136.2.2.2.1, bt136.2.2.2.2, 0))))) else (some (false, 0, 0, 0, 0, 1)))) else (some (false, 0, 0, 0, 0, 1)))) else (some (false, 0, 0, 0, 0, 1)))) = some (r1, r2, r3, r4, r5, r6) := h
 clear h
 replace H := Option.bind_eq_some_iff.mp H
 obtain ⟨t132, A40, H⟩ := H
 replace H : (if t132 = true then ((word_IsScalar.f a1).bind fun t133 => (if t133 = true then ((word_Bytes.f a0_0 a0_1 a1).bind fun t134 => (if (l2.length : Int) = t134 then ((api_Byte_37.f l2 38).bind fun t135 => (if t135 = true then (some (false, 0, 0, 0, 0, 1)) else ((bytes_Read.f k a0_0 a0_1 a1 l2).bind fun bt136 => (some (bt136.1, bt136.2.1, bt136.2.2.1, bt136.2.2.2.1, bt136.2.2.2.2, 0))))) else (some (false, 0, 0, 0, 0, 1)))) else (some (false, 0, 0, 0, 0, 1)))) else (some (false, 0, 0, 0, 0, 1))) = some (r1, r2, r3, r4, r5, r6) := H
 have A4 := Aside0.mk A40
 clear A40
 by_cases c5 : t132 = true
 ·subst c5
  have H1 : ((word_IsScalar.f a1).bind fun t133 => (if t133 = true then ((word_Bytes.f a0_0 a0_1 a1).bind fun t134 => (if (l2.length : Int) = t134 then ((api_Byte_37.f l2 38).bind fun t135 => (if t135 = true then (some (false, 0, 0, 0, 0, 1)) else ((bytes_Read.f k a0_0 a0_1 a1 l2).bind fun bt136 => (some (bt136.1, bt136.2.1, bt136.2.2.1, bt136.2.2.2.1, bt136.2.2.2.2, 0))))) else (some (false, 0, 0, 0, 0, 1)))) else (some (false, 0, 0, 0, 0, 1)))) = some (r1, r2, r3, r4, r5, r6) := by rw [if_pos rfl] at H; exact H
  clear H
  have H := H1
  clear H1
  replace H := Option.bind_eq_some_iff.mp H
  obtain ⟨t133, A60, H⟩ := H
  replace H : (if t133 = true then ((word_Bytes.f a0_0 a0_1 a1).bind fun t134 => (if (l2.length : Int) = t134 then ((api_Byte_37.f l2 38).bind fun t135 => (if t135 = true then (some (false, 0, 0, 0, 0, 1)) else ((bytes_Read.f k a0_0 a0_1 a1 l2).bind fun bt136 => (some (bt136.1, bt136.2.1, bt136.2.2.1, bt136.2.2.2.1, bt136.2.2.2.2, 0))))) else (some (false, 0, 0, 0, 0, 1)))) else (some (false, 0, 0, 0, 0, 1))) = some (r1, r2, r3, r4, r5, r6) := H
  have A6 := Aside0.mk A60
  clear A60
  by_cases c7 : t133 = true
  rotate_left
  ·replace c7 := Bool.eq_false_iff.mpr c7
   subst c7
   have H1 : (some (false, 0, 0, 0, 0, 1)) = some (r1, r2, r3, r4, r5, r6) := by rw [if_neg (show ¬ (false = true) by decide)] at H; exact H
   clear H
   have H := H1
   clear H1
   simp only [Option.some.injEq, Prod.mk.injEq] at H
   obtain ⟨rfl, rfl, rfl, rfl, rfl, rfl⟩ := H
   go_enter Try.func17, Try.ntmps17
   go_wp2_with (first | ((with_reducible refine gate_dst (N := 3) rfl ?_); (try (refine gate_guard (by rfl) ?_; dsimp only)); refine zbox (N := 3) (cs := #[.bool a0_0, .int .i64 a0_1]) (t := 38) ?_; intro gb130 hg w41 hbox hb; have n0_ := Aside0.mk (below_step (zw0 HB.out) hb); have BK130 := Aside0.mk (hbox); have GW130 := Aside0.mk (zg hg (below_size (zw0 HB.out))); have GE130 := GW130; clear HB; have HB := n0_; clear n0_; clear hb hbox hg) | ((with_reducible refine gate_dst (N := 6) rfl ?_); (try (refine gate_guard (by rfl) ?_; dsimp only)); refine zbox (N := 6) (cs := #[.bool false, .int .i64 0, .int .i64 0, .int .i64 0]) (t := 33) ?_; intro gb131 hg w42 hbox hb; have n0_ := Aside0.mk (zbb BK130.out hb); have n1_ := Aside0.mk (below_step (zw1 HB.out GE130.out) hb); have BK131 := Aside0.mk (hbox); have GW131 := Aside0.mk (zg hg (below_size (zw1 HB.out GE130.out))); have GE131 := GW131; have NB130_131 := Aside0.mk (zlt hg BK130.out); have NB131_130 := Aside0.mk (zgt hg BK130.out); clear BK130 HB; have BK130 := n0_; have HB := n1_; clear n0_ n1_; clear hb hbox hg; have hnb43 := NB130_131.out; have hnc43 := NB131_130.out; have hcz44_0 := zc BK130.out 0; have hcz44_1 := zc BK130.out 1; have hfz44_0 := blk_frozen BK130.out 0; have hfz44_1 := blk_frozen BK130.out 1) | ((with_reducible refine gate_callee (f := 34) rfl ?_); refine zgo (some 10) Try.func34 #[.agg #[.bool a0_0, .int .i64 a0_1]] ?_; (with_reducible refine (word_May.calls a0_0 a0_1 true _ A4.out).mono ?_); rintro e w45 ⟨rfl, hb⟩; refine ⟨_, rfl, ?_⟩; have n0_ := Aside0.mk (zbb BK130.out hb); have n1_ := Aside0.mk (zbb BK131.out hb); have n2_ := Aside0.mk (below_step (zw2 HB.out GE130.out GE131.out) hb); clear BK130 BK131 HB; have BK130 := n0_; have BK131 := n1_; have HB := n2_; clear n0_ n1_ n2_; (try clear hb); (try clear hb2); (try clear hk); (try clear hi)) | (go_at_call 35; (with_reducible refine (word_IsScalar.calls a1 false _ A6.out).mono ?_); rintro e w' ⟨rfl, ⟨nd, rfl⟩⟩; (try (rw [drewN_self w45]; generalize hq_ : World.drewN w45 _ = w45; have n0_ : Aside0 (w45.heap[gb130]? = some (.cells #[.bool a0_0, .int .i64 a0_1] 38 (0, 0))) := ⟨by rw [← hq_]; exact (zb BK130.out)⟩; have n1_ : Aside0 (w45.heap[gb131]? = some (.cells #[.bool false, .int .i64 0, .int .i64 0, .int .i64 0] 33 (0, 0))) := ⟨by rw [← hq_]; exact (zb BK131.out)⟩; have n2_ : Aside0 (Below w.heap.size w w45) := ⟨by rw [← hq_]; exact (zw2 HB.out GE130.out GE131.out)⟩; clear BK130 BK131 HB hq_; have BK130 := n0_; have BK131 := n1_; have HB := n2_; clear n0_ n1_ n2_)); have hcz46_0 := zc BK131.out 0; have hcz46_1 := zc BK131.out 1; have hcz46_2 := zc BK131.out 2; have hcz46_3 := zc BK131.out 3; have hfz46_0 := blk_frozen BK131.out 0; have hfz46_1 := blk_frozen BK131.out 1; have hfz46_2 := blk_frozen BK131.out 2; have hfz46_3 := blk_frozen BK131.out 3))
   refine bodyPost_ret (results_ctt rfl _ _ gb131 33 #[.bool false, .int .i64 0, .int .i64 0, .int .i64 0] (0, 0) _ rfl (by (with_reducible repeat (first | refine blk_drewN ?_ _ | refine blk_drew ?_ | refine blk_alloc ?_ _)); refine blk_put (cs := #[.bool false, .int .i64 0, .int .i64 0, .int .i64 0]) ?_ 3 _ rfl; (with_reducible repeat (first | refine blk_drewN ?_ _ | refine blk_drew ?_ | refine blk_alloc ?_ _)); refine blk_put (cs := #[.bool false, .int .i64 0, .int .i64 0, .int .i64 0]) ?_ 2 _ rfl; (with_reducible repeat (first | refine blk_drewN ?_ _ | refine blk_drew ?_ | refine blk_alloc ?_ _)); refine blk_put (cs := #[.bool false, .int .i64 0, .int .i64 0, .int .i64 0]) ?_ 1 _ rfl; (with_reducible repeat (first | refine blk_drewN ?_ _ | refine blk_drew ?_ | refine blk_alloc ?_ _)); refine blk_put (cs := #[.bool false, .int .i64 0, .int .i64 0, .int .i64 0]) ?_ 0 _ rfl; (with_reducible repeat (first | refine blk_drewN ?_ _ | refine blk_drew ?_ | refine blk_alloc ?_ _)); exact BK131.out) Try.underlying33 rfl (by kernel_rfl)) rfl ?_
   exact ⟨ze, zw2 HB.out GE130.out GE131.out⟩
  subst c7
  have H1 : ((word_Bytes.f a0_0 a0_1 a1).bind fun t134 => (if (l2.length : Int) = t134 then ((api_Byte_37.f l2 38).bind fun t135 => (if t135 = true then (some (false, 0, 0, 0, 0, 1)) else ((bytes_Read.f k a0_0 a0_1 a1 l2).bind fun bt136 => (some (bt136.1, bt136.2.1, bt136.2.2.1, bt136.2.2.2.1, bt136.2.2.2.2, 0))))) else (some (false, 0, 0, 0, 0, 1)))) = some (r1, r2, r3, r4, r5, r6) := by rw [if_pos rfl] at H; exact H
  clear H
  have H := H1
  clear H1
  replace H := Option.bind_eq_some_iff.mp H
  obtain ⟨t134, A80, H⟩ := H
  replace H : (if (l2.length : Int) = t134 then ((api_Byte_37.f l2 38).bind fun t135 => (if t135 = true then (some (false, 0, 0, 0, 0, 1)) else ((bytes_Read.f k a0_0 a0_1 a1 l2).bind fun bt136 => (some (bt136.1, bt136.2.1, bt136.2.2.1, bt136.2.2.2.1, bt136.2.2.2.2, 0))))) else (some (false, 0, 0, 0, 0, 1))) = some (r1, r2, r3, r4, r5, r6) := H
  have A8 := Aside0.mk A80
  clear A80
  by_cases c9 : (l2.length : Int) = t134
  rotate_left
  ·rw [if_neg c9] at H
   have c9b0 : ((l2.length : Int) == t134) = false := beq_eq_false_iff_ne.mpr c9
   have c9b1 : ((l2.length : Int) != t134) = true := bne_iff_ne.mpr c9
   simp only [Option.some.injEq, Prod.mk.injEq] at H
   obtain ⟨rfl, rfl, rfl, rfl, rfl, rfl⟩ := H
   go_enter Try.func17, Try.ntmps17
   go_wp2_with (first | ((with_reducible refine gate_dst (N := 3) rfl ?_); (try (refine gate_guard (by rfl) ?_; dsimp only)); refine zbox (N := 3) (cs := #[.bool a0_0, .int .i64 a0_1]) (t := 38) ?_; intro gb130 hg w33 hbox hb; have n0_ := Aside0.mk (below_step (zw0 HB.out) hb); have BK130 := Aside0.mk (hbox); have GW130 := Aside0.mk (zg hg (below_size (zw0 HB.out))); have GE130 := GW130; clear HB; have HB := n0_; clear n0_; clear hb hbox hg) | ((with_reducible refine gate_dst (N := 6) rfl ?_); (try (refine gate_guard (by rfl) ?_; dsimp only)); refine zbox (N := 6) (cs := #[.bool false, .int .i64 0, .int .i64 0, .int .i64 0]) (t := 33) ?_; intro gb131 hg w34 hbox hb; have n0_ := Aside0.mk (zbb BK130.out hb); have n1_ := Aside0.mk (below_step (zw1 HB.out GE130.out) hb); have BK131 := Aside0.mk (hbox); have GW131 := Aside0.mk (zg hg (below_size (zw1 HB.out GE130.out))); have GE131 := GW131; have NB130_131 := Aside0.mk (zlt hg BK130.out); have NB131_130 := Aside0.mk (zgt hg BK130.out); clear BK130 HB; have BK130 := n0_; have HB := n1_; clear n0_ n1_; clear hb hbox hg; have hnb35 := NB130_131.out; have hnc35 := NB131_130.out; have hcz36_0 := zc BK130.out 0; have hcz36_1 := zc BK130.out 1; have hfz36_0 := blk_frozen BK130.out 0; have hfz36_1 := blk_frozen BK130.out 1) | ((with_reducible refine gate_callee (f := 34) rfl ?_); refine zgo (some 10) Try.func34 #[.agg #[.bool a0_0, .int .i64 a0_1]] ?_; (with_reducible refine (word_May.calls a0_0 a0_1 true _ A4.out).mono ?_); rintro e w37 ⟨rfl, hb⟩; refine ⟨_, rfl, ?_⟩; have n0_ := Aside0.mk (zbb BK130.out hb); have n1_ := Aside0.mk (zbb BK131.out hb); have n2_ := Aside0.mk (below_step (zw2 HB.out GE130.out GE131.out) hb); clear BK130 BK131 HB; have BK130 := n0_; have BK131 := n1_; have HB := n2_; clear n0_ n1_ n2_; (try clear hb); (try clear hb2); (try clear hk); (try clear hi)) | (go_at_call 35; (with_reducible refine (word_IsScalar.calls a1 true _ A6.out).mono ?_); rintro e w' ⟨rfl, ⟨nd, rfl⟩⟩; (try (rw [drewN_self w37]; generalize hq_ : World.drewN w37 _ = w37; have n0_ : Aside0 (w37.heap[gb130]? = some (.cells #[.bool a0_0, .int .i64 a0_1] 38 (0, 0))) := ⟨by rw [← hq_]; exact (zb BK130.out)⟩; have n1_ : Aside0 (w37.heap[gb131]? = some (.cells #[.bool false, .int .i64 0, .int .i64 0, .int .i64 0] 33 (0, 0))) := ⟨by rw [← hq_]; exact (zb BK131.out)⟩; have n2_ : Aside0 (Below w.heap.size w w37) := ⟨by rw [← hq_]; exact (zw2 HB.out GE130.out GE131.out)⟩; clear BK130 BK131 HB hq_; have BK130 := n0_; have BK131 := n1_; have HB := n2_; clear n0_ n1_ n2_)); have hcz38_0 := zc BK130.out 0; have hcz38_1 := zc BK130.out 1; have hfz38_0 := blk_frozen BK130.out 0; have hfz38_1 := blk_frozen BK130.out 1) | (go_at_call 36; (with_reducible refine (word_Bytes.calls a0_0 a0_1 a1 t134 _ A8.out).mono ?_); rintro e w39 ⟨rfl, hb⟩; have n0_ := Aside0.mk (zbb BK130.out hb); have n1_ := Aside0.mk (zbb BK131.out hb); have n2_ := Aside0.mk (below_step (zw2 HB.out GE130.out GE131.out) hb); clear BK130 BK131 HB; have BK130 := n0_; have BK131 := n1_; have HB := n2_; clear n0_ n1_ n2_; (try clear hb); (try clear hb2); (try clear hk); (try clear hi); have hcz40_0 := zc BK131.out 0; have hcz40_1 := zc BK131.out 1; have hcz40_2 := zc BK131.out 2; have hcz40_3 := zc BK131.out 3; have hfz40_0 := blk_frozen BK131.out 0; have hfz40_1 := blk_frozen BK131.out 1; have hfz40_2 := blk_frozen BK131.out 2; have hfz40_3 := blk_frozen BK131.out 3))
   refine bodyPost_ret (results_ctt rfl _ _ gb131 33 #[.bool false, .int .i64 0, .int .i64 0, .int .i64 0] (0, 0) _ rfl (by (with_reducible repeat (first | refine blk_drewN ?_ _ | refine blk_drew ?_ | refine blk_alloc ?_ _)); refine blk_put (cs := #[.bool false, .int .i64 0, .int .i64 0, .int .i64 0]) ?_ 3 _ rfl; (with_reducible repeat (first | refine blk_drewN ?_ _ | refine blk_drew ?_ | refine blk_alloc ?_ _)); refine blk_put (cs := #[.bool false, .int .i64 0, .int .i64 0, .int .i64 0]) ?_ 2 _ rfl; (with_reducible repeat (first | refine blk_drewN ?_ _ | refine blk_drew ?_ | refine blk_alloc ?_ _)); refine blk_put (cs := #[.bool false, .int .i64 0, .int .i64 0, .int .i64 0]) ?_ 1 _ rfl; (with_reducible repeat (first | refine blk_drewN ?_ _ | refine blk_drew ?_ | refine blk_alloc ?_ _)); refine blk_put (cs := #[.bool false, .int .i64 0, .int .i64 0, .int .i64 0]) ?_ 0 _ rfl; (with_reducible repeat (first | refine blk_drewN ?_ _ | refine blk_drew ?_ | refine blk_alloc ?_ _)); exact BK131.out) Try.underlying33 rfl (by kernel_rfl)) rfl ?_
   exact ⟨ze, zw2 HB.out GE130.out GE131.out⟩
  rw [if_pos c9] at H
  have c9b0 : ((l2.length : Int) == t134) = true := beq_iff_eq.mpr c9
  have c9b1 : ((l2.length : Int) != t134) = false := bne_eq_false_iff_eq.mpr c9
  clear c9
  replace H := Option.bind_eq_some_iff.mp H
  obtain ⟨t135, A100, H⟩ := H
  replace H : (if t135 = true then (some (false, 0, 0, 0, 0, 1)) else ((bytes_Read.f k a0_0 a0_1 a1 l2).bind fun bt136 => (some (bt136.1, bt136.2.1, bt136.2.2.1, bt136.2.2.2.1, bt136.2.2.2.2, 0)))) = some (r1, r2, r3, r4, r5, r6) := H
  have A10 := Aside0.mk A100
  clear A100
  by_cases c11 : t135 = true
  ·subst c11
   have H1 : (some (false, 0, 0, 0, 0, 1)) = some (r1, r2, r3, r4, r5, r6) := by rw [if_pos rfl] at H; exact H
   clear H
   have H := H1
   clear H1
   simp only [Option.some.injEq, Prod.mk.injEq] at H
   obtain ⟨rfl, rfl, rfl, rfl, rfl, rfl⟩ := H
   go_enter Try.func17, Try.ntmps17
   go_wp2_with (first | ((with_reducible refine gate_dst (N := 3) rfl ?_); (try (refine gate_guard (by rfl) ?_; dsimp only)); refine zbox (N := 3) (cs := #[.bool a0_0, .int .i64 a0_1]) (t := 38) ?_; intro gb130 hg w12 hbox hb; have n0_ := Aside0.mk (below_step (zw0 HB.out) hb); have BK130 := Aside0.mk (hbox); have GW130 := Aside0.mk (zg hg (below_size (zw0 HB.out))); have GE130 := GW130; clear HB; have HB := n0_; clear n0_; clear hb hbox hg) | ((with_reducible refine gate_dst (N := 6) rfl ?_); (try (refine gate_guard (by rfl) ?_; dsimp only)); refine zbox (N := 6) (cs := #[.bool false, .int .i64 0, .int .i64 0, .int .i64 0]) (t := 33) ?_; intro gb131 hg w13 hbox hb; have n0_ := Aside0.mk (zbb BK130.out hb); have n1_ := Aside0.mk (below_step (zw1 HB.out GE130.out) hb); have BK131 := Aside0.mk (hbox); have GW131 := Aside0.mk (zg hg (below_size (zw1 HB.out GE130.out))); have GE131 := GW131; have NB130_131 := Aside0.mk (zlt hg BK130.out); have NB131_130 := Aside0.mk (zgt hg BK130.out); clear BK130 HB; have BK130 := n0_; have HB := n1_; clear n0_ n1_; clear hb hbox hg; have hnb14 := NB130_131.out; have hnc14 := NB131_130.out; have hcz15_0 := zc BK130.out 0; have hcz15_1 := zc BK130.out 1; have hfz15_0 := blk_frozen BK130.out 0; have hfz15_1 := blk_frozen BK130.out 1) | ((with_reducible refine gate_callee (f := 34) rfl ?_); refine zgo (some 10) Try.func34 #[.agg #[.bool a0_0, .int .i64 a0_1]] ?_; (with_reducible refine (word_May.calls a0_0 a0_1 true _ A4.out).mono ?_); rintro e w16 ⟨rfl, hb⟩; refine ⟨_, rfl, ?_⟩; have n0_ := Aside0.mk (zbb BK130.out hb); have n1_ := Aside0.mk (zbb BK131.out hb); have n2_ := Aside0.mk (below_step (zw2 HB.out GE130.out GE131.out) hb); clear BK130 BK131 HB; have BK130 := n0_; have BK131 := n1_; have HB := n2_; clear n0_ n1_ n2_; (try clear hb); (try clear hb2); (try clear hk); (try clear hi)) | (go_at_call 35; (with_reducible refine (word_IsScalar.calls a1 true _ A6.out).mono ?_); rintro e w' ⟨rfl, ⟨nd, rfl⟩⟩; (try (rw [drewN_self w16]; generalize hq_ : World.drewN w16 _ = w16; have n0_ : Aside0 (w16.heap[gb130]? = some (.cells #[.bool a0_0, .int .i64 a0_1] 38 (0, 0))) := ⟨by rw [← hq_]; exact (zb BK130.out)⟩; have n1_ : Aside0 (w16.heap[gb131]? = some (.cells #[.bool false, .int .i64 0, .int .i64 0, .int .i64 0] 33 (0, 0))) := ⟨by rw [← hq_]; exact (zb BK131.out)⟩; have n2_ : Aside0 (Below w.heap.size w w16) := ⟨by rw [← hq_]; exact (zw2 HB.out GE130.out GE131.out)⟩; clear BK130 BK131 HB hq_; have BK130 := n0_; have BK131 := n1_; have HB := n2_; clear n0_ n1_ n2_)); have hcz17_0 := zc BK130.out 0; have hcz17_1 := zc BK130.out 1; have hfz17_0 := blk_frozen BK130.out 0; have hfz17_1 := blk_frozen BK130.out 1) | (go_at_call 36; (with_reducible refine (word_Bytes.calls a0_0 a0_1 a1 t134 _ A8.out).mono ?_); rintro e w18 ⟨rfl, hb⟩; have n0_ := Aside0.mk (zbb BK130.out hb); have n1_ := Aside0.mk (zbb BK131.out hb); have n2_ := Aside0.mk (below_step (zw2 HB.out GE130.out GE131.out) hb); clear BK130 BK131 HB; have BK130 := n0_; have BK131 := n1_; have HB := n2_; clear n0_ n1_ n2_; (try clear hb); (try clear hb2); (try clear hk); (try clear hi)) | (go_at_call 37; (with_reducible refine (api_Byte_37.calls _ _ l2 38 true _ ?side1 ?side2 A10.out).mono ?_); (case side1 => repeat (first | exact (Kd.C_below HR2.out HB.out) | (with_reducible refine Kd.C_alloc ?_ _) | (with_reducible refine Kd.C_drewN ?_ _) | (with_reducible refine Kd.C_drew ?_))); (case side2 => exact HC2.out); rintro e w19 ⟨rfl, hb⟩; have n0_ := Aside0.mk (zbb BK130.out hb); have n1_ := Aside0.mk (zbb BK131.out hb); have n2_ := Aside0.mk (below_step (zw2 HB.out GE130.out GE131.out) hb); clear BK130 BK131 HB; have BK130 := n0_; have BK131 := n1_; have HB := n2_; clear n0_ n1_ n2_; (try clear hb); (try clear hb2); (try clear hk); (try clear hi); have hcz20_0 := zc BK131.out 0; have hcz20_1 := zc BK131.out 1; have hcz20_2 := zc BK131.out 2; have hcz20_3 := zc BK131.out 3; have hfz20_0 := blk_frozen BK131.out 0; have hfz20_1 := blk_frozen BK131.out 1; have hfz20_2 := blk_frozen BK131.out 2; have hfz20_3 := blk_frozen BK131.out 3))
   refine bodyPost_ret (results_ctt rfl _ _ gb131 33 #[.bool false, .int .i64 0, .int .i64 0, .int .i64 0] (0, 0) _ rfl (by (with_reducible repeat (first | refine blk_drewN ?_ _ | refine blk_drew ?_ | refine blk_alloc ?_ _)); refine blk_put (cs := #[.bool false, .int .i64 0, .int .i64 0, .int .i64 0]) ?_ 3 _ rfl; (with_reducible repeat (first | refine blk_drewN ?_ _ | refine blk_drew ?_ | refine blk_alloc ?_ _)); refine blk_put (cs := #[.bool false, .int .i64 0, .int .i64 0, .int .i64 0]) ?_ 2 _ rfl; (with_reducible repeat (first | refine blk_drewN ?_ _ | refine blk_drew ?_ | refine blk_alloc ?_ _)); refine blk_put (cs := #[.bool false, .int .i64 0, .int .i64 0, .int .i64 0]) ?_ 1 _ rfl; (with_reducible repeat (first | refine blk_drewN ?_ _ | refine blk_drew ?_ | refine blk_alloc ?_ _)); refine blk_put (cs := #[.bool false, .int .i64 0, .int .i64 0, .int .i64 0]) ?_ 0 _ rfl; (with_reducible repeat (first | refine blk_drewN ?_ _ | refine blk_drew ?_ | refine blk_alloc ?_ _)); exact BK131.out) Try.underlying33 rfl (by kernel_rfl)) rfl ?_
   exact ⟨ze, zw2 HB.out GE130.out GE131.out⟩
  replace c11 := Bool.eq_false_iff.mpr c11
  subst c11
  have H1 : ((bytes_Read.f k a0_0 a0_1 a1 l2).bind fun bt136 => (some (bt136.1, bt136.2.1, bt136.2.2.1, bt136.2.2.2.1, bt136.2.2.2.2, 0))) = some (r1, r2, r3, r4, r5, r6) := by rw [if_neg (show ¬ (false = true) by decide)] at H; exact H
  clear H
  have H := H1
  clear H1
  replace H := Option.bind_eq_some_iff.mp H
  obtain ⟨⟨t136, t137, t138, t139, t140⟩, A210, H⟩ := H
  replace H : (some (t136, t137, t138, t139, t140, 0)) = some (r1, r2, r3, r4, r5, r6) := H
  have A21 := Aside0.mk A210
  clear A210
  simp only [Option.some.injEq, Prod.mk.injEq] at H
  obtain ⟨rfl, rfl, rfl, rfl, rfl, rfl⟩ := H
  go_enter Try.func17, Try.ntmps17
  go_wp2_with (first | ((with_reducible refine gate_dst (N := 3) rfl ?_); (try (refine gate_guard (by rfl) ?_; dsimp only)); refine zbox (N := 3) (cs := #[.bool a0_0, .int .i64 a0_1]) (t := 38) ?_; intro gb130 hg w22 hbox hb; have n0_ := Aside0.mk (below_step (zw0 HB.out) hb); have BK130 := Aside0.mk (hbox); have GW130 := Aside0.mk (zg hg (below_size (zw0 HB.out))); have GE130 := GW130; clear HB; have HB := n0_; clear n0_; clear hb hbox hg) | ((with_reducible refine gate_dst (N := 6) rfl ?_); (try (refine gate_guard (by rfl) ?_; dsimp only)); refine zbox (N := 6) (cs := #[.bool false, .int .i64 0, .int .i64 0, .int .i64 0]) (t := 33) ?_; intro gb131 hg w23 hbox hb; have n0_ := Aside0.mk (zbb BK130.out hb); have n1_ := Aside0.mk (below_step (zw1 HB.out GE130.out) hb); have BK131 := Aside0.mk (hbox); have GW131 := Aside0.mk (zg hg (below_size (zw1 HB.out GE130.out))); have GE131 := GW131; have NB130_131 := Aside0.mk (zlt hg BK130.out); have NB131_130 := Aside0.mk (zgt hg BK130.out); clear BK130 HB; have BK130 := n0_; have HB := n1_; clear n0_ n1_; clear hb hbox hg; have hnb24 := NB130_131.out; have hnc24 := NB131_130.out; have hcz25_0 := zc BK130.out 0; have hcz25_1 := zc BK130.out 1; have hfz25_0 := blk_frozen BK130.out 0; have hfz25_1 := blk_frozen BK130.out 1) | ((with_reducible refine gate_callee (f := 34) rfl ?_); refine zgo (some 10) Try.func34 #[.agg #[.bool a0_0, .int .i64 a0_1]] ?_; (with_reducible refine (word_May.calls a0_0 a0_1 true _ A4.out).mono ?_); rintro e w26 ⟨rfl, hb⟩; refine ⟨_, rfl, ?_⟩; have n0_ := Aside0.mk (zbb BK130.out hb); have n1_ := Aside0.mk (zbb BK131.out hb); have n2_ := Aside0.mk (below_step (zw2 HB.out GE130.out GE131.out) hb); clear BK130 BK131 HB; have BK130 := n0_; have BK131 := n1_; have HB := n2_; clear n0_ n1_ n2_; (try clear hb); (try clear hb2); (try clear hk); (try clear hi)) | (go_at_call 35; (with_reducible refine (word_IsScalar.calls a1 true _ A6.out).mono ?_); rintro e w' ⟨rfl, ⟨nd, rfl⟩⟩; (try (rw [drewN_self w26]; generalize hq_ : World.drewN w26 _ = w26; have n0_ : Aside0 (w26.heap[gb130]? = some (.cells #[.bool a0_0, .int .i64 a0_1] 38 (0, 0))) := ⟨by rw [← hq_]; exact (zb BK130.out)⟩; have n1_ : Aside0 (w26.heap[gb131]? = some (.cells #[.bool false, .int .i64 0, .int .i64 0, .int .i64 0] 33 (0, 0))) := ⟨by rw [← hq_]; exact (zb BK131.out)⟩; have n2_ : Aside0 (Below w.heap.size w w26) := ⟨by rw [← hq_]; exact (zw2 HB.out GE130.out GE131.out)⟩; clear BK130 BK131 HB hq_; have BK130 := n0_; have BK131 := n1_; have HB := n2_; clear n0_ n1_ n2_)); have hcz27_0 := zc BK130.out 0; have hcz27_1 := zc BK130.out 1; have hfz27_0 := blk_frozen BK130.out 0; have hfz27_1 := blk_frozen BK130.out 1) | (go_at_call 36; (with_reducible refine (word_Bytes.calls a0_0 a0_1 a1 t134 _ A8.out).mono ?_); rintro e w28 ⟨rfl, hb⟩; have n0_ := Aside0.mk (zbb BK130.out hb); have n1_ := Aside0.mk (zbb BK131.out hb); have n2_ := Aside0.mk (below_step (zw2 HB.out GE130.out GE131.out) hb); clear BK130 BK131 HB; have BK130 := n0_; have BK131 := n1_; have HB := n2_; clear n0_ n1_ n2_; (try clear hb); (try clear hb2); (try clear hk); (try clear hi)) | (go_at_call 37; (with_reducible refine (api_Byte_37.calls _ _ l2 38 false _ ?side1 ?side2 A10.out).mono ?_); (case side1 => repeat (first | exact (Kd.C_below HR2.out HB.out) | (with_reducible refine Kd.C_alloc ?_ _) | (with_reducible refine Kd.C_drewN ?_ _) | (with_reducible refine Kd.C_drew ?_))); (case side2 => exact HC2.out); rintro e w29 ⟨rfl, hb⟩; have n0_ := Aside0.mk (zbb BK130.out hb); have n1_ := Aside0.mk (zbb BK131.out hb); have n2_ := Aside0.mk (below_step (zw2 HB.out GE130.out GE131.out) hb); clear BK130 BK131 HB; have BK130 := n0_; have BK131 := n1_; have HB := n2_; clear n0_ n1_ n2_; (try clear hb); (try clear hb2); (try clear hk); (try clear hi); have hcz30_0 := zc BK130.out 0; have hcz30_1 := zc BK130.out 1; have hfz30_0 := blk_frozen BK130.out 0; have hfz30_1 := blk_frozen BK130.out 1) | ((with_reducible refine gate_callee (f := 40) rfl ?_); refine zgo (some 34) Try.func40 #[.agg #[.bool a0_0, .int .i64 a0_1], .int .i64 a1, .slice A2 l2.length c2] ?_; (with_reducible refine (bytes_Read.calls k a0_0 a0_1 a1 _ _ l2 t136 t137 t138 t139 t140 _ ?side1 ?side2 A21.out).mono ?_); (case side1 => repeat (first | exact (Kd.C_below HR2.out HB.out) | (with_reducible refine Kd.C_alloc ?_ _) | (with_reducible refine Kd.C_drewN ?_ _) | (with_reducible refine Kd.C_drew ?_))); (case side2 => exact HC2.out); rintro e w31 ⟨rfl, hb⟩; refine ⟨_, rfl, ?_⟩; have n0_ := Aside0.mk (zbb BK130.out hb); have n1_ := Aside0.mk (zbb BK131.out hb); have n2_ := Aside0.mk (below_step (zw2 HB.out GE130.out GE131.out) hb); clear BK130 BK131 HB; have BK130 := n0_; have BK131 := n1_; have HB := n2_; clear n0_ n1_ n2_; (try clear hb); (try clear hb2); (try clear hk); (try clear hi); have hcz32_0 := zc BK131.out 0; have hcz32_1 := zc BK131.out 1; have hcz32_2 := zc BK131.out 2; have hcz32_3 := zc BK131.out 3; have hfz32_0 := blk_frozen BK131.out 0; have hfz32_1 := blk_frozen BK131.out 1; have hfz32_2 := blk_frozen BK131.out 2; have hfz32_3 := blk_frozen BK131.out 3))
  refine bodyPost_ret (results_ctt rfl _ _ gb131 33 #[.bool t136, .int .i64 t137, .int .i64 t138, .int .i64 t139] (0, 0) _ rfl (by (with_reducible repeat (first | refine blk_drewN ?_ _ | refine blk_drew ?_ | refine blk_alloc ?_ _)); refine blk_put (cs := #[.bool t136, .int .i64 t137, .int .i64 t138, .int .i64 t139]) ?_ 3 _ rfl; (with_reducible repeat (first | refine blk_drewN ?_ _ | refine blk_drew ?_ | refine blk_alloc ?_ _)); refine blk_put (cs := #[.bool t136, .int .i64 t137, .int .i64 t138, .int .i64 t139]) ?_ 2 _ rfl; (with_reducible repeat (first | refine blk_drewN ?_ _ | refine blk_drew ?_ | refine blk_alloc ?_ _)); refine blk_put (cs := #[.bool t136, .int .i64 t137, .int .i64 t138, .int .i64 t139]) ?_ 1 _ rfl; (with_reducible repeat (first | refine blk_drewN ?_ _ | refine blk_drew ?_ | refine blk_alloc ?_ _)); refine blk_put (cs := #[.bool t136, .int .i64 t137, .int .i64 t138, .int .i64 t139]) ?_ 0 _ rfl; (with_reducible repeat (first | refine blk_drewN ?_ _ | refine blk_drew ?_ | refine blk_alloc ?_ _)); refine blk_put (cs := #[.bool t136, .int .i64 t137, .int .i64 t138, .int .i64 0]) ?_ 3 _ rfl; (with_reducible repeat (first | refine blk_drewN ?_ _ | refine blk_drew ?_ | refine blk_alloc ?_ _)); refine blk_put (cs := #[.bool t136, .int .i64 t137, .int .i64 0, .int .i64 0]) ?_ 2 _ rfl; (with_reducible repeat (first | refine blk_drewN ?_ _ | refine blk_drew ?_ | refine blk_alloc ?_ _)); refine blk_put (cs := #[.bool t136, .int .i64 0, .int .i64 0, .int .i64 0]) ?_ 1 _ rfl; (with_reducible repeat (first | refine blk_drewN ?_ _ | refine blk_drew ?_ | refine blk_alloc ?_ _)); refine blk_put (cs := #[.bool false, .int .i64 0, .int .i64 0, .int .i64 0]) ?_ 0 _ rfl; (with_reducible repeat (first | refine blk_drewN ?_ _ | refine blk_drew ?_ | refine blk_alloc ?_ _)); exact BK131.out) Try.underlying33 rfl (by kernel_rfl)) rfl ?_
  exact ⟨ze, zw2 HB.out GE130.out GE131.out⟩
 ·replace c5 := Bool.eq_false_iff.mpr c5
  subst c5
  have H1 : (some (false, 0, 0, 0, 0, 1)) = some (r1, r2, r3, r4, r5, r6) := by rw [if_neg (show ¬ (false = true) by decide)] at H; exact H
  clear H
  have H := H1
  clear H1
  simp only [Option.some.injEq, Prod.mk.injEq] at H
  obtain ⟨rfl, rfl, rfl, rfl, rfl, rfl⟩ := H
  go_enter Try.func17, Try.ntmps17
  go_wp2_with (first | ((with_reducible refine gate_dst (N := 3) rfl ?_); (try (refine gate_guard (by rfl) ?_; dsimp only)); refine zbox (N := 3) (cs := #[.bool a0_0, .int .i64 a0_1]) (t := 38) ?_; intro gb130 hg w47 hbox hb; have n0_ := Aside0.mk (below_step (zw0 HB.out) hb); have BK130 := Aside0.mk (hbox); have GW130 := Aside0.mk (zg hg (below_size (zw0 HB.out))); have GE130 := GW130; clear HB; have HB := n0_; clear n0_; clear hb hbox hg) | ((with_reducible refine gate_dst (N := 6) rfl ?_); (try (refine gate_guard (by rfl) ?_; dsimp only)); refine zbox (N := 6) (cs := #[.bool false, .int .i64 0, .int .i64 0, .int .i64 0]) (t := 33) ?_; intro gb131 hg w48 hbox hb; have n0_ := Aside0.mk (zbb BK130.out hb); have n1_ := Aside0.mk (below_step (zw1 HB.out GE130.out) hb); have BK131 := Aside0.mk (hbox); have GW131 := Aside0.mk (zg hg (below_size (zw1 HB.out GE130.out))); have GE131 := GW131; have NB130_131 := Aside0.mk (zlt hg BK130.out); have NB131_130 := Aside0.mk (zgt hg BK130.out); clear BK130 HB; have BK130 := n0_; have HB := n1_; clear n0_ n1_; clear hb hbox hg; have hnb49 := NB130_131.out; have hnc49 := NB131_130.out; have hcz50_0 := zc BK130.out 0; have hcz50_1 := zc BK130.out 1; have hfz50_0 := blk_frozen BK130.out 0; have hfz50_1 := blk_frozen BK130.out 1) | ((with_reducible refine gate_callee (f := 34) rfl ?_); refine zgo (some 10) Try.func34 #[.agg #[.bool a0_0, .int .i64 a0_1]] ?_; (with_reducible refine (word_May.calls a0_0 a0_1 false _ A4.out).mono ?_); rintro e w51 ⟨rfl, hb⟩; refine ⟨_, rfl, ?_⟩; have n0_ := Aside0.mk (zbb BK130.out hb); have n1_ := Aside0.mk (zbb BK131.out hb); have n2_ := Aside0.mk (below_step (zw2 HB.out GE130.out GE131.out) hb); clear BK130 BK131 HB; have BK130 := n0_; have BK131 := n1_; have HB := n2_; clear n0_ n1_ n2_; (try clear hb); (try clear hb2); (try clear hk); (try clear hi); have hcz52_0 := zc BK131.out 0; have hcz52_1 := zc BK131.out 1; have hcz52_2 := zc BK131.out 2; have hcz52_3 := zc BK131.out 3; have hfz52_0 := blk_frozen BK131.out 0; have hfz52_1 := blk_frozen BK131.out 1; have hfz52_2 := blk_frozen BK131.out 2; have hfz52_3 := blk_frozen BK131.out 3))
  refine bodyPost_ret (results_ctt rfl _ _ gb131 33 #[.bool false, .int .i64 0, .int .i64 0, .int .i64 0] (0, 0) _ rfl (by (with_reducible repeat (first | refine blk_drewN ?_ _ | refine blk_drew ?_ | refine blk_alloc ?_ _)); refine blk_put (cs := #[.bool false, .int .i64 0, .int .i64 0, .int .i64 0]) ?_ 3 _ rfl; (with_reducible repeat (first | refine blk_drewN ?_ _ | refine blk_drew ?_ | refine blk_alloc ?_ _)); refine blk_put (cs := #[.bool false, .int .i64 0, .int .i64 0, .int .i64 0]) ?_ 2 _ rfl; (with_reducible repeat (first | refine blk_drewN ?_ _ | refine blk_drew ?_ | refine blk_alloc ?_ _)); refine blk_put (cs := #[.bool false, .int .i64 0, .int .i64 0, .int .i64 0]) ?_ 1 _ rfl; (with_reducible repeat (first | refine blk_drewN ?_ _ | refine blk_drew ?_ | refine blk_alloc ?_ _)); refine blk_put (cs := #[.bool false, .int .i64 0, .int .i64 0, .int .i64 0]) ?_ 0 _ rfl; (with_reducible repeat (first | refine blk_drewN ?_ _ | refine blk_drew ?_ | refine blk_alloc ?_ _)); exact BK131.out) Try.underlying33 rfl (by kernel_rfl)) rfl ?_
  exact ⟨ze, zw2 HB.out GE130.out GE131.out⟩

/-! cellarlaw8_num -/
def cellarlaw8_num.f (a0 : Int) : Option (Int) := some a0
set_option maxHeartbeats 8000000 in
set_option maxRecDepth 100000 in
theorem cellarlaw8_num.calls (a0 : Int) (r : Int) (w : World) (h : cellarlaw8_num.f a0 = some r) :
  Calls Try.prog 23 #[.int .i64 a0] w fun e w' => e = .returned (.int .i64 r) ∧ Drawn0 w w' := by
 have H : (some a0) = some r := h
 clear h
 obtain rfl := Option.some.inj H
 go_enter Try.func23, Try.ntmps23
 go_wp2
 go_ret
 exact ⟨zr, by repeat (first | exact Drawn0.refl _ | apply Drawn0.step)⟩

/-! word_IsKind -/
def word_IsKind.f (a0 : Int) : Option (Bool) := if a0 ≥ 1 then (some (decide (a0 ≤ 6))) else (some false)
set_option maxHeartbeats 8000000 in
set_option maxRecDepth 100000 in
theorem word_IsKind.calls (a0 : Int) (r : Bool) (w : World) (h : word_IsKind.f a0 = some r) :
  Calls Try.prog 53 #[.int .i64 a0] w fun e w' => e = .returned (.bool r) ∧ Drawn0 w w' := by
 have H : (if a0 ≥ 1 then (some (decide (a0 ≤ 6))) else (some false)) = some r := h
 clear h
 by_cases c2 : a0 ≥ 1
 ·rw [if_pos c2] at H
  have c2b0 : decide (1 ≤ a0) = true := decide_eq_true c2
  clear c2
  obtain rfl := Option.some.inj H
  go_enter Try.func53, Try.ntmps53
  go_wp2
  go_ret
  exact ⟨zr, by repeat (first | exact Drawn0.refl _ | apply Drawn0.step)⟩
 ·rw [if_neg c2] at H
  have c2b0 : decide (1 ≤ a0) = false := decide_eq_false c2
  clear c2
  obtain rfl := Option.some.inj H
  go_enter Try.func53, Try.ntmps53
  go_wp2
  go_ret
  exact ⟨zr, by repeat (first | exact Drawn0.refl _ | apply Drawn0.step)⟩

/-! word_Most -/
def word_Most.f (a0 : Int) : Option (Int) := if 0 ≤ a0 then (some (wrap64 ((shl .i64 1 a0) - 1))) else (none)
set_option maxHeartbeats 8000000 in
set_option maxRecDepth 100000 in
theorem word_Most.calls (a0 : Int) (r : Int) (w : World) (h : word_Most.f a0 = some r) :
  Calls Try.prog 57 #[.int .i64 a0] w fun e w' => e = .returned (.int .i64 r) ∧ Drawn0 w w' := by
 have H : (if 0 ≤ a0 then (some (wrap64 ((shl .i64 1 a0) - 1))) else (none)) = some r := h
 clear h
 by_cases c2 : 0 ≤ a0
 ·rw [if_pos c2] at H
  have c2b0 := eq_true c2
  have c2b1 : decide (0 ≤ a0) = true := decide_eq_true c2
  clear c2
  obtain ⟨ji3, hji3⟩ : ∃ j_ : Int, (shl .i64 1 a0) = j_ := ⟨_, rfl⟩
  replace H : (some (wrap64 ((ji3) - 1))) = some r := by first | (rw [hji3] at H; exact H) | (simp only [hji3] at H ⊢; exact H)
  have hji3_ : (IntKind.i64.wrap (1 * 2 ^ min a0.toNat 64)) = ji3 := hji3
  have hji3z : a0 ≤ 64 → (IntKind.i64.wrap (1 * 2 ^ a0.toNat)) = ji3 := shl_small hji3
  have hji3u : (IntKind.i64.wrap (2 ^ min a0.toNat 64)) = ji3 := by have h_ := hji3_; rw [Int.one_mul] at h_; exact h_
  have hji3v : a0 ≤ 64 → (IntKind.i64.wrap (2 ^ a0.toNat)) = ji3 := fun hle_ => by have h_ := hji3z hle_; rw [Int.one_mul] at h_; exact h_
  have hji3y : (wrap64 (1 * 2 ^ min a0.toNat 64)) = ji3 := (i64_w _).symm.trans hji3_
  have hji3x : a0 ≤ 64 → (wrap64 (1 * 2 ^ a0.toNat)) = ji3 := fun h_ => (i64_w _).symm.trans (hji3z h_)
  obtain rfl := Option.some.inj H
  go_enter Try.func57, Try.ntmps57
  go_wp2
  go_ret
  exact ⟨by first | rfl | (simp; done) | (simp only [← hji3] <;> (first | rfl | simp)) | (simp [*]; done), by repeat (first | exact Drawn0.refl _ | apply Drawn0.step)⟩
 ·rw [if_neg c2] at H
  exact absurd H (by simp)

/-! word_Is -/
def word_Is.f (a0 : Int) (a1 : Int) : Option (Bool) := if a0 ≥ 0 then ((word_Most.f a1).bind fun t141 => (some (decide (a0 ≤ t141)))) else (some false)
set_option maxHeartbeats 8000000 in
set_option maxRecDepth 100000 in
theorem word_Is.calls (a0 : Int) (a1 : Int) (r : Bool) (w : World) (h : word_Is.f a0 a1 = some r) :
  Calls Try.prog 54 #[.int .i64 a0, .int .i64 a1] w fun e w' => e = .returned (.bool r) ∧ Drawn0 w w' := by
 have H : (if a0 ≥ 0 then ((word_Most.f a1).bind fun t141 => (some (decide (a0 ≤ t141)))) else (some false)) = some r := h
 clear h
 by_cases c3 : a0 ≥ 0
 ·rw [if_pos c3] at H
  have c3b0 : decide (0 ≤ a0) = true := decide_eq_true c3
  clear c3
  replace H := Option.bind_eq_some_iff.mp H
  obtain ⟨t141, A40, H⟩ := H
  replace H : (some (decide (a0 ≤ t141))) = some r := H
  have A4 := Aside0.mk A40
  clear A40
  obtain rfl := Option.some.inj H
  go_enter Try.func54, Try.ntmps54
  go_wp2_with (first | (go_at_call 57; (with_reducible refine (word_Most.calls a1 t141 _ A4.out).mono ?_); rintro e w' ⟨rfl, ⟨nd, rfl⟩⟩))
  go_ret
  exact ⟨zr, by repeat (first | exact Drawn0.refl _ | apply Drawn0.step)⟩
 ·rw [if_neg c3] at H
  have c3b0 : decide (0 ≤ a0) = false := decide_eq_false c3
  clear c3
  obtain rfl := Option.some.inj H
  go_enter Try.func54, Try.ntmps54
  go_wp2
  go_ret
  exact ⟨zr, by repeat (first | exact Drawn0.refl _ | apply Drawn0.step)⟩

/-! bytes_May -/
def bytes_May.f (a0 : Int) (a1_0 : Bool) (a1_1 : Int) (a1_2 : Int) (a1_3 : Int) : Option (Bool) := (word_IsKind.f a0).bind fun t143 => (if t143 = true then (if a1_0 = true then (some false) else ((word_Of.f a0).bind fun t144 => ((word_Is.f a1_1 t144).bind fun t145 => (if t145 = true then (if a1_2 = 0 then (some (a1_3 == 0)) else (some false)) else (some false))))) else (if a0 = 7 then (if a1_0 = true then (if a1_1 = 0 then ((bytes_up.f a1_2 32).bind fun t146 => (if t146 = true then ((bytes_up.f a1_3 32).bind fun t147 => (if t147 = true then (if a1_2 > 0 then (some true) else (some (a1_3 == 0))) else (some false))) else (some false))) else (some false)) else (some false)) else (some false)))
set_option maxHeartbeats 8000000 in
set_option maxRecDepth 100000 in
theorem bytes_May.calls (a0 : Int) (a1_0 : Bool) (a1_1 : Int) (a1_2 : Int) (a1_3 : Int) (r : Bool) (w : World) (h : bytes_May.f a0 a1_0 a1_1 a1_2 a1_3 = some r) :
  Calls Try.prog 43 #[.int .i64 a0, .agg #[.bool a1_0, .int .i64 a1_1, .int .i64 a1_2, .int .i64 a1_3]] w fun e w' => e = .returned (.bool r) ∧ Below w.heap.size w w' := by
 have hu33 := Try.underlying33
 have HB := Aside0.mk (Below.refl w.heap.size w)
 have H : ((word_IsKind.f a0).bind fun t143 => (if t143 = true then (if a1_0 = true then (some false) else ((word_Of.f a0).bind fun t144 => ((word_Is.f a1_1 t144).bind fun t145 => (if t145 = true then (if a1_2 = 0 then (some (a1_3 == 0)) else (some false)) else (some false))))) else (if a0 = 7 then (if a1_0 = true then (if a1_1 = 0 then ((bytes_up.f a1_2 32).bind fun t146 => (if t146 = true then ((bytes_up.f a1_3 32).bind fun t147 => (if t147 = true then (if a1_2 > 0 then (some true) else (some (a1_3 == 0))) else (some false))) else (some false))) else (some false)) else (some false)) else (some false)))) = some r := h
 clear h
 replace H := Option.bind_eq_some_iff.mp H
 obtain ⟨t143, A30, H⟩ := H
 replace H : (if t143 = true then (if a1_0 = true then (some false) else ((word_Of.f a0).bind fun t144 => ((word_Is.f a1_1 t144).bind fun t145 => (if t145 = true then (if a1_2 = 0 then (some (a1_3 == 0)) else (some false)) else (some false))))) else (if a0 = 7 then (if a1_0 = true then (if a1_1 = 0 then ((bytes_up.f a1_2 32).bind fun t146 => (if t146 = true then ((bytes_up.f a1_3 32).bind fun t147 => (if t147 = true then (if a1_2 > 0 then (some true) else (some (a1_3 == 0))) else (some false))) else (some false))) else (some false)) else (some false)) else (some false))) = some r := H
 have A3 := Aside0.mk A30
 clear A30
 by_cases c4 : t143 = true
 ·subst c4
  have H1 : (if a1_0 = true then (some false) else ((word_Of.f a0).bind fun t144 => ((word_Is.f a1_1 t144).bind fun t145 => (if t145 = true then (if a1_2 = 0 then (some (a1_3 == 0)) else (some false)) else (some false))))) = some r := by rw [if_pos rfl] at H; exact H
  clear H
  have H := H1
  clear H1
  by_cases c5 : a1_0 = true
  ·subst c5
   have H1 : (some false) = some r := by rw [if_pos rfl] at H; exact H
   clear H
   have H := H1
   clear H1
   obtain rfl := Option.some.inj H
   go_enter Try.func43, Try.ntmps43
   go_wp2_with (first | ((with_reducible refine gate_dst (N := 3) rfl ?_); refine zbox (N := 3) (cs := #[.bool true, .int .i64 a1_1, .int .i64 a1_2, .int .i64 a1_3]) (t := 33) ?_; intro gb142 hg w6 hbox hb; have n0_ := Aside0.mk (below_step (zw0 HB.out) hb); have BK142 := Aside0.mk (hbox); have GW142 := Aside0.mk (zg hg (below_size (zw0 HB.out))); have GE142 := GW142; clear HB; have HB := n0_; clear n0_; clear hb hbox hg) | (go_at_call 53; (with_reducible refine (word_IsKind.calls a0 true _ A3.out).mono ?_); rintro e w' ⟨rfl, ⟨nd, rfl⟩⟩; (try first | exact ⟨rfl, _, World.drewN_drewN _ _ _⟩ | exact ⟨rfl, _, Eq.trans (World.drewN_drewN _ _ _) (congrArg (World.drewN _) (Nat.add_assoc _ _ _))⟩); have hcz7_0 := zc BK142.out 0; have hcz7_1 := zc BK142.out 1; have hcz7_2 := zc BK142.out 2; have hcz7_3 := zc BK142.out 3; have hfz7_0 := blk_frozen BK142.out 0; have hfz7_1 := blk_frozen BK142.out 1; have hfz7_2 := blk_frozen BK142.out 2; have hfz7_3 := blk_frozen BK142.out 3))
   repeat (go_quiet (first | ((with_reducible refine gate_dst (N := 3) rfl ?_); refine zbox (N := 3) (cs := #[.bool true, .int .i64 a1_1, .int .i64 a1_2, .int .i64 a1_3]) (t := 33) ?_; intro gb142 hg w6 hbox hb; have n0_ := Aside0.mk (below_step (zw0 HB.out) hb); have BK142 := Aside0.mk (hbox); have GW142 := Aside0.mk (zg hg (below_size (zw0 HB.out))); have GE142 := GW142; clear HB; have HB := n0_; clear n0_; clear hb hbox hg) | (go_at_call 53; (with_reducible refine (word_IsKind.calls a0 true _ A3.out).mono ?_); rintro e w' ⟨rfl, ⟨nd, rfl⟩⟩; (try first | exact ⟨rfl, _, World.drewN_drewN _ _ _⟩ | exact ⟨rfl, _, Eq.trans (World.drewN_drewN _ _ _) (congrArg (World.drewN _) (Nat.add_assoc _ _ _))⟩); have hcz7_0 := zc BK142.out 0; have hcz7_1 := zc BK142.out 1; have hcz7_2 := zc BK142.out 2; have hcz7_3 := zc BK142.out 3; have hfz7_0 := blk_frozen BK142.out 0; have hfz7_1 := blk_frozen BK142.out 1; have hfz7_2 := blk_frozen BK142.out 2; have hfz7_3 := blk_frozen BK142.out 3)); try go_wp2_with (first | ((with_reducible refine gate_dst (N := 3) rfl ?_); refine zbox (N := 3) (cs := #[.bool true, .int .i64 a1_1, .int .i64 a1_2, .int .i64 a1_3]) (t := 33) ?_; intro gb142 hg w6 hbox hb; have n0_ := Aside0.mk (below_step (zw0 HB.out) hb); have BK142 := Aside0.mk (hbox); have GW142 := Aside0.mk (zg hg (below_size (zw0 HB.out))); have GE142 := GW142; clear HB; have HB := n0_; clear n0_; clear hb hbox hg) | (go_at_call 53; (with_reducible refine (word_IsKind.calls a0 true _ A3.out).mono ?_); rintro e w' ⟨rfl, ⟨nd, rfl⟩⟩; (try first | exact ⟨rfl, _, World.drewN_drewN _ _ _⟩ | exact ⟨rfl, _, Eq.trans (World.drewN_drewN _ _ _) (congrArg (World.drewN _) (Nat.add_assoc _ _ _))⟩); have hcz7_0 := zc BK142.out 0; have hcz7_1 := zc BK142.out 1; have hcz7_2 := zc BK142.out 2; have hcz7_3 := zc BK142.out 3; have hfz7_0 := blk_frozen BK142.out 0; have hfz7_1 := blk_frozen BK142.out 1; have hfz7_2 := blk_frozen BK142.out 2; have hfz7_3 := blk_frozen BK142.out 3)))
   go_ret
   exact ⟨ze, zw1 HB.out GE142.out⟩
  replace c5 := Bool.eq_false_iff.mpr c5
  subst c5
  have H1 : ((word_Of.f a0).bind fun t144 => ((word_Is.f a1_1 t144).bind fun t145 => (if t145 = true then (if a1_2 = 0 then (some (a1_3 == 0)) else (some false)) else (some false)))) = some r := by rw [if_neg (show ¬ (false = true) by decide)] at H; exact H
  clear H
  have H := H1
  clear H1
  replace H := Option.bind_eq_some_iff.mp H
  obtain ⟨t144, A80, H⟩ := H
  replace H : ((word_Is.f a1_1 t144).bind fun t145 => (if t145 = true then (if a1_2 = 0 then (some (a1_3 == 0)) else (some false)) else (some false))) = some r := H
  have A8 := Aside0.mk A80
  clear A80
  replace H := Option.bind_eq_some_iff.mp H
  obtain ⟨t145, A90, H⟩ := H
  replace H : (if t145 = true then (if a1_2 = 0 then (some (a1_3 == 0)) else (some false)) else (some false)) = some r := H
  have A9 := Aside0.mk A90
  clear A90
  by_cases c10 : t145 = true
  rotate_left
  ·replace c10 := Bool.eq_false_iff.mpr c10
   subst c10
   have H1 : (some false) = some r := by rw [if_neg (show ¬ (false = true) by decide)] at H; exact H
   clear H
   have H := H1
   clear H1
   obtain rfl := Option.some.inj H
   go_enter Try.func43, Try.ntmps43
   go_wp2_with (first | ((with_reducible refine gate_dst (N := 3) rfl ?_); refine zbox (N := 3) (cs := #[.bool false, .int .i64 a1_1, .int .i64 a1_2, .int .i64 a1_3]) (t := 33) ?_; intro gb142 hg w16 hbox hb; have n0_ := Aside0.mk (below_step (zw0 HB.out) hb); have BK142 := Aside0.mk (hbox); have GW142 := Aside0.mk (zg hg (below_size (zw0 HB.out))); have GE142 := GW142; clear HB; have HB := n0_; clear n0_; clear hb hbox hg) | (go_at_call 53; (with_reducible refine (word_IsKind.calls a0 true _ A3.out).mono ?_); rintro e w' ⟨rfl, ⟨nd, rfl⟩⟩; (try first | exact ⟨rfl, _, World.drewN_drewN _ _ _⟩ | exact ⟨rfl, _, Eq.trans (World.drewN_drewN _ _ _) (congrArg (World.drewN _) (Nat.add_assoc _ _ _))⟩); have hcz17_0 := zc BK142.out 0; have hcz17_1 := zc BK142.out 1; have hcz17_2 := zc BK142.out 2; have hcz17_3 := zc BK142.out 3; have hfz17_0 := blk_frozen BK142.out 0; have hfz17_1 := blk_frozen BK142.out 1; have hfz17_2 := blk_frozen BK142.out 2; have hfz17_3 := blk_frozen BK142.out 3) | (go_at_call 48; (with_reducible refine (word_Of.calls a0 t144 _ A8.out).mono ?_); rintro e w' ⟨rfl, ⟨nd, rfl⟩⟩; (try first | exact ⟨rfl, _, World.drewN_drewN _ _ _⟩ | exact ⟨rfl, _, Eq.trans (World.drewN_drewN _ _ _) (congrArg (World.drewN _) (Nat.add_assoc _ _ _))⟩)) | (go_at_call 54; (with_reducible refine (word_Is.calls a1_1 t144 false _ A9.out).mono ?_); rintro e w' ⟨rfl, ⟨nd, rfl⟩⟩; (try first | exact ⟨rfl, _, World.drewN_drewN _ _ _⟩ | exact ⟨rfl, _, Eq.trans (World.drewN_drewN _ _ _) (congrArg (World.drewN _) (Nat.add_assoc _ _ _))⟩)))
   repeat (go_quiet (first | ((with_reducible refine gate_dst (N := 3) rfl ?_); refine zbox (N := 3) (cs := #[.bool false, .int .i64 a1_1, .int .i64 a1_2, .int .i64 a1_3]) (t := 33) ?_; intro gb142 hg w16 hbox hb; have n0_ := Aside0.mk (below_step (zw0 HB.out) hb); have BK142 := Aside0.mk (hbox); have GW142 := Aside0.mk (zg hg (below_size (zw0 HB.out))); have GE142 := GW142; clear HB; have HB := n0_; clear n0_; clear hb hbox hg) | (go_at_call 53; (with_reducible refine (word_IsKind.calls a0 true _ A3.out).mono ?_); rintro e w' ⟨rfl, ⟨nd, rfl⟩⟩; (try first | exact ⟨rfl, _, World.drewN_drewN _ _ _⟩ | exact ⟨rfl, _, Eq.trans (World.drewN_drewN _ _ _) (congrArg (World.drewN _) (Nat.add_assoc _ _ _))⟩); have hcz17_0 := zc BK142.out 0; have hcz17_1 := zc BK142.out 1; have hcz17_2 := zc BK142.out 2; have hcz17_3 := zc BK142.out 3; have hfz17_0 := blk_frozen BK142.out 0; have hfz17_1 := blk_frozen BK142.out 1; have hfz17_2 := blk_frozen BK142.out 2; have hfz17_3 := blk_frozen BK142.out 3) | (go_at_call 48; (with_reducible refine (word_Of.calls a0 t144 _ A8.out).mono ?_); rintro e w' ⟨rfl, ⟨nd, rfl⟩⟩; (try first | exact ⟨rfl, _, World.drewN_drewN _ _ _⟩ | exact ⟨rfl, _, Eq.trans (World.drewN_drewN _ _ _) (congrArg (World.drewN _) (Nat.add_assoc _ _ _))⟩)) | (go_at_call 54; (with_reducible refine (word_Is.calls a1_1 t144 false _ A9.out).mono ?_); rintro e w' ⟨rfl, ⟨nd, rfl⟩⟩; (try first | exact ⟨rfl, _, World.drewN_drewN _ _ _⟩ | exact ⟨rfl, _, Eq.trans (World.drewN_drewN _ _ _) (congrArg (World.drewN _) (Nat.add_assoc _ _ _))⟩))); try go_wp2_with (first | ((with_reducible refine gate_dst (N := 3) rfl ?_); refine zbox (N := 3) (cs := #[.bool false, .int .i64 a1_1, .int .i64 a1_2, .int .i64 a1_3]) (t := 33) ?_; intro gb142 hg w16 hbox hb; have n0_ := Aside0.mk (below_step (zw0 HB.out) hb); have BK142 := Aside0.mk (hbox); have GW142 := Aside0.mk (zg hg (below_size (zw0 HB.out))); have GE142 := GW142; clear HB; have HB := n0_; clear n0_; clear hb hbox hg) | (go_at_call 53; (with_reducible refine (word_IsKind.calls a0 true _ A3.out).mono ?_); rintro e w' ⟨rfl, ⟨nd, rfl⟩⟩; (try first | exact ⟨rfl, _, World.drewN_drewN _ _ _⟩ | exact ⟨rfl, _, Eq.trans (World.drewN_drewN _ _ _) (congrArg (World.drewN _) (Nat.add_assoc _ _ _))⟩); have hcz17_0 := zc BK142.out 0; have hcz17_1 := zc BK142.out 1; have hcz17_2 := zc BK142.out 2; have hcz17_3 := zc BK142.out 3; have hfz17_0 := blk_frozen BK142.out 0; have hfz17_1 := blk_frozen BK142.out 1; have hfz17_2 := blk_frozen BK142.out 2; have hfz17_3 := blk_frozen BK142.out 3) | (go_at_call 48; (with_reducible refine (word_Of.calls a0 t144 _ A8.out).mono ?_); rintro e w' ⟨rfl, ⟨nd, rfl⟩⟩; (try first | exact ⟨rfl, _, World.drewN_drewN _ _ _⟩ | exact ⟨rfl, _, Eq.trans (World.drewN_drewN _ _ _) (congrArg (World.drewN _) (Nat.add_assoc _ _ _))⟩)) | (go_at_call 54; (with_reducible refine (word_Is.calls a1_1 t144 false _ A9.out).mono ?_); rintro e w' ⟨rfl, ⟨nd, rfl⟩⟩; (try first | exact ⟨rfl, _, World.drewN_drewN _ _ _⟩ | exact ⟨rfl, _, Eq.trans (World.drewN_drewN _ _ _) (congrArg (World.drewN _) (Nat.add_assoc _ _ _))⟩))))
   go_ret
   exact ⟨ze, zw1 HB.out GE142.out⟩
  subst c10
  have H1 : (if a1_2 = 0 then (some (a1_3 == 0)) else (some false)) = some r := by rw [if_pos rfl] at H; exact H
  clear H
  have H := H1
  clear H1
  by_cases c11 : a1_2 = 0
  rotate_left
  ·rw [if_neg c11] at H
   have c11b0 : (a1_2 == 0) = false := beq_eq_false_iff_ne.mpr c11
   have c11b1 : (a1_2 != 0) = true := bne_iff_ne.mpr c11
   obtain rfl := Option.some.inj H
   go_enter Try.func43, Try.ntmps43
   go_wp2_with (first | ((with_reducible refine gate_dst (N := 3) rfl ?_); refine zbox (N := 3) (cs := #[.bool false, .int .i64 a1_1, .int .i64 a1_2, .int .i64 a1_3]) (t := 33) ?_; intro gb142 hg w14 hbox hb; have n0_ := Aside0.mk (below_step (zw0 HB.out) hb); have BK142 := Aside0.mk (hbox); have GW142 := Aside0.mk (zg hg (below_size (zw0 HB.out))); have GE142 := GW142; clear HB; have HB := n0_; clear n0_; clear hb hbox hg) | (go_at_call 53; (with_reducible refine (word_IsKind.calls a0 true _ A3.out).mono ?_); rintro e w' ⟨rfl, ⟨nd, rfl⟩⟩; (try first | exact ⟨rfl, _, World.drewN_drewN _ _ _⟩ | exact ⟨rfl, _, Eq.trans (World.drewN_drewN _ _ _) (congrArg (World.drewN _) (Nat.add_assoc _ _ _))⟩); have hcz15_0 := zc BK142.out 0; have hcz15_1 := zc BK142.out 1; have hcz15_2 := zc BK142.out 2; have hcz15_3 := zc BK142.out 3; have hfz15_0 := blk_frozen BK142.out 0; have hfz15_1 := blk_frozen BK142.out 1; have hfz15_2 := blk_frozen BK142.out 2; have hfz15_3 := blk_frozen BK142.out 3) | (go_at_call 48; (with_reducible refine (word_Of.calls a0 t144 _ A8.out).mono ?_); rintro e w' ⟨rfl, ⟨nd, rfl⟩⟩; (try first | exact ⟨rfl, _, World.drewN_drewN _ _ _⟩ | exact ⟨rfl, _, Eq.trans (World.drewN_drewN _ _ _) (congrArg (World.drewN _) (Nat.add_assoc _ _ _))⟩)) | (go_at_call 54; (with_reducible refine (word_Is.calls a1_1 t144 true _ A9.out).mono ?_); rintro e w' ⟨rfl, ⟨nd, rfl⟩⟩; (try first | exact ⟨rfl, _, World.drewN_drewN _ _ _⟩ | exact ⟨rfl, _, Eq.trans (World.drewN_drewN _ _ _) (congrArg (World.drewN _) (Nat.add_assoc _ _ _))⟩)))
   repeat (go_quiet (first | ((with_reducible refine gate_dst (N := 3) rfl ?_); refine zbox (N := 3) (cs := #[.bool false, .int .i64 a1_1, .int .i64 a1_2, .int .i64 a1_3]) (t := 33) ?_; intro gb142 hg w14 hbox hb; have n0_ := Aside0.mk (below_step (zw0 HB.out) hb); have BK142 := Aside0.mk (hbox); have GW142 := Aside0.mk (zg hg (below_size (zw0 HB.out))); have GE142 := GW142; clear HB; have HB := n0_; clear n0_; clear hb hbox hg) | (go_at_call 53; (with_reducible refine (word_IsKind.calls a0 true _ A3.out).mono ?_); rintro e w' ⟨rfl, ⟨nd, rfl⟩⟩; (try first | exact ⟨rfl, _, World.drewN_drewN _ _ _⟩ | exact ⟨rfl, _, Eq.trans (World.drewN_drewN _ _ _) (congrArg (World.drewN _) (Nat.add_assoc _ _ _))⟩); have hcz15_0 := zc BK142.out 0; have hcz15_1 := zc BK142.out 1; have hcz15_2 := zc BK142.out 2; have hcz15_3 := zc BK142.out 3; have hfz15_0 := blk_frozen BK142.out 0; have hfz15_1 := blk_frozen BK142.out 1; have hfz15_2 := blk_frozen BK142.out 2; have hfz15_3 := blk_frozen BK142.out 3) | (go_at_call 48; (with_reducible refine (word_Of.calls a0 t144 _ A8.out).mono ?_); rintro e w' ⟨rfl, ⟨nd, rfl⟩⟩; (try first | exact ⟨rfl, _, World.drewN_drewN _ _ _⟩ | exact ⟨rfl, _, Eq.trans (World.drewN_drewN _ _ _) (congrArg (World.drewN _) (Nat.add_assoc _ _ _))⟩)) | (go_at_call 54; (with_reducible refine (word_Is.calls a1_1 t144 true _ A9.out).mono ?_); rintro e w' ⟨rfl, ⟨nd, rfl⟩⟩; (try first | exact ⟨rfl, _, World.drewN_drewN _ _ _⟩ | exact ⟨rfl, _, Eq.trans (World.drewN_drewN _ _ _) (congrArg (World.drewN _) (Nat.add_assoc _ _ _))⟩))); try go_wp2_with (first | ((with_reducible refine gate_dst (N := 3) rfl ?_); refine zbox (N := 3) (cs := #[.bool false, .int .i64 a1_1, .int .i64 a1_2, .int .i64 a1_3]) (t := 33) ?_; intro gb142 hg w14 hbox hb; have n0_ := Aside0.mk (below_step (zw0 HB.out) hb); have BK142 := Aside0.mk (hbox); have GW142 := Aside0.mk (zg hg (below_size (zw0 HB.out))); have GE142 := GW142; clear HB; have HB := n0_; clear n0_; clear hb hbox hg) | (go_at_call 53; (with_reducible refine (word_IsKind.calls a0 true _ A3.out).mono ?_); rintro e w' ⟨rfl, ⟨nd, rfl⟩⟩; (try first | exact ⟨rfl, _, World.drewN_drewN _ _ _⟩ | exact ⟨rfl, _, Eq.trans (World.drewN_drewN _ _ _) (congrArg (World.drewN _) (Nat.add_assoc _ _ _))⟩); have hcz15_0 := zc BK142.out 0; have hcz15_1 := zc BK142.out 1; have hcz15_2 := zc BK142.out 2; have hcz15_3 := zc BK142.out 3; have hfz15_0 := blk_frozen BK142.out 0; have hfz15_1 := blk_frozen BK142.out 1; have hfz15_2 := blk_frozen BK142.out 2; have hfz15_3 := blk_frozen BK142.out 3) | (go_at_call 48; (with_reducible refine (word_Of.calls a0 t144 _ A8.out).mono ?_); rintro e w' ⟨rfl, ⟨nd, rfl⟩⟩; (try first | exact ⟨rfl, _, World.drewN_drewN _ _ _⟩ | exact ⟨rfl, _, Eq.trans (World.drewN_drewN _ _ _) (congrArg (World.drewN _) (Nat.add_assoc _ _ _))⟩)) | (go_at_call 54; (with_reducible refine (word_Is.calls a1_1 t144 true _ A9.out).mono ?_); rintro e w' ⟨rfl, ⟨nd, rfl⟩⟩; (try first | exact ⟨rfl, _, World.drewN_drewN _ _ _⟩ | exact ⟨rfl, _, Eq.trans (World.drewN_drewN _ _ _) (congrArg (World.drewN _) (Nat.add_assoc _ _ _))⟩))))
   go_ret
   exact ⟨ze, zw1 HB.out GE142.out⟩
  rw [if_pos c11] at H
  have c11b0 : (a1_2 == 0) = true := beq_iff_eq.mpr c11
  have c11b1 : (a1_2 != 0) = false := bne_eq_false_iff_eq.mpr c11
  clear c11
  obtain rfl := Option.some.inj H
  go_enter Try.func43, Try.ntmps43
  go_wp2_with (first | ((with_reducible refine gate_dst (N := 3) rfl ?_); refine zbox (N := 3) (cs := #[.bool false, .int .i64 a1_1, .int .i64 a1_2, .int .i64 a1_3]) (t := 33) ?_; intro gb142 hg w12 hbox hb; have n0_ := Aside0.mk (below_step (zw0 HB.out) hb); have BK142 := Aside0.mk (hbox); have GW142 := Aside0.mk (zg hg (below_size (zw0 HB.out))); have GE142 := GW142; clear HB; have HB := n0_; clear n0_; clear hb hbox hg) | (go_at_call 53; (with_reducible refine (word_IsKind.calls a0 true _ A3.out).mono ?_); rintro e w' ⟨rfl, ⟨nd, rfl⟩⟩; (try first | exact ⟨rfl, _, World.drewN_drewN _ _ _⟩ | exact ⟨rfl, _, Eq.trans (World.drewN_drewN _ _ _) (congrArg (World.drewN _) (Nat.add_assoc _ _ _))⟩); have hcz13_0 := zc BK142.out 0; have hcz13_1 := zc BK142.out 1; have hcz13_2 := zc BK142.out 2; have hcz13_3 := zc BK142.out 3; have hfz13_0 := blk_frozen BK142.out 0; have hfz13_1 := blk_frozen BK142.out 1; have hfz13_2 := blk_frozen BK142.out 2; have hfz13_3 := blk_frozen BK142.out 3) | (go_at_call 48; (with_reducible refine (word_Of.calls a0 t144 _ A8.out).mono ?_); rintro e w' ⟨rfl, ⟨nd, rfl⟩⟩; (try first | exact ⟨rfl, _, World.drewN_drewN _ _ _⟩ | exact ⟨rfl, _, Eq.trans (World.drewN_drewN _ _ _) (congrArg (World.drewN _) (Nat.add_assoc _ _ _))⟩)) | (go_at_call 54; (with_reducible refine (word_Is.calls a1_1 t144 true _ A9.out).mono ?_); rintro e w' ⟨rfl, ⟨nd, rfl⟩⟩; (try first | exact ⟨rfl, _, World.drewN_drewN _ _ _⟩ | exact ⟨rfl, _, Eq.trans (World.drewN_drewN _ _ _) (congrArg (World.drewN _) (Nat.add_assoc _ _ _))⟩)))
  repeat (go_quiet (first | ((with_reducible refine gate_dst (N := 3) rfl ?_); refine zbox (N := 3) (cs := #[.bool false, .int .i64 a1_1, .int .i64 a1_2, .int .i64 a1_3]) (t := 33) ?_; intro gb142 hg w12 hbox hb; have n0_ := Aside0.mk (below_step (zw0 HB.out) hb); have BK142 := Aside0.mk (hbox); have GW142 := Aside0.mk (zg hg (below_size (zw0 HB.out))); have GE142 := GW142; clear HB; have HB := n0_; clear n0_; clear hb hbox hg) | (go_at_call 53; (with_reducible refine (word_IsKind.calls a0 true _ A3.out).mono ?_); rintro e w' ⟨rfl, ⟨nd, rfl⟩⟩; (try first | exact ⟨rfl, _, World.drewN_drewN _ _ _⟩ | exact ⟨rfl, _, Eq.trans (World.drewN_drewN _ _ _) (congrArg (World.drewN _) (Nat.add_assoc _ _ _))⟩); have hcz13_0 := zc BK142.out 0; have hcz13_1 := zc BK142.out 1; have hcz13_2 := zc BK142.out 2; have hcz13_3 := zc BK142.out 3; have hfz13_0 := blk_frozen BK142.out 0; have hfz13_1 := blk_frozen BK142.out 1; have hfz13_2 := blk_frozen BK142.out 2; have hfz13_3 := blk_frozen BK142.out 3) | (go_at_call 48; (with_reducible refine (word_Of.calls a0 t144 _ A8.out).mono ?_); rintro e w' ⟨rfl, ⟨nd, rfl⟩⟩; (try first | exact ⟨rfl, _, World.drewN_drewN _ _ _⟩ | exact ⟨rfl, _, Eq.trans (World.drewN_drewN _ _ _) (congrArg (World.drewN _) (Nat.add_assoc _ _ _))⟩)) | (go_at_call 54; (with_reducible refine (word_Is.calls a1_1 t144 true _ A9.out).mono ?_); rintro e w' ⟨rfl, ⟨nd, rfl⟩⟩; (try first | exact ⟨rfl, _, World.drewN_drewN _ _ _⟩ | exact ⟨rfl, _, Eq.trans (World.drewN_drewN _ _ _) (congrArg (World.drewN _) (Nat.add_assoc _ _ _))⟩))); try go_wp2_with (first | ((with_reducible refine gate_dst (N := 3) rfl ?_); refine zbox (N := 3) (cs := #[.bool false, .int .i64 a1_1, .int .i64 a1_2, .int .i64 a1_3]) (t := 33) ?_; intro gb142 hg w12 hbox hb; have n0_ := Aside0.mk (below_step (zw0 HB.out) hb); have BK142 := Aside0.mk (hbox); have GW142 := Aside0.mk (zg hg (below_size (zw0 HB.out))); have GE142 := GW142; clear HB; have HB := n0_; clear n0_; clear hb hbox hg) | (go_at_call 53; (with_reducible refine (word_IsKind.calls a0 true _ A3.out).mono ?_); rintro e w' ⟨rfl, ⟨nd, rfl⟩⟩; (try first | exact ⟨rfl, _, World.drewN_drewN _ _ _⟩ | exact ⟨rfl, _, Eq.trans (World.drewN_drewN _ _ _) (congrArg (World.drewN _) (Nat.add_assoc _ _ _))⟩); have hcz13_0 := zc BK142.out 0; have hcz13_1 := zc BK142.out 1; have hcz13_2 := zc BK142.out 2; have hcz13_3 := zc BK142.out 3; have hfz13_0 := blk_frozen BK142.out 0; have hfz13_1 := blk_frozen BK142.out 1; have hfz13_2 := blk_frozen BK142.out 2; have hfz13_3 := blk_frozen BK142.out 3) | (go_at_call 48; (with_reducible refine (word_Of.calls a0 t144 _ A8.out).mono ?_); rintro e w' ⟨rfl, ⟨nd, rfl⟩⟩; (try first | exact ⟨rfl, _, World.drewN_drewN _ _ _⟩ | exact ⟨rfl, _, Eq.trans (World.drewN_drewN _ _ _) (congrArg (World.drewN _) (Nat.add_assoc _ _ _))⟩)) | (go_at_call 54; (with_reducible refine (word_Is.calls a1_1 t144 true _ A9.out).mono ?_); rintro e w' ⟨rfl, ⟨nd, rfl⟩⟩; (try first | exact ⟨rfl, _, World.drewN_drewN _ _ _⟩ | exact ⟨rfl, _, Eq.trans (World.drewN_drewN _ _ _) (congrArg (World.drewN _) (Nat.add_assoc _ _ _))⟩))))
  go_ret
  exact ⟨ze, zw1 HB.out GE142.out⟩
 ·replace c4 := Bool.eq_false_iff.mpr c4
  subst c4
  have H1 : (if a0 = 7 then (if a1_0 = true then (if a1_1 = 0 then ((bytes_up.f a1_2 32).bind fun t146 => (if t146 = true then ((bytes_up.f a1_3 32).bind fun t147 => (if t147 = true then (if a1_2 > 0 then (some true) else (some (a1_3 == 0))) else (some false))) else (some false))) else (some false)) else (some false)) else (some false)) = some r := by rw [if_neg (show ¬ (false = true) by decide)] at H; exact H
  clear H
  have H := H1
  clear H1
  by_cases c18 : a0 = 7
  ·rw [if_pos c18] at H
   have c18b0 : (a0 == 7) = true := beq_iff_eq.mpr c18
   have c18b1 : (a0 != 7) = false := bne_eq_false_iff_eq.mpr c18
   clear c18
   by_cases c19 : a1_0 = true
   rotate_left
   ·replace c19 := Bool.eq_false_iff.mpr c19
    subst c19
    have H1 : (some false) = some r := by rw [if_neg (show ¬ (false = true) by decide)] at H; exact H
    clear H
    have H := H1
    clear H1
    obtain rfl := Option.some.inj H
    go_enter Try.func43, Try.ntmps43
    go_wp2_with (first | ((with_reducible refine gate_dst (N := 3) rfl ?_); refine zbox (N := 3) (cs := #[.bool false, .int .i64 a1_1, .int .i64 a1_2, .int .i64 a1_3]) (t := 33) ?_; intro gb142 hg w36 hbox hb; have n0_ := Aside0.mk (below_step (zw0 HB.out) hb); have BK142 := Aside0.mk (hbox); have GW142 := Aside0.mk (zg hg (below_size (zw0 HB.out))); have GE142 := GW142; clear HB; have HB := n0_; clear n0_; clear hb hbox hg) | (go_at_call 53; (with_reducible refine (word_IsKind.calls a0 false _ A3.out).mono ?_); rintro e w' ⟨rfl, ⟨nd, rfl⟩⟩; (try first | exact ⟨rfl, _, World.drewN_drewN _ _ _⟩ | exact ⟨rfl, _, Eq.trans (World.drewN_drewN _ _ _) (congrArg (World.drewN _) (Nat.add_assoc _ _ _))⟩); have hcz37_0 := zc BK142.out 0; have hcz37_1 := zc BK142.out 1; have hcz37_2 := zc BK142.out 2; have hcz37_3 := zc BK142.out 3; have hfz37_0 := blk_frozen BK142.out 0; have hfz37_1 := blk_frozen BK142.out 1; have hfz37_2 := blk_frozen BK142.out 2; have hfz37_3 := blk_frozen BK142.out 3))
    repeat (go_quiet (first | ((with_reducible refine gate_dst (N := 3) rfl ?_); refine zbox (N := 3) (cs := #[.bool false, .int .i64 a1_1, .int .i64 a1_2, .int .i64 a1_3]) (t := 33) ?_; intro gb142 hg w36 hbox hb; have n0_ := Aside0.mk (below_step (zw0 HB.out) hb); have BK142 := Aside0.mk (hbox); have GW142 := Aside0.mk (zg hg (below_size (zw0 HB.out))); have GE142 := GW142; clear HB; have HB := n0_; clear n0_; clear hb hbox hg) | (go_at_call 53; (with_reducible refine (word_IsKind.calls a0 false _ A3.out).mono ?_); rintro e w' ⟨rfl, ⟨nd, rfl⟩⟩; (try first | exact ⟨rfl, _, World.drewN_drewN _ _ _⟩ | exact ⟨rfl, _, Eq.trans (World.drewN_drewN _ _ _) (congrArg (World.drewN _) (Nat.add_assoc _ _ _))⟩); have hcz37_0 := zc BK142.out 0; have hcz37_1 := zc BK142.out 1; have hcz37_2 := zc BK142.out 2; have hcz37_3 := zc BK142.out 3; have hfz37_0 := blk_frozen BK142.out 0; have hfz37_1 := blk_frozen BK142.out 1; have hfz37_2 := blk_frozen BK142.out 2; have hfz37_3 := blk_frozen BK142.out 3)); try go_wp2_with (first | ((with_reducible refine gate_dst (N := 3) rfl ?_); refine zbox (N := 3) (cs := #[.bool false, .int .i64 a1_1, .int .i64 a1_2, .int .i64 a1_3]) (t := 33) ?_; intro gb142 hg w36 hbox hb; have n0_ := Aside0.mk (below_step (zw0 HB.out) hb); have BK142 := Aside0.mk (hbox); have GW142 := Aside0.mk (zg hg (below_size (zw0 HB.out))); have GE142 := GW142; clear HB; have HB := n0_; clear n0_; clear hb hbox hg) | (go_at_call 53; (with_reducible refine (word_IsKind.calls a0 false _ A3.out).mono ?_); rintro e w' ⟨rfl, ⟨nd, rfl⟩⟩; (try first | exact ⟨rfl, _, World.drewN_drewN _ _ _⟩ | exact ⟨rfl, _, Eq.trans (World.drewN_drewN _ _ _) (congrArg (World.drewN _) (Nat.add_assoc _ _ _))⟩); have hcz37_0 := zc BK142.out 0; have hcz37_1 := zc BK142.out 1; have hcz37_2 := zc BK142.out 2; have hcz37_3 := zc BK142.out 3; have hfz37_0 := blk_frozen BK142.out 0; have hfz37_1 := blk_frozen BK142.out 1; have hfz37_2 := blk_frozen BK142.out 2; have hfz37_3 := blk_frozen BK142.out 3)))
    go_ret
    exact ⟨ze, zw1 HB.out GE142.out⟩
   subst c19
   have H1 : (if a1_1 = 0 then ((bytes_up.f a1_2 32).bind fun t146 => (if t146 = true then ((bytes_up.f a1_3 32).bind fun t147 => (if t147 = true then (if a1_2 > 0 then (some true) else (some (a1_3 == 0))) else (some false))) else (some false))) else (some false)) = some r := by rw [if_pos rfl] at H; exact H
   clear H
   have H := H1
   clear H1
   by_cases c20 : a1_1 = 0
   rotate_left
   ·rw [if_neg c20] at H
    have c20b0 : (a1_1 == 0) = false := beq_eq_false_iff_ne.mpr c20
    have c20b1 : (a1_1 != 0) = true := bne_iff_ne.mpr c20
    obtain rfl := Option.some.inj H
    go_enter Try.func43, Try.ntmps43
    go_wp2_with (first | ((with_reducible refine gate_dst (N := 3) rfl ?_); refine zbox (N := 3) (cs := #[.bool true, .int .i64 a1_1, .int .i64 a1_2, .int .i64 a1_3]) (t := 33) ?_; intro gb142 hg w34 hbox hb; have n0_ := Aside0.mk (below_step (zw0 HB.out) hb); have BK142 := Aside0.mk (hbox); have GW142 := Aside0.mk (zg hg (below_size (zw0 HB.out))); have GE142 := GW142; clear HB; have HB := n0_; clear n0_; clear hb hbox hg) | (go_at_call 53; (with_reducible refine (word_IsKind.calls a0 false _ A3.out).mono ?_); rintro e w' ⟨rfl, ⟨nd, rfl⟩⟩; (try first | exact ⟨rfl, _, World.drewN_drewN _ _ _⟩ | exact ⟨rfl, _, Eq.trans (World.drewN_drewN _ _ _) (congrArg (World.drewN _) (Nat.add_assoc _ _ _))⟩); have hcz35_0 := zc BK142.out 0; have hcz35_1 := zc BK142.out 1; have hcz35_2 := zc BK142.out 2; have hcz35_3 := zc BK142.out 3; have hfz35_0 := blk_frozen BK142.out 0; have hfz35_1 := blk_frozen BK142.out 1; have hfz35_2 := blk_frozen BK142.out 2; have hfz35_3 := blk_frozen BK142.out 3))
    repeat (go_quiet (first | ((with_reducible refine gate_dst (N := 3) rfl ?_); refine zbox (N := 3) (cs := #[.bool true, .int .i64 a1_1, .int .i64 a1_2, .int .i64 a1_3]) (t := 33) ?_; intro gb142 hg w34 hbox hb; have n0_ := Aside0.mk (below_step (zw0 HB.out) hb); have BK142 := Aside0.mk (hbox); have GW142 := Aside0.mk (zg hg (below_size (zw0 HB.out))); have GE142 := GW142; clear HB; have HB := n0_; clear n0_; clear hb hbox hg) | (go_at_call 53; (with_reducible refine (word_IsKind.calls a0 false _ A3.out).mono ?_); rintro e w' ⟨rfl, ⟨nd, rfl⟩⟩; (try first | exact ⟨rfl, _, World.drewN_drewN _ _ _⟩ | exact ⟨rfl, _, Eq.trans (World.drewN_drewN _ _ _) (congrArg (World.drewN _) (Nat.add_assoc _ _ _))⟩); have hcz35_0 := zc BK142.out 0; have hcz35_1 := zc BK142.out 1; have hcz35_2 := zc BK142.out 2; have hcz35_3 := zc BK142.out 3; have hfz35_0 := blk_frozen BK142.out 0; have hfz35_1 := blk_frozen BK142.out 1; have hfz35_2 := blk_frozen BK142.out 2; have hfz35_3 := blk_frozen BK142.out 3)); try go_wp2_with (first | ((with_reducible refine gate_dst (N := 3) rfl ?_); refine zbox (N := 3) (cs := #[.bool true, .int .i64 a1_1, .int .i64 a1_2, .int .i64 a1_3]) (t := 33) ?_; intro gb142 hg w34 hbox hb; have n0_ := Aside0.mk (below_step (zw0 HB.out) hb); have BK142 := Aside0.mk (hbox); have GW142 := Aside0.mk (zg hg (below_size (zw0 HB.out))); have GE142 := GW142; clear HB; have HB := n0_; clear n0_; clear hb hbox hg) | (go_at_call 53; (with_reducible refine (word_IsKind.calls a0 false _ A3.out).mono ?_); rintro e w' ⟨rfl, ⟨nd, rfl⟩⟩; (try first | exact ⟨rfl, _, World.drewN_drewN _ _ _⟩ | exact ⟨rfl, _, Eq.trans (World.drewN_drewN _ _ _) (congrArg (World.drewN _) (Nat.add_assoc _ _ _))⟩); have hcz35_0 := zc BK142.out 0; have hcz35_1 := zc BK142.out 1; have hcz35_2 := zc BK142.out 2; have hcz35_3 := zc BK142.out 3; have hfz35_0 := blk_frozen BK142.out 0; have hfz35_1 := blk_frozen BK142.out 1; have hfz35_2 := blk_frozen BK142.out 2; have hfz35_3 := blk_frozen BK142.out 3)))
    go_ret
    exact ⟨ze, zw1 HB.out GE142.out⟩
   rw [if_pos c20] at H
   have c20b0 : (a1_1 == 0) = true := beq_iff_eq.mpr c20
   have c20b1 : (a1_1 != 0) = false := bne_eq_false_iff_eq.mpr c20
   clear c20
   replace H := Option.bind_eq_some_iff.mp H
   obtain ⟨t146, A210, H⟩ := H
   replace H : (if t146 = true then ((bytes_up.f a1_3 32).bind fun t147 => (if t147 = true then (if a1_2 > 0 then (some true) else (some (a1_3 == 0))) else (some false))) else (some false)) = some r := H
   have A21 := Aside0.mk A210
   clear A210
   by_cases c22 : t146 = true
   rotate_left
   ·replace c22 := Bool.eq_false_iff.mpr c22
    subst c22
    have H1 : (some false) = some r := by rw [if_neg (show ¬ (false = true) by decide)] at H; exact H
    clear H
    have H := H1
    clear H1
    obtain rfl := Option.some.inj H
    go_enter Try.func43, Try.ntmps43
    go_wp2_with (first | ((with_reducible refine gate_dst (N := 3) rfl ?_); refine zbox (N := 3) (cs := #[.bool true, .int .i64 a1_1, .int .i64 a1_2, .int .i64 a1_3]) (t := 33) ?_; intro gb142 hg w32 hbox hb; have n0_ := Aside0.mk (below_step (zw0 HB.out) hb); have BK142 := Aside0.mk (hbox); have GW142 := Aside0.mk (zg hg (below_size (zw0 HB.out))); have GE142 := GW142; clear HB; have HB := n0_; clear n0_; clear hb hbox hg) | (go_at_call 53; (with_reducible refine (word_IsKind.calls a0 false _ A3.out).mono ?_); rintro e w' ⟨rfl, ⟨nd, rfl⟩⟩; (try first | exact ⟨rfl, _, World.drewN_drewN _ _ _⟩ | exact ⟨rfl, _, Eq.trans (World.drewN_drewN _ _ _) (congrArg (World.drewN _) (Nat.add_assoc _ _ _))⟩); have hcz33_0 := zc BK142.out 0; have hcz33_1 := zc BK142.out 1; have hcz33_2 := zc BK142.out 2; have hcz33_3 := zc BK142.out 3; have hfz33_0 := blk_frozen BK142.out 0; have hfz33_1 := blk_frozen BK142.out 1; have hfz33_2 := blk_frozen BK142.out 2; have hfz33_3 := blk_frozen BK142.out 3) | (go_at_call 50; (with_reducible refine (bytes_up.calls a1_2 32 false _ A21.out).mono ?_); rintro e w' ⟨rfl, ⟨nd, rfl⟩⟩; (try first | exact ⟨rfl, _, World.drewN_drewN _ _ _⟩ | exact ⟨rfl, _, Eq.trans (World.drewN_drewN _ _ _) (congrArg (World.drewN _) (Nat.add_assoc _ _ _))⟩)))
    repeat (go_quiet (first | ((with_reducible refine gate_dst (N := 3) rfl ?_); refine zbox (N := 3) (cs := #[.bool true, .int .i64 a1_1, .int .i64 a1_2, .int .i64 a1_3]) (t := 33) ?_; intro gb142 hg w32 hbox hb; have n0_ := Aside0.mk (below_step (zw0 HB.out) hb); have BK142 := Aside0.mk (hbox); have GW142 := Aside0.mk (zg hg (below_size (zw0 HB.out))); have GE142 := GW142; clear HB; have HB := n0_; clear n0_; clear hb hbox hg) | (go_at_call 53; (with_reducible refine (word_IsKind.calls a0 false _ A3.out).mono ?_); rintro e w' ⟨rfl, ⟨nd, rfl⟩⟩; (try first | exact ⟨rfl, _, World.drewN_drewN _ _ _⟩ | exact ⟨rfl, _, Eq.trans (World.drewN_drewN _ _ _) (congrArg (World.drewN _) (Nat.add_assoc _ _ _))⟩); have hcz33_0 := zc BK142.out 0; have hcz33_1 := zc BK142.out 1; have hcz33_2 := zc BK142.out 2; have hcz33_3 := zc BK142.out 3; have hfz33_0 := blk_frozen BK142.out 0; have hfz33_1 := blk_frozen BK142.out 1; have hfz33_2 := blk_frozen BK142.out 2; have hfz33_3 := blk_frozen BK142.out 3) | (go_at_call 50; (with_reducible refine (bytes_up.calls a1_2 32 false _ A21.out).mono ?_); rintro e w' ⟨rfl, ⟨nd, rfl⟩⟩; (try first | exact ⟨rfl, _, World.drewN_drewN _ _ _⟩ | exact ⟨rfl, _, Eq.trans (World.drewN_drewN _ _ _) (congrArg (World.drewN _) (Nat.add_assoc _ _ _))⟩))); try go_wp2_with (first | ((with_reducible refine gate_dst (N := 3) rfl ?_); refine zbox (N := 3) (cs := #[.bool true, .int .i64 a1_1, .int .i64 a1_2, .int .i64 a1_3]) (t := 33) ?_; intro gb142 hg w32 hbox hb; have n0_ := Aside0.mk (below_step (zw0 HB.out) hb); have BK142 := Aside0.mk (hbox); have GW142 := Aside0.mk (zg hg (below_size (zw0 HB.out))); have GE142 := GW142; clear HB; have HB := n0_; clear n0_; clear hb hbox hg) | (go_at_call 53; (with_reducible refine (word_IsKind.calls a0 false _ A3.out).mono ?_); rintro e w' ⟨rfl, ⟨nd, rfl⟩⟩; (try first | exact ⟨rfl, _, World.drewN_drewN _ _ _⟩ | exact ⟨rfl, _, Eq.trans (World.drewN_drewN _ _ _) (congrArg (World.drewN _) (Nat.add_assoc _ _ _))⟩); have hcz33_0 := zc BK142.out 0; have hcz33_1 := zc BK142.out 1; have hcz33_2 := zc BK142.out 2; have hcz33_3 := zc BK142.out 3; have hfz33_0 := blk_frozen BK142.out 0; have hfz33_1 := blk_frozen BK142.out 1; have hfz33_2 := blk_frozen BK142.out 2; have hfz33_3 := blk_frozen BK142.out 3) | (go_at_call 50; (with_reducible refine (bytes_up.calls a1_2 32 false _ A21.out).mono ?_); rintro e w' ⟨rfl, ⟨nd, rfl⟩⟩; (try first | exact ⟨rfl, _, World.drewN_drewN _ _ _⟩ | exact ⟨rfl, _, Eq.trans (World.drewN_drewN _ _ _) (congrArg (World.drewN _) (Nat.add_assoc _ _ _))⟩))))
    go_ret
    exact ⟨ze, zw1 HB.out GE142.out⟩
   subst c22
   have H1 : ((bytes_up.f a1_3 32).bind fun t147 => (if t147 = true then (if a1_2 > 0 then (some true) else (some (a1_3 == 0))) else (some false))) = some r := by rw [if_pos rfl] at H; exact H
   clear H
   have H := H1
   clear H1
   replace H := Option.bind_eq_some_iff.mp H
   obtain ⟨t147, A230, H⟩ := H
   replace H : (if t147 = true then (if a1_2 > 0 then (some true) else (some (a1_3 == 0))) else (some false)) = some r := H
   have A23 := Aside0.mk A230
   clear A230
   by_cases c24 : t147 = true
   rotate_left
   ·replace c24 := Bool.eq_false_iff.mpr c24
    subst c24
    have H1 : (some false) = some r := by rw [if_neg (show ¬ (false = true) by decide)] at H; exact H
    clear H
    have H := H1
    clear H1
    obtain rfl := Option.some.inj H
    go_enter Try.func43, Try.ntmps43
    go_wp2_with (first | ((with_reducible refine gate_dst (N := 3) rfl ?_); refine zbox (N := 3) (cs := #[.bool true, .int .i64 a1_1, .int .i64 a1_2, .int .i64 a1_3]) (t := 33) ?_; intro gb142 hg w30 hbox hb; have n0_ := Aside0.mk (below_step (zw0 HB.out) hb); have BK142 := Aside0.mk (hbox); have GW142 := Aside0.mk (zg hg (below_size (zw0 HB.out))); have GE142 := GW142; clear HB; have HB := n0_; clear n0_; clear hb hbox hg) | (go_at_call 53; (with_reducible refine (word_IsKind.calls a0 false _ A3.out).mono ?_); rintro e w' ⟨rfl, ⟨nd, rfl⟩⟩; (try first | exact ⟨rfl, _, World.drewN_drewN _ _ _⟩ | exact ⟨rfl, _, Eq.trans (World.drewN_drewN _ _ _) (congrArg (World.drewN _) (Nat.add_assoc _ _ _))⟩); have hcz31_0 := zc BK142.out 0; have hcz31_1 := zc BK142.out 1; have hcz31_2 := zc BK142.out 2; have hcz31_3 := zc BK142.out 3; have hfz31_0 := blk_frozen BK142.out 0; have hfz31_1 := blk_frozen BK142.out 1; have hfz31_2 := blk_frozen BK142.out 2; have hfz31_3 := blk_frozen BK142.out 3) | (go_at_call 50; (with_reducible refine (bytes_up.calls a1_2 32 true _ A21.out).mono ?_); rintro e w' ⟨rfl, ⟨nd, rfl⟩⟩; (try first | exact ⟨rfl, _, World.drewN_drewN _ _ _⟩ | exact ⟨rfl, _, Eq.trans (World.drewN_drewN _ _ _) (congrArg (World.drewN _) (Nat.add_assoc _ _ _))⟩)) | (go_at_call 50; (with_reducible refine (bytes_up.calls a1_3 32 false _ A23.out).mono ?_); rintro e w' ⟨rfl, ⟨nd, rfl⟩⟩; (try first | exact ⟨rfl, _, World.drewN_drewN _ _ _⟩ | exact ⟨rfl, _, Eq.trans (World.drewN_drewN _ _ _) (congrArg (World.drewN _) (Nat.add_assoc _ _ _))⟩)))
    repeat (go_quiet (first | ((with_reducible refine gate_dst (N := 3) rfl ?_); refine zbox (N := 3) (cs := #[.bool true, .int .i64 a1_1, .int .i64 a1_2, .int .i64 a1_3]) (t := 33) ?_; intro gb142 hg w30 hbox hb; have n0_ := Aside0.mk (below_step (zw0 HB.out) hb); have BK142 := Aside0.mk (hbox); have GW142 := Aside0.mk (zg hg (below_size (zw0 HB.out))); have GE142 := GW142; clear HB; have HB := n0_; clear n0_; clear hb hbox hg) | (go_at_call 53; (with_reducible refine (word_IsKind.calls a0 false _ A3.out).mono ?_); rintro e w' ⟨rfl, ⟨nd, rfl⟩⟩; (try first | exact ⟨rfl, _, World.drewN_drewN _ _ _⟩ | exact ⟨rfl, _, Eq.trans (World.drewN_drewN _ _ _) (congrArg (World.drewN _) (Nat.add_assoc _ _ _))⟩); have hcz31_0 := zc BK142.out 0; have hcz31_1 := zc BK142.out 1; have hcz31_2 := zc BK142.out 2; have hcz31_3 := zc BK142.out 3; have hfz31_0 := blk_frozen BK142.out 0; have hfz31_1 := blk_frozen BK142.out 1; have hfz31_2 := blk_frozen BK142.out 2; have hfz31_3 := blk_frozen BK142.out 3) | (go_at_call 50; (with_reducible refine (bytes_up.calls a1_2 32 true _ A21.out).mono ?_); rintro e w' ⟨rfl, ⟨nd, rfl⟩⟩; (try first | exact ⟨rfl, _, World.drewN_drewN _ _ _⟩ | exact ⟨rfl, _, Eq.trans (World.drewN_drewN _ _ _) (congrArg (World.drewN _) (Nat.add_assoc _ _ _))⟩)) | (go_at_call 50; (with_reducible refine (bytes_up.calls a1_3 32 false _ A23.out).mono ?_); rintro e w' ⟨rfl, ⟨nd, rfl⟩⟩; (try first | exact ⟨rfl, _, World.drewN_drewN _ _ _⟩ | exact ⟨rfl, _, Eq.trans (World.drewN_drewN _ _ _) (congrArg (World.drewN _) (Nat.add_assoc _ _ _))⟩))); try go_wp2_with (first | ((with_reducible refine gate_dst (N := 3) rfl ?_); refine zbox (N := 3) (cs := #[.bool true, .int .i64 a1_1, .int .i64 a1_2, .int .i64 a1_3]) (t := 33) ?_; intro gb142 hg w30 hbox hb; have n0_ := Aside0.mk (below_step (zw0 HB.out) hb); have BK142 := Aside0.mk (hbox); have GW142 := Aside0.mk (zg hg (below_size (zw0 HB.out))); have GE142 := GW142; clear HB; have HB := n0_; clear n0_; clear hb hbox hg) | (go_at_call 53; (with_reducible refine (word_IsKind.calls a0 false _ A3.out).mono ?_); rintro e w' ⟨rfl, ⟨nd, rfl⟩⟩; (try first | exact ⟨rfl, _, World.drewN_drewN _ _ _⟩ | exact ⟨rfl, _, Eq.trans (World.drewN_drewN _ _ _) (congrArg (World.drewN _) (Nat.add_assoc _ _ _))⟩); have hcz31_0 := zc BK142.out 0; have hcz31_1 := zc BK142.out 1; have hcz31_2 := zc BK142.out 2; have hcz31_3 := zc BK142.out 3; have hfz31_0 := blk_frozen BK142.out 0; have hfz31_1 := blk_frozen BK142.out 1; have hfz31_2 := blk_frozen BK142.out 2; have hfz31_3 := blk_frozen BK142.out 3) | (go_at_call 50; (with_reducible refine (bytes_up.calls a1_2 32 true _ A21.out).mono ?_); rintro e w' ⟨rfl, ⟨nd, rfl⟩⟩; (try first | exact ⟨rfl, _, World.drewN_drewN _ _ _⟩ | exact ⟨rfl, _, Eq.trans (World.drewN_drewN _ _ _) (congrArg (World.drewN _) (Nat.add_assoc _ _ _))⟩)) | (go_at_call 50; (with_reducible refine (bytes_up.calls a1_3 32 false _ A23.out).mono ?_); rintro e w' ⟨rfl, ⟨nd, rfl⟩⟩; (try first | exact ⟨rfl, _, World.drewN_drewN _ _ _⟩ | exact ⟨rfl, _, Eq.trans (World.drewN_drewN _ _ _) (congrArg (World.drewN _) (Nat.add_assoc _ _ _))⟩))))
    go_ret
    exact ⟨ze, zw1 HB.out GE142.out⟩
   subst c24
   have H1 : (if a1_2 > 0 then (some true) else (some (a1_3 == 0))) = some r := by rw [if_pos rfl] at H; exact H
   clear H
   have H := H1
   clear H1
   by_cases c25 : a1_2 > 0
   ·rw [if_pos c25] at H
    have c25b0 : decide (0 < a1_2) = true := decide_eq_true c25
    clear c25
    obtain rfl := Option.some.inj H
    go_enter Try.func43, Try.ntmps43
    go_wp2_with (first | ((with_reducible refine gate_dst (N := 3) rfl ?_); refine zbox (N := 3) (cs := #[.bool true, .int .i64 a1_1, .int .i64 a1_2, .int .i64 a1_3]) (t := 33) ?_; intro gb142 hg w26 hbox hb; have n0_ := Aside0.mk (below_step (zw0 HB.out) hb); have BK142 := Aside0.mk (hbox); have GW142 := Aside0.mk (zg hg (below_size (zw0 HB.out))); have GE142 := GW142; clear HB; have HB := n0_; clear n0_; clear hb hbox hg) | (go_at_call 53; (with_reducible refine (word_IsKind.calls a0 false _ A3.out).mono ?_); rintro e w' ⟨rfl, ⟨nd, rfl⟩⟩; (try first | exact ⟨rfl, _, World.drewN_drewN _ _ _⟩ | exact ⟨rfl, _, Eq.trans (World.drewN_drewN _ _ _) (congrArg (World.drewN _) (Nat.add_assoc _ _ _))⟩); have hcz27_0 := zc BK142.out 0; have hcz27_1 := zc BK142.out 1; have hcz27_2 := zc BK142.out 2; have hcz27_3 := zc BK142.out 3; have hfz27_0 := blk_frozen BK142.out 0; have hfz27_1 := blk_frozen BK142.out 1; have hfz27_2 := blk_frozen BK142.out 2; have hfz27_3 := blk_frozen BK142.out 3) | (go_at_call 50; (with_reducible refine (bytes_up.calls a1_2 32 true _ A21.out).mono ?_); rintro e w' ⟨rfl, ⟨nd, rfl⟩⟩; (try first | exact ⟨rfl, _, World.drewN_drewN _ _ _⟩ | exact ⟨rfl, _, Eq.trans (World.drewN_drewN _ _ _) (congrArg (World.drewN _) (Nat.add_assoc _ _ _))⟩)) | (go_at_call 50; (with_reducible refine (bytes_up.calls a1_3 32 true _ A23.out).mono ?_); rintro e w' ⟨rfl, ⟨nd, rfl⟩⟩; (try first | exact ⟨rfl, _, World.drewN_drewN _ _ _⟩ | exact ⟨rfl, _, Eq.trans (World.drewN_drewN _ _ _) (congrArg (World.drewN _) (Nat.add_assoc _ _ _))⟩)))
    repeat (go_quiet (first | ((with_reducible refine gate_dst (N := 3) rfl ?_); refine zbox (N := 3) (cs := #[.bool true, .int .i64 a1_1, .int .i64 a1_2, .int .i64 a1_3]) (t := 33) ?_; intro gb142 hg w26 hbox hb; have n0_ := Aside0.mk (below_step (zw0 HB.out) hb); have BK142 := Aside0.mk (hbox); have GW142 := Aside0.mk (zg hg (below_size (zw0 HB.out))); have GE142 := GW142; clear HB; have HB := n0_; clear n0_; clear hb hbox hg) | (go_at_call 53; (with_reducible refine (word_IsKind.calls a0 false _ A3.out).mono ?_); rintro e w' ⟨rfl, ⟨nd, rfl⟩⟩; (try first | exact ⟨rfl, _, World.drewN_drewN _ _ _⟩ | exact ⟨rfl, _, Eq.trans (World.drewN_drewN _ _ _) (congrArg (World.drewN _) (Nat.add_assoc _ _ _))⟩); have hcz27_0 := zc BK142.out 0; have hcz27_1 := zc BK142.out 1; have hcz27_2 := zc BK142.out 2; have hcz27_3 := zc BK142.out 3; have hfz27_0 := blk_frozen BK142.out 0; have hfz27_1 := blk_frozen BK142.out 1; have hfz27_2 := blk_frozen BK142.out 2; have hfz27_3 := blk_frozen BK142.out 3) | (go_at_call 50; (with_reducible refine (bytes_up.calls a1_2 32 true _ A21.out).mono ?_); rintro e w' ⟨rfl, ⟨nd, rfl⟩⟩; (try first | exact ⟨rfl, _, World.drewN_drewN _ _ _⟩ | exact ⟨rfl, _, Eq.trans (World.drewN_drewN _ _ _) (congrArg (World.drewN _) (Nat.add_assoc _ _ _))⟩)) | (go_at_call 50; (with_reducible refine (bytes_up.calls a1_3 32 true _ A23.out).mono ?_); rintro e w' ⟨rfl, ⟨nd, rfl⟩⟩; (try first | exact ⟨rfl, _, World.drewN_drewN _ _ _⟩ | exact ⟨rfl, _, Eq.trans (World.drewN_drewN _ _ _) (congrArg (World.drewN _) (Nat.add_assoc _ _ _))⟩))); try go_wp2_with (first | ((with_reducible refine gate_dst (N := 3) rfl ?_); refine zbox (N := 3) (cs := #[.bool true, .int .i64 a1_1, .int .i64 a1_2, .int .i64 a1_3]) (t := 33) ?_; intro gb142 hg w26 hbox hb; have n0_ := Aside0.mk (below_step (zw0 HB.out) hb); have BK142 := Aside0.mk (hbox); have GW142 := Aside0.mk (zg hg (below_size (zw0 HB.out))); have GE142 := GW142; clear HB; have HB := n0_; clear n0_; clear hb hbox hg) | (go_at_call 53; (with_reducible refine (word_IsKind.calls a0 false _ A3.out).mono ?_); rintro e w' ⟨rfl, ⟨nd, rfl⟩⟩; (try first | exact ⟨rfl, _, World.drewN_drewN _ _ _⟩ | exact ⟨rfl, _, Eq.trans (World.drewN_drewN _ _ _) (congrArg (World.drewN _) (Nat.add_assoc _ _ _))⟩); have hcz27_0 := zc BK142.out 0; have hcz27_1 := zc BK142.out 1; have hcz27_2 := zc BK142.out 2; have hcz27_3 := zc BK142.out 3; have hfz27_0 := blk_frozen BK142.out 0; have hfz27_1 := blk_frozen BK142.out 1; have hfz27_2 := blk_frozen BK142.out 2; have hfz27_3 := blk_frozen BK142.out 3) | (go_at_call 50; (with_reducible refine (bytes_up.calls a1_2 32 true _ A21.out).mono ?_); rintro e w' ⟨rfl, ⟨nd, rfl⟩⟩; (try first | exact ⟨rfl, _, World.drewN_drewN _ _ _⟩ | exact ⟨rfl, _, Eq.trans (World.drewN_drewN _ _ _) (congrArg (World.drewN _) (Nat.add_assoc _ _ _))⟩)) | (go_at_call 50; (with_reducible refine (bytes_up.calls a1_3 32 true _ A23.out).mono ?_); rintro e w' ⟨rfl, ⟨nd, rfl⟩⟩; (try first | exact ⟨rfl, _, World.drewN_drewN _ _ _⟩ | exact ⟨rfl, _, Eq.trans (World.drewN_drewN _ _ _) (congrArg (World.drewN _) (Nat.add_assoc _ _ _))⟩))))
    go_ret
    exact ⟨ze, zw1 HB.out GE142.out⟩
   rw [if_neg c25] at H
   have c25b0 : decide (0 < a1_2) = false := decide_eq_false c25
   clear c25
   obtain rfl := Option.some.inj H
   go_enter Try.func43, Try.ntmps43
   go_wp2_with (first | ((with_reducible refine gate_dst (N := 3) rfl ?_); refine zbox (N := 3) (cs := #[.bool true, .int .i64 a1_1, .int .i64 a1_2, .int .i64 a1_3]) (t := 33) ?_; intro gb142 hg w28 hbox hb; have n0_ := Aside0.mk (below_step (zw0 HB.out) hb); have BK142 := Aside0.mk (hbox); have GW142 := Aside0.mk (zg hg (below_size (zw0 HB.out))); have GE142 := GW142; clear HB; have HB := n0_; clear n0_; clear hb hbox hg) | (go_at_call 53; (with_reducible refine (word_IsKind.calls a0 false _ A3.out).mono ?_); rintro e w' ⟨rfl, ⟨nd, rfl⟩⟩; (try first | exact ⟨rfl, _, World.drewN_drewN _ _ _⟩ | exact ⟨rfl, _, Eq.trans (World.drewN_drewN _ _ _) (congrArg (World.drewN _) (Nat.add_assoc _ _ _))⟩); have hcz29_0 := zc BK142.out 0; have hcz29_1 := zc BK142.out 1; have hcz29_2 := zc BK142.out 2; have hcz29_3 := zc BK142.out 3; have hfz29_0 := blk_frozen BK142.out 0; have hfz29_1 := blk_frozen BK142.out 1; have hfz29_2 := blk_frozen BK142.out 2; have hfz29_3 := blk_frozen BK142.out 3) | (go_at_call 50; (with_reducible refine (bytes_up.calls a1_2 32 true _ A21.out).mono ?_); rintro e w' ⟨rfl, ⟨nd, rfl⟩⟩; (try first | exact ⟨rfl, _, World.drewN_drewN _ _ _⟩ | exact ⟨rfl, _, Eq.trans (World.drewN_drewN _ _ _) (congrArg (World.drewN _) (Nat.add_assoc _ _ _))⟩)) | (go_at_call 50; (with_reducible refine (bytes_up.calls a1_3 32 true _ A23.out).mono ?_); rintro e w' ⟨rfl, ⟨nd, rfl⟩⟩; (try first | exact ⟨rfl, _, World.drewN_drewN _ _ _⟩ | exact ⟨rfl, _, Eq.trans (World.drewN_drewN _ _ _) (congrArg (World.drewN _) (Nat.add_assoc _ _ _))⟩)))
   repeat (go_quiet (first | ((with_reducible refine gate_dst (N := 3) rfl ?_); refine zbox (N := 3) (cs := #[.bool true, .int .i64 a1_1, .int .i64 a1_2, .int .i64 a1_3]) (t := 33) ?_; intro gb142 hg w28 hbox hb; have n0_ := Aside0.mk (below_step (zw0 HB.out) hb); have BK142 := Aside0.mk (hbox); have GW142 := Aside0.mk (zg hg (below_size (zw0 HB.out))); have GE142 := GW142; clear HB; have HB := n0_; clear n0_; clear hb hbox hg) | (go_at_call 53; (with_reducible refine (word_IsKind.calls a0 false _ A3.out).mono ?_); rintro e w' ⟨rfl, ⟨nd, rfl⟩⟩; (try first | exact ⟨rfl, _, World.drewN_drewN _ _ _⟩ | exact ⟨rfl, _, Eq.trans (World.drewN_drewN _ _ _) (congrArg (World.drewN _) (Nat.add_assoc _ _ _))⟩); have hcz29_0 := zc BK142.out 0; have hcz29_1 := zc BK142.out 1; have hcz29_2 := zc BK142.out 2; have hcz29_3 := zc BK142.out 3; have hfz29_0 := blk_frozen BK142.out 0; have hfz29_1 := blk_frozen BK142.out 1; have hfz29_2 := blk_frozen BK142.out 2; have hfz29_3 := blk_frozen BK142.out 3) | (go_at_call 50; (with_reducible refine (bytes_up.calls a1_2 32 true _ A21.out).mono ?_); rintro e w' ⟨rfl, ⟨nd, rfl⟩⟩; (try first | exact ⟨rfl, _, World.drewN_drewN _ _ _⟩ | exact ⟨rfl, _, Eq.trans (World.drewN_drewN _ _ _) (congrArg (World.drewN _) (Nat.add_assoc _ _ _))⟩)) | (go_at_call 50; (with_reducible refine (bytes_up.calls a1_3 32 true _ A23.out).mono ?_); rintro e w' ⟨rfl, ⟨nd, rfl⟩⟩; (try first | exact ⟨rfl, _, World.drewN_drewN _ _ _⟩ | exact ⟨rfl, _, Eq.trans (World.drewN_drewN _ _ _) (congrArg (World.drewN _) (Nat.add_assoc _ _ _))⟩))); try go_wp2_with (first | ((with_reducible refine gate_dst (N := 3) rfl ?_); refine zbox (N := 3) (cs := #[.bool true, .int .i64 a1_1, .int .i64 a1_2, .int .i64 a1_3]) (t := 33) ?_; intro gb142 hg w28 hbox hb; have n0_ := Aside0.mk (below_step (zw0 HB.out) hb); have BK142 := Aside0.mk (hbox); have GW142 := Aside0.mk (zg hg (below_size (zw0 HB.out))); have GE142 := GW142; clear HB; have HB := n0_; clear n0_; clear hb hbox hg) | (go_at_call 53; (with_reducible refine (word_IsKind.calls a0 false _ A3.out).mono ?_); rintro e w' ⟨rfl, ⟨nd, rfl⟩⟩; (try first | exact ⟨rfl, _, World.drewN_drewN _ _ _⟩ | exact ⟨rfl, _, Eq.trans (World.drewN_drewN _ _ _) (congrArg (World.drewN _) (Nat.add_assoc _ _ _))⟩); have hcz29_0 := zc BK142.out 0; have hcz29_1 := zc BK142.out 1; have hcz29_2 := zc BK142.out 2; have hcz29_3 := zc BK142.out 3; have hfz29_0 := blk_frozen BK142.out 0; have hfz29_1 := blk_frozen BK142.out 1; have hfz29_2 := blk_frozen BK142.out 2; have hfz29_3 := blk_frozen BK142.out 3) | (go_at_call 50; (with_reducible refine (bytes_up.calls a1_2 32 true _ A21.out).mono ?_); rintro e w' ⟨rfl, ⟨nd, rfl⟩⟩; (try first | exact ⟨rfl, _, World.drewN_drewN _ _ _⟩ | exact ⟨rfl, _, Eq.trans (World.drewN_drewN _ _ _) (congrArg (World.drewN _) (Nat.add_assoc _ _ _))⟩)) | (go_at_call 50; (with_reducible refine (bytes_up.calls a1_3 32 true _ A23.out).mono ?_); rintro e w' ⟨rfl, ⟨nd, rfl⟩⟩; (try first | exact ⟨rfl, _, World.drewN_drewN _ _ _⟩ | exact ⟨rfl, _, Eq.trans (World.drewN_drewN _ _ _) (congrArg (World.drewN _) (Nat.add_assoc _ _ _))⟩))))
   go_ret
   exact ⟨ze, zw1 HB.out GE142.out⟩
  ·rw [if_neg c18] at H
   have c18b0 : (a0 == 7) = false := beq_eq_false_iff_ne.mpr c18
   have c18b1 : (a0 != 7) = true := bne_iff_ne.mpr c18
   obtain rfl := Option.some.inj H
   go_enter Try.func43, Try.ntmps43
   go_wp2_with (first | ((with_reducible refine gate_dst (N := 3) rfl ?_); refine zbox (N := 3) (cs := #[.bool a1_0, .int .i64 a1_1, .int .i64 a1_2, .int .i64 a1_3]) (t := 33) ?_; intro gb142 hg w38 hbox hb; have n0_ := Aside0.mk (below_step (zw0 HB.out) hb); have BK142 := Aside0.mk (hbox); have GW142 := Aside0.mk (zg hg (below_size (zw0 HB.out))); have GE142 := GW142; clear HB; have HB := n0_; clear n0_; clear hb hbox hg) | (go_at_call 53; (with_reducible refine (word_IsKind.calls a0 false _ A3.out).mono ?_); rintro e w' ⟨rfl, ⟨nd, rfl⟩⟩; (try first | exact ⟨rfl, _, World.drewN_drewN _ _ _⟩ | exact ⟨rfl, _, Eq.trans (World.drewN_drewN _ _ _) (congrArg (World.drewN _) (Nat.add_assoc _ _ _))⟩)))
   repeat (go_quiet (first | ((with_reducible refine gate_dst (N := 3) rfl ?_); refine zbox (N := 3) (cs := #[.bool a1_0, .int .i64 a1_1, .int .i64 a1_2, .int .i64 a1_3]) (t := 33) ?_; intro gb142 hg w38 hbox hb; have n0_ := Aside0.mk (below_step (zw0 HB.out) hb); have BK142 := Aside0.mk (hbox); have GW142 := Aside0.mk (zg hg (below_size (zw0 HB.out))); have GE142 := GW142; clear HB; have HB := n0_; clear n0_; clear hb hbox hg) | (go_at_call 53; (with_reducible refine (word_IsKind.calls a0 false _ A3.out).mono ?_); rintro e w' ⟨rfl, ⟨nd, rfl⟩⟩; (try first | exact ⟨rfl, _, World.drewN_drewN _ _ _⟩ | exact ⟨rfl, _, Eq.trans (World.drewN_drewN _ _ _) (congrArg (World.drewN _) (Nat.add_assoc _ _ _))⟩))); try go_wp2_with (first | ((with_reducible refine gate_dst (N := 3) rfl ?_); refine zbox (N := 3) (cs := #[.bool a1_0, .int .i64 a1_1, .int .i64 a1_2, .int .i64 a1_3]) (t := 33) ?_; intro gb142 hg w38 hbox hb; have n0_ := Aside0.mk (below_step (zw0 HB.out) hb); have BK142 := Aside0.mk (hbox); have GW142 := Aside0.mk (zg hg (below_size (zw0 HB.out))); have GE142 := GW142; clear HB; have HB := n0_; clear n0_; clear hb hbox hg) | (go_at_call 53; (with_reducible refine (word_IsKind.calls a0 false _ A3.out).mono ?_); rintro e w' ⟨rfl, ⟨nd, rfl⟩⟩; (try first | exact ⟨rfl, _, World.drewN_drewN _ _ _⟩ | exact ⟨rfl, _, Eq.trans (World.drewN_drewN _ _ _) (congrArg (World.drewN _) (Nat.add_assoc _ _ _))⟩))))
   go_ret
   exact ⟨ze, zw1 HB.out GE142.out⟩

end Go.Proofs.Ythhdmanpjeminaa.B
