-- Written by this session's own edition of the print.
import Derived.Test.YthhdmanpjeminaaHx0
import Derived.Test.YthhdmanpjeminaaHx2
import Derived.Test.YthhdmanpjeminaaHx3
import Derived.Test.YthhdmanpjeminaaHx6
import Derived.Test.YthhdmanpjeminaaHx7
import Derived.Test.YthhdmanpjeminaaSq
import Derived.Test.YthhdmanpjeminaaSq2
namespace Go.Proofs.Ythhdmanpjeminaa.H
open Go.RowKit Go.Proofs.Ythhdmanpjeminaa.Fn Go.Proofs.YthhdmanpjeminaaW.PrintWords Go.Proofs.YthhdmanpjeminaaW.PrintLast Go.Proofs.YthhdmanpjeminaaW.PrintMore
attribute [local go_sem] max2_int min2_int max_two min_two max_three min_three max_four min_four   -- for this text's walks alone
set_option linter.unusedVariables false
set_option linter.unusedSimpArgs false

attribute [local go_sem high] eqA51
/-! bytes_Read -/
mutual
def bytes_Read.l0 : Nat → List (S51) → Int → Int → Int → Bool → Int → Option (Bool × Int × Int × Int × Int)
 | 0, _, _, _, _, _, _ => none
 | k + 1, x2, x8, x27, x28, x198000, x198001 => if x28 < x27 then (if 0 ≤ (wrap64 ((wrap64 ((x2.length : Int) - 1)) - x28)) then (if (wrap64 ((wrap64 ((x2.length : Int) - 1)) - x28)) < (x2.length : Int) then (if x198000 = true then (if 0 ≤ x28 then (if x28 < (x2.length : Int) then (bytes_Read.j1 k x2 x8 x27 x28 x198000 x198001 ((rd_T51 x2 x28).f0) ((rd_T51 x2 x28).f1) ((rd_T51 x2 x28).f2) ((rd_T51 x2 x28).f3) ((rd_T51 x2 x28).f4)) else (none)) else (none)) else (bytes_Read.j1 k x2 x8 x27 x28 x198000 x198001 ((rd_T51 x2 (wrap64 ((wrap64 ((x2.length : Int) - 1)) - x28))).f0) ((rd_T51 x2 (wrap64 ((wrap64 ((x2.length : Int) - 1)) - x28))).f1) ((rd_T51 x2 (wrap64 ((wrap64 ((x2.length : Int) - 1)) - x28))).f2) ((rd_T51 x2 (wrap64 ((wrap64 ((x2.length : Int) - 1)) - x28))).f3) ((rd_T51 x2 (wrap64 ((wrap64 ((x2.length : Int) - 1)) - x28))).f4))) else (none)) else (none)) else (some (false, x8, 0, 0, 0))
def bytes_Read.j1 : Nat → List (S51) → Int → Int → Int → Bool → Int → Int → Int → Int → Int → Int → Option (Bool × Int × Int × Int × Int)
 | 0, _, _, _, _, _, _, _, _, _, _, _ => none
 | k + 1, x2, x8, x27, x28, x198000, x198001, x208000, x208001, x208002, x208003, x208004 => bytes_Read.l0 k x2 (Go.bits .or .i64 (wrap64 (x8 * 256)) x208001) x27 (wrap64 (x28 + 1)) x198000 x198001
end
def bytes_Read.f (k : Nat) (a0_0 : Bool) (a0_1 : Int) (a1 : Int) (l2 : List (S51)) : Option (Bool × Int × Int × Int × Int) := (bytes_state.f l2 0).bind fun t199 => (if t199 = true then (some (false, 0, 0, 0, 7)) else (if a1 = 7 then ((bytes_pointer.f k l2).bind fun bt200 => (some (bt200.1, bt200.2.1, bt200.2.2.1, bt200.2.2.2.1, bt200.2.2.2.2))) else ((bytes_state.f l2 2).bind fun t205 => (if t205 = true then (some (false, 0, 0, 0, 8)) else (bytes_Read.l0 k l2 0 (l2.length : Int) 0 a0_0 a0_1)))))
theorem bytes_Read.mono_l : ∀ k, (∀ y0 y1 y2 y3 y4 y5, LeO (bytes_Read.l0 k y0 y1 y2 y3 y4 y5) (bytes_Read.l0 (k + 1) y0 y1 y2 y3 y4 y5)) ∧ (∀ y0 y1 y2 y3 y4 y5 y6 y7 y8 y9 y10, LeO (bytes_Read.j1 k y0 y1 y2 y3 y4 y5 y6 y7 y8 y9 y10) (bytes_Read.j1 (k + 1) y0 y1 y2 y3 y4 y5 y6 y7 y8 y9 y10))
 | 0 => ⟨fun _ _ _ _ _ _ r h => by simp [bytes_Read.l0] at h, fun _ _ _ _ _ _ _ _ _ _ _ r h => by simp [bytes_Read.j1] at h⟩
 | k + 1 => by
  obtain ⟨ih0, ih1⟩ := bytes_Read.mono_l k
  refine ⟨?_, ?_⟩
  ·intro y0 y1 y2 y3 y4 y5
   unfold bytes_Read.l0
   repeat' first
   | (with_reducible apply ih0)
   | (with_reducible apply ih1)
   | (with_reducible apply bytes_pointer.mono)
   | (with_reducible apply LeO.refl)
   | (with_reducible apply LeO.none)
   | (with_reducible refine LeO.ite ?_ ?_)
   | (with_reducible refine LeO.bind ?_ (fun _ => ?_))
  ·intro y0 y1 y2 y3 y4 y5 y6 y7 y8 y9 y10
   unfold bytes_Read.j1
   repeat' first
   | (with_reducible apply ih0)
   | (with_reducible apply ih1)
   | (with_reducible apply bytes_pointer.mono)
   | (with_reducible apply LeO.refl)
   | (with_reducible apply LeO.none)
   | (with_reducible refine LeO.ite ?_ ?_)
   | (with_reducible refine LeO.bind ?_ (fun _ => ?_))
theorem bytes_Read.mono : ∀ a0 a1 a2 a3 k, LeO (bytes_Read.f k a0 a1 a2 a3) (bytes_Read.f (k + 1) a0 a1 a2 a3) := by
 intro a0 a1 a2 a3 k
 obtain ⟨ih0, ih1⟩ := bytes_Read.mono_l k
 unfold bytes_Read.f
 repeat' first
   | (with_reducible apply ih0)
   | (with_reducible apply ih1)
   | (with_reducible apply bytes_pointer.mono)
   | (with_reducible apply LeO.refl)
   | (with_reducible apply LeO.none)
   | (with_reducible refine LeO.ite ?_ ?_)
   | (with_reducible refine LeO.bind ?_ (fun _ => ?_))
set_option maxHeartbeats 8000000 in
set_option maxRecDepth 100000 in
theorem bytes_Read.calls (k : Nat) (a0_0 : Bool) (a0_1 : Int) (a1 : Int) (A2 : Option Addr) (c2 : Nat) (l2 : List (S51)) (r1 : Bool) (r2 : Int) (r3 : Int) (r4 : Int) (r5 : Int) (w : World) (hr2 : Kd.C k51 w A2 l2.length l2) (hc2 : l2.length ≤ c2) (h : bytes_Read.f k a0_0 a0_1 a1 l2 = some (r1, r2, r3, r4, r5)) :
  Calls Try.prog 40 #[.agg #[.bool a0_0, .int .i64 a0_1], .int .i64 a1, .slice A2 l2.length c2] w fun e w' => e = .returned (.tuple #[.agg #[.bool r1, .int .i64 r2, .int .i64 r3, .int .i64 r4], .int .i64 r5]) ∧ Below w.heap.size w w' := by
 have hu38 := Try.underlying38
 have hu33 := Try.underlying33
 have hu51 := Try.underlying51
 have HR2 := Aside0.mk hr2
 have HC2 := Aside0.mk hc2
 clear hr2 hc2
 have HB := Aside0.mk (Below.refl w.heap.size w)
 have H : ((bytes_state.f l2 0).bind fun t199 => (if t199 = true then (some (false, 0, 0, 0, 7)) else (if a1 = 7 then ((bytes_pointer.f k l2).bind fun bt200 => (some (bt200.1, bt200.2.1, bt200.2.2.1, bt200.2.2.2.1, bt200.2.2.2.2))) else ((bytes_state.f l2 2).bind fun t205 => (if t205 = true then (some (false, 0, 0, 0, 8)) else (bytes_Read.l0 k l2 0 (l2.length : Int) 0 a0_0 a0_1)))))) = some (r1, r2, r3, r4, r5) := h
 clear h
 replace H := Option.bind_eq_some_iff.mp H
 obtain ⟨t199, A40, H⟩ := H
 replace H : (if t199 = true then (some (false, 0, 0, 0, 7)) else (if a1 = 7 then ((bytes_pointer.f k l2).bind fun bt200 => (some (bt200.1, bt200.2.1, bt200.2.2.1, bt200.2.2.2.1, bt200.2.2.2.2))) else ((bytes_state.f l2 2).bind fun t205 => (if t205 = true then (some (false, 0, 0, 0, 8)) else (bytes_Read.l0 k l2 0 (l2.length : Int) 0 a0_0 a0_1))))) = some (r1, r2, r3, r4, r5) := H
 have A4 := Aside0.mk A40
 clear A40
 by_cases c5 : t199 = true
 ·subst c5
  have H1 : (some (false, 0, 0, 0, 7)) = some (r1, r2, r3, r4, r5) := by rw [if_pos rfl] at H; exact H
  clear H
  have H := H1
  clear H1
  simp only [Option.some.injEq, Prod.mk.injEq] at H
  obtain ⟨rfl, rfl, rfl, rfl, rfl⟩ := H
  go_enter Try.func40, Try.ntmps40
  go_wp2_with (first | ((with_reducible refine gate_dst (N := 3) rfl ?_); refine zbox (N := 3) (cs := #[.bool a0_0, .int .i64 a0_1]) (t := 38) ?_; intro gb197 hg w6 hbox hb; have n0_ := Aside0.mk (below_step (zw0 HB.out) hb); have BK197 := Aside0.mk (hbox); have GW197 := Aside0.mk (zg hg (below_size (zw0 HB.out))); have GE197 := GW197; clear HB; have HB := n0_; clear n0_; clear hb hbox hg) | ((with_reducible refine gate_dst (N := 6) rfl ?_); refine zbox (N := 6) (cs := #[.bool false, .int .i64 0, .int .i64 0, .int .i64 0]) (t := 33) ?_; intro gb198 hg w7 hbox hb; have n0_ := Aside0.mk (zbb BK197.out hb); have n1_ := Aside0.mk (below_step (zw1 HB.out GE197.out) hb); have BK198 := Aside0.mk (hbox); have GW198 := Aside0.mk (zg hg (below_size (zw1 HB.out GE197.out))); have GE198 := GW198; have NB197_198 := Aside0.mk (zlt hg BK197.out); have NB198_197 := Aside0.mk (zgt hg BK197.out); clear BK197 HB; have BK197 := n0_; have HB := n1_; clear n0_ n1_; clear hb hbox hg) | ((with_reducible refine gate_callee (f := 51) rfl ?_); refine zgo (some 13) Try.func51 #[.slice A2 l2.length c2, .int .i64 0] ?_; (with_reducible refine (bytes_state.calls _ _ l2 0 true _ ?side1 ?side2 A4.out).mono ?_); (case side1 => repeat (first | exact (Kd.C_below HR2.out HB.out) | (with_reducible refine Kd.C_alloc ?_ _) | (with_reducible refine Kd.C_drewN ?_ _) | (with_reducible refine Kd.C_drew ?_))); (case side2 => exact HC2.out); rintro e w8 ⟨rfl, hb⟩; refine ⟨_, rfl, ?_⟩; have n0_ := Aside0.mk (zbb BK197.out hb); have n1_ := Aside0.mk (zbb BK198.out hb); have n2_ := Aside0.mk (below_step (zw2 HB.out GE197.out GE198.out) hb); clear BK197 BK198 HB; have BK197 := n0_; have BK198 := n1_; have HB := n2_; clear n0_ n1_ n2_; (try clear hb); (try clear hb2); (try clear hk); (try clear hi); have hnb9 := NB198_197.out; have hnc9 := NB197_198.out; have hcz10_0 := zc BK198.out 0; have hcz10_1 := zc BK198.out 1; have hcz10_2 := zc BK198.out 2; have hcz10_3 := zc BK198.out 3; have hfz10_0 := blk_frozen BK198.out 0; have hfz10_1 := blk_frozen BK198.out 1; have hfz10_2 := blk_frozen BK198.out 2; have hfz10_3 := blk_frozen BK198.out 3))
  refine bodyPost_ret (results_ct rfl _ _ gb198 33 #[.bool false, .int .i64 0, .int .i64 0, .int .i64 0] (0, 0) _ rfl (by (with_reducible repeat (first | refine blk_drewN ?_ _ | refine blk_drew ?_ | refine blk_alloc ?_ _)); refine blk_put (cs := #[.bool false, .int .i64 0, .int .i64 0, .int .i64 0]) ?_ 3 _ rfl; (with_reducible repeat (first | refine blk_drewN ?_ _ | refine blk_drew ?_ | refine blk_alloc ?_ _)); refine blk_put (cs := #[.bool false, .int .i64 0, .int .i64 0, .int .i64 0]) ?_ 2 _ rfl; (with_reducible repeat (first | refine blk_drewN ?_ _ | refine blk_drew ?_ | refine blk_alloc ?_ _)); refine blk_put (cs := #[.bool false, .int .i64 0, .int .i64 0, .int .i64 0]) ?_ 1 _ rfl; (with_reducible repeat (first | refine blk_drewN ?_ _ | refine blk_drew ?_ | refine blk_alloc ?_ _)); refine blk_put (cs := #[.bool false, .int .i64 0, .int .i64 0, .int .i64 0]) ?_ 0 _ rfl; (with_reducible repeat (first | refine blk_drewN ?_ _ | refine blk_drew ?_ | refine blk_alloc ?_ _)); exact BK198.out) Try.underlying33 rfl (by kernel_rfl)) rfl ?_
  exact ⟨ze, zw2 HB.out GE197.out GE198.out⟩
 ·replace c5 := Bool.eq_false_iff.mpr c5
  subst c5
  have H1 : (if a1 = 7 then ((bytes_pointer.f k l2).bind fun bt200 => (some (bt200.1, bt200.2.1, bt200.2.2.1, bt200.2.2.2.1, bt200.2.2.2.2))) else ((bytes_state.f l2 2).bind fun t205 => (if t205 = true then (some (false, 0, 0, 0, 8)) else (bytes_Read.l0 k l2 0 (l2.length : Int) 0 a0_0 a0_1)))) = some (r1, r2, r3, r4, r5) := by rw [if_neg (show ¬ (false = true) by decide)] at H; exact H
  clear H
  have H := H1
  clear H1
  by_cases c11 : a1 = 7
  ·rw [if_pos c11] at H
   have c11b0 : (a1 == 7) = true := beq_iff_eq.mpr c11
   have c11b1 : (a1 != 7) = false := bne_eq_false_iff_eq.mpr c11
   clear c11
   replace H := Option.bind_eq_some_iff.mp H
   obtain ⟨⟨t200, t201, t202, t203, t204⟩, A120, H⟩ := H
   replace H : (some (t200, t201, t202, t203, t204)) = some (r1, r2, r3, r4, r5) := H
   have A12 := Aside0.mk A120
   clear A120
   simp only [Option.some.injEq, Prod.mk.injEq] at H
   obtain ⟨rfl, rfl, rfl, rfl, rfl⟩ := H
   go_enter Try.func40, Try.ntmps40
   go_wp2_with (first | ((with_reducible refine gate_dst (N := 3) rfl ?_); refine zbox (N := 3) (cs := #[.bool a0_0, .int .i64 a0_1]) (t := 38) ?_; intro gb197 hg w13 hbox hb; have n0_ := Aside0.mk (below_step (zw0 HB.out) hb); have BK197 := Aside0.mk (hbox); have GW197 := Aside0.mk (zg hg (below_size (zw0 HB.out))); have GE197 := GW197; clear HB; have HB := n0_; clear n0_; clear hb hbox hg) | ((with_reducible refine gate_dst (N := 6) rfl ?_); refine zbox (N := 6) (cs := #[.bool false, .int .i64 0, .int .i64 0, .int .i64 0]) (t := 33) ?_; intro gb198 hg w14 hbox hb; have n0_ := Aside0.mk (zbb BK197.out hb); have n1_ := Aside0.mk (below_step (zw1 HB.out GE197.out) hb); have BK198 := Aside0.mk (hbox); have GW198 := Aside0.mk (zg hg (below_size (zw1 HB.out GE197.out))); have GE198 := GW198; have NB197_198 := Aside0.mk (zlt hg BK197.out); have NB198_197 := Aside0.mk (zgt hg BK197.out); clear BK197 HB; have BK197 := n0_; have HB := n1_; clear n0_ n1_; clear hb hbox hg) | ((with_reducible refine gate_callee (f := 51) rfl ?_); refine zgo (some 13) Try.func51 #[.slice A2 l2.length c2, .int .i64 0] ?_; (with_reducible refine (bytes_state.calls _ _ l2 0 false _ ?side1 ?side2 A4.out).mono ?_); (case side1 => repeat (first | exact (Kd.C_below HR2.out HB.out) | (with_reducible refine Kd.C_alloc ?_ _) | (with_reducible refine Kd.C_drewN ?_ _) | (with_reducible refine Kd.C_drew ?_))); (case side2 => exact HC2.out); rintro e w15 ⟨rfl, hb⟩; refine ⟨_, rfl, ?_⟩; have n0_ := Aside0.mk (zbb BK197.out hb); have n1_ := Aside0.mk (zbb BK198.out hb); have n2_ := Aside0.mk (below_step (zw2 HB.out GE197.out GE198.out) hb); clear BK197 BK198 HB; have BK197 := n0_; have BK198 := n1_; have HB := n2_; clear n0_ n1_ n2_; (try clear hb); (try clear hb2); (try clear hk); (try clear hi)) | ((with_reducible refine gate_callee (f := 52) rfl ?_); refine zgo (some 19) Try.func52 #[.slice A2 l2.length c2] ?_; (with_reducible refine (bytes_pointer.calls k _ _ l2 t200 t201 t202 t203 t204 _ ?side1 ?side2 A12.out).mono ?_); (case side1 => repeat (first | exact (Kd.C_below HR2.out HB.out) | (with_reducible refine Kd.C_alloc ?_ _) | (with_reducible refine Kd.C_drewN ?_ _) | (with_reducible refine Kd.C_drew ?_))); (case side2 => exact HC2.out); rintro e w16 ⟨rfl, hb⟩; refine ⟨_, rfl, ?_⟩; have n0_ := Aside0.mk (zbb BK197.out hb); have n1_ := Aside0.mk (zbb BK198.out hb); have n2_ := Aside0.mk (below_step (zw2 HB.out GE197.out GE198.out) hb); clear BK197 BK198 HB; have BK197 := n0_; have BK198 := n1_; have HB := n2_; clear n0_ n1_ n2_; (try clear hb); (try clear hb2); (try clear hk); (try clear hi); have hnb17 := NB198_197.out; have hnc17 := NB197_198.out; have hcz18_0 := zc BK198.out 0; have hcz18_1 := zc BK198.out 1; have hcz18_2 := zc BK198.out 2; have hcz18_3 := zc BK198.out 3; have hfz18_0 := blk_frozen BK198.out 0; have hfz18_1 := blk_frozen BK198.out 1; have hfz18_2 := blk_frozen BK198.out 2; have hfz18_3 := blk_frozen BK198.out 3))
   refine bodyPost_ret (results_ct rfl _ _ gb198 33 #[.bool t200, .int .i64 t201, .int .i64 t202, .int .i64 t203] (0, 0) _ rfl (by (with_reducible repeat (first | refine blk_drewN ?_ _ | refine blk_drew ?_ | refine blk_alloc ?_ _)); refine blk_put (cs := #[.bool t200, .int .i64 t201, .int .i64 t202, .int .i64 0]) ?_ 3 _ rfl; (with_reducible repeat (first | refine blk_drewN ?_ _ | refine blk_drew ?_ | refine blk_alloc ?_ _)); refine blk_put (cs := #[.bool t200, .int .i64 t201, .int .i64 0, .int .i64 0]) ?_ 2 _ rfl; (with_reducible repeat (first | refine blk_drewN ?_ _ | refine blk_drew ?_ | refine blk_alloc ?_ _)); refine blk_put (cs := #[.bool t200, .int .i64 0, .int .i64 0, .int .i64 0]) ?_ 1 _ rfl; (with_reducible repeat (first | refine blk_drewN ?_ _ | refine blk_drew ?_ | refine blk_alloc ?_ _)); refine blk_put (cs := #[.bool false, .int .i64 0, .int .i64 0, .int .i64 0]) ?_ 0 _ rfl; (with_reducible repeat (first | refine blk_drewN ?_ _ | refine blk_drew ?_ | refine blk_alloc ?_ _)); exact BK198.out) Try.underlying33 rfl (by kernel_rfl)) rfl ?_
   exact ⟨ze, zw2 HB.out GE197.out GE198.out⟩
  ·rw [if_neg c11] at H
   have c11b0 : (a1 == 7) = false := beq_eq_false_iff_ne.mpr c11
   have c11b1 : (a1 != 7) = true := bne_iff_ne.mpr c11
   replace H := Option.bind_eq_some_iff.mp H
   obtain ⟨t205, A190, H⟩ := H
   replace H : (if t205 = true then (some (false, 0, 0, 0, 8)) else (bytes_Read.l0 k l2 0 (l2.length : Int) 0 a0_0 a0_1)) = some (r1, r2, r3, r4, r5) := H
   have A19 := Aside0.mk A190
   clear A190
   by_cases c20 : t205 = true
   ·subst c20
    have H1 : (some (false, 0, 0, 0, 8)) = some (r1, r2, r3, r4, r5) := by rw [if_pos rfl] at H; exact H
    clear H
    have H := H1
    clear H1
    simp only [Option.some.injEq, Prod.mk.injEq] at H
    obtain ⟨rfl, rfl, rfl, rfl, rfl⟩ := H
    go_enter Try.func40, Try.ntmps40
    go_wp2_with (first | ((with_reducible refine gate_dst (N := 3) rfl ?_); refine zbox (N := 3) (cs := #[.bool a0_0, .int .i64 a0_1]) (t := 38) ?_; intro gb197 hg w21 hbox hb; have n0_ := Aside0.mk (below_step (zw0 HB.out) hb); have BK197 := Aside0.mk (hbox); have GW197 := Aside0.mk (zg hg (below_size (zw0 HB.out))); have GE197 := GW197; clear HB; have HB := n0_; clear n0_; clear hb hbox hg) | ((with_reducible refine gate_dst (N := 6) rfl ?_); refine zbox (N := 6) (cs := #[.bool false, .int .i64 0, .int .i64 0, .int .i64 0]) (t := 33) ?_; intro gb198 hg w22 hbox hb; have n0_ := Aside0.mk (zbb BK197.out hb); have n1_ := Aside0.mk (below_step (zw1 HB.out GE197.out) hb); have BK198 := Aside0.mk (hbox); have GW198 := Aside0.mk (zg hg (below_size (zw1 HB.out GE197.out))); have GE198 := GW198; have NB197_198 := Aside0.mk (zlt hg BK197.out); have NB198_197 := Aside0.mk (zgt hg BK197.out); clear BK197 HB; have BK197 := n0_; have HB := n1_; clear n0_ n1_; clear hb hbox hg) | ((with_reducible refine gate_callee (f := 51) rfl ?_); refine zgo (some 13) Try.func51 #[.slice A2 l2.length c2, .int .i64 0] ?_; (with_reducible refine (bytes_state.calls _ _ l2 0 false _ ?side1 ?side2 A4.out).mono ?_); (case side1 => repeat (first | exact (Kd.C_below HR2.out HB.out) | (with_reducible refine Kd.C_alloc ?_ _) | (with_reducible refine Kd.C_drewN ?_ _) | (with_reducible refine Kd.C_drew ?_))); (case side2 => exact HC2.out); rintro e w23 ⟨rfl, hb⟩; refine ⟨_, rfl, ?_⟩; have n0_ := Aside0.mk (zbb BK197.out hb); have n1_ := Aside0.mk (zbb BK198.out hb); have n2_ := Aside0.mk (below_step (zw2 HB.out GE197.out GE198.out) hb); clear BK197 BK198 HB; have BK197 := n0_; have BK198 := n1_; have HB := n2_; clear n0_ n1_ n2_; (try clear hb); (try clear hb2); (try clear hk); (try clear hi)) | ((with_reducible refine gate_callee (f := 51) rfl ?_); refine zgo (some 24) Try.func51 #[.slice A2 l2.length c2, .int .i64 2] ?_; (with_reducible refine (bytes_state.calls _ _ l2 2 true _ ?side1 ?side2 A19.out).mono ?_); (case side1 => repeat (first | exact (Kd.C_below HR2.out HB.out) | (with_reducible refine Kd.C_alloc ?_ _) | (with_reducible refine Kd.C_drewN ?_ _) | (with_reducible refine Kd.C_drew ?_))); (case side2 => exact HC2.out); rintro e w24 ⟨rfl, hb⟩; refine ⟨_, rfl, ?_⟩; have n0_ := Aside0.mk (zbb BK197.out hb); have n1_ := Aside0.mk (zbb BK198.out hb); have n2_ := Aside0.mk (below_step (zw2 HB.out GE197.out GE198.out) hb); clear BK197 BK198 HB; have BK197 := n0_; have BK198 := n1_; have HB := n2_; clear n0_ n1_ n2_; (try clear hb); (try clear hb2); (try clear hk); (try clear hi); have hnb25 := NB198_197.out; have hnc25 := NB197_198.out; have hcz26_0 := zc BK198.out 0; have hcz26_1 := zc BK198.out 1; have hcz26_2 := zc BK198.out 2; have hcz26_3 := zc BK198.out 3; have hfz26_0 := blk_frozen BK198.out 0; have hfz26_1 := blk_frozen BK198.out 1; have hfz26_2 := blk_frozen BK198.out 2; have hfz26_3 := blk_frozen BK198.out 3))
    refine bodyPost_ret (results_ct rfl _ _ gb198 33 #[.bool false, .int .i64 0, .int .i64 0, .int .i64 0] (0, 0) _ rfl (by (with_reducible repeat (first | refine blk_drewN ?_ _ | refine blk_drew ?_ | refine blk_alloc ?_ _)); refine blk_put (cs := #[.bool false, .int .i64 0, .int .i64 0, .int .i64 0]) ?_ 3 _ rfl; (with_reducible repeat (first | refine blk_drewN ?_ _ | refine blk_drew ?_ | refine blk_alloc ?_ _)); refine blk_put (cs := #[.bool false, .int .i64 0, .int .i64 0, .int .i64 0]) ?_ 2 _ rfl; (with_reducible repeat (first | refine blk_drewN ?_ _ | refine blk_drew ?_ | refine blk_alloc ?_ _)); refine blk_put (cs := #[.bool false, .int .i64 0, .int .i64 0, .int .i64 0]) ?_ 1 _ rfl; (with_reducible repeat (first | refine blk_drewN ?_ _ | refine blk_drew ?_ | refine blk_alloc ?_ _)); refine blk_put (cs := #[.bool false, .int .i64 0, .int .i64 0, .int .i64 0]) ?_ 0 _ rfl; (with_reducible repeat (first | refine blk_drewN ?_ _ | refine blk_drew ?_ | refine blk_alloc ?_ _)); exact BK198.out) Try.underlying33 rfl (by kernel_rfl)) rfl ?_
    exact ⟨ze, zw2 HB.out GE197.out GE198.out⟩
   ·replace c20 := Bool.eq_false_iff.mpr c20
    subst c20
    have H1 : (bytes_Read.l0 k l2 0 (l2.length : Int) 0 a0_0 a0_1) = some (r1, r2, r3, r4, r5) := by rw [if_neg (show ¬ (false = true) by decide)] at H; exact H
    clear H
    have H := H1
    clear H1
    have H' := Aside0.mk H
    clear H
    go_enter Try.func40, Try.ntmps40
    go_wp2_with (first | ((with_reducible refine gate_dst (N := 3) rfl ?_); refine zbox (N := 3) (cs := #[.bool a0_0, .int .i64 a0_1]) (t := 38) ?_; intro gb197 hg w27 hbox hb; have n0_ := Aside0.mk (below_step (zw0 HB.out) hb); have BK197 := Aside0.mk (hbox); have GW197 := Aside0.mk (zg hg (below_size (zw0 HB.out))); have GE197 := GW197; clear HB; have HB := n0_; clear n0_; clear hb hbox hg) | ((with_reducible refine gate_dst (N := 6) rfl ?_); refine zbox (N := 6) (cs := #[.bool false, .int .i64 0, .int .i64 0, .int .i64 0]) (t := 33) ?_; intro gb198 hg w28 hbox hb; have n0_ := Aside0.mk (zbb BK197.out hb); have n1_ := Aside0.mk (below_step (zw1 HB.out GE197.out) hb); have BK198 := Aside0.mk (hbox); have GW198 := Aside0.mk (zg hg (below_size (zw1 HB.out GE197.out))); have GE198 := GW198; have NB197_198 := Aside0.mk (zlt hg BK197.out); have NB198_197 := Aside0.mk (zgt hg BK197.out); clear BK197 HB; have BK197 := n0_; have HB := n1_; clear n0_ n1_; clear hb hbox hg) | ((with_reducible refine gate_callee (f := 51) rfl ?_); refine zgo (some 13) Try.func51 #[.slice A2 l2.length c2, .int .i64 0] ?_; (with_reducible refine (bytes_state.calls _ _ l2 0 false _ ?side1 ?side2 A4.out).mono ?_); (case side1 => repeat (first | exact (Kd.C_below HR2.out HB.out) | (with_reducible refine Kd.C_alloc ?_ _) | (with_reducible refine Kd.C_drewN ?_ _) | (with_reducible refine Kd.C_drew ?_))); (case side2 => exact HC2.out); rintro e w29 ⟨rfl, hb⟩; refine ⟨_, rfl, ?_⟩; have n0_ := Aside0.mk (zbb BK197.out hb); have n1_ := Aside0.mk (zbb BK198.out hb); have n2_ := Aside0.mk (below_step (zw2 HB.out GE197.out GE198.out) hb); clear BK197 BK198 HB; have BK197 := n0_; have BK198 := n1_; have HB := n2_; clear n0_ n1_ n2_; (try clear hb); (try clear hb2); (try clear hk); (try clear hi)) | ((with_reducible refine gate_callee (f := 51) rfl ?_); refine zgo (some 24) Try.func51 #[.slice A2 l2.length c2, .int .i64 2] ?_; (with_reducible refine (bytes_state.calls _ _ l2 2 false _ ?side1 ?side2 A19.out).mono ?_); (case side1 => repeat (first | exact (Kd.C_below HR2.out HB.out) | (with_reducible refine Kd.C_alloc ?_ _) | (with_reducible refine Kd.C_drewN ?_ _) | (with_reducible refine Kd.C_drew ?_))); (case side2 => exact HC2.out); rintro e w30 ⟨rfl, hb⟩; refine ⟨_, rfl, ?_⟩; have n0_ := Aside0.mk (zbb BK197.out hb); have n1_ := Aside0.mk (zbb BK198.out hb); have n2_ := Aside0.mk (below_step (zw2 HB.out GE197.out GE198.out) hb); clear BK197 BK198 HB; have BK197 := n0_; have BK198 := n1_; have HB := n2_; clear n0_ n1_ n2_; (try clear hb); (try clear hb2); (try clear hk); (try clear hi)))
    go_loopg [8, 28] k (fun kq v8 v28 w' => ∃ (x8_1 : Int) (x28_1 : Int), v8 = .int .i64 x8_1 ∧ v28 = .int .i64 x28_1 ∧ Aside0 (bytes_Read.l0 kq l2 x8_1 (l2.length : Int) x28_1 a0_0 a0_1 = some (r1, r2, r3, r4, r5)) ∧ Aside0 (kq ≤ k) ∧ Aside0 (w'.heap[gb197]? = some (.cells #[.bool a0_0, .int .i64 a0_1] 38 (0, 0))) ∧ Aside0 (w'.heap[gb198]? = some (.cells #[.bool false, .int .i64 0, .int .i64 0, .int .i64 0] 33 (0, 0))) ∧ Aside0 (Below w.heap.size w w'))
    case atStart => exact ⟨(0), (0), (zr), (zr), H', ⟨Nat.le_refl _⟩, ⟨zb BK197.out⟩, ⟨zb BK198.out⟩, ⟨zw2 HB.out GE197.out GE198.out⟩⟩
    case round =>
     clear H'
     try clear c1; try clear c2; try clear p2; try clear c4; try clear c5; try clear c9; try clear c11; try clear c11b0; try clear c11b1; try clear c17; try clear c20; try clear c25
     obtain ⟨x8_1, x28_1, rfl, rfl, HA, HK1, BK197, BK198, HB⟩ := hrel
     cases gk with
     | zero => exact absurd HA.out (by simp [bytes_Read.l0])
     | succ k1 =>
      have H := HA.out
      clear HA
      simp only [bytes_Read.l0] at H
      by_cases c31 : x28_1 < (l2.length : Int)
      ·rw [if_pos c31] at H
       have c31b0 : decide (x28_1 < (l2.length : Int)) = true := decide_eq_true c31
       clear c31
       obtain ⟨ji32, hji32⟩ : ∃ j_ : Int, (wrap64 ((wrap64 ((l2.length : Int) - 1)) - x28_1)) = j_ := ⟨_, rfl⟩
       replace H : (if 0 ≤ (ji32) then (if (ji32) < (l2.length : Int) then (if a0_0 = true then (if 0 ≤ x28_1 then (if x28_1 < (l2.length : Int) then (bytes_Read.j1 k1 l2 x8_1 (l2.length : Int) x28_1 a0_0 a0_1 ((rd_T51 l2 x28_1).f0) ((rd_T51 l2 x28_1).f1) ((rd_T51 l2 x28_1).f2) ((rd_T51 l2 x28_1).f3) ((rd_T51 l2 x28_1).f4)) else (none)) else (none)) else (bytes_Read.j1 k1 l2 x8_1 (l2.length : Int) x28_1 a0_0 a0_1 ((rd_T51 l2 (ji32)).f0) ((rd_T51 l2 (ji32)).f1) ((rd_T51 l2 (ji32)).f2) ((rd_T51 l2 (ji32)).f3) ((rd_T51 l2 (ji32)).f4))) else (none)) else (none)) = some (r1, r2, r3, r4, r5) := by first | (rw [hji32] at H; exact H) | (simp only [hji32] at H ⊢; exact H)
       have hji32w : (IntKind.i64.wrap ((wrap64 ((l2.length : Int) - 1)) - x28_1)) = ji32 := (i64_w _).trans hji32
       by_cases c33 : 0 ≤ (ji32)
       rotate_left
       ·rw [if_neg c33] at H
        exact absurd H (by simp)
       rw [if_pos c33] at H
       have c33b0 : decide (0 ≤ (ji32)) = true := decide_eq_true c33
       clear c33
       by_cases c34 : (ji32) < (l2.length : Int)
       rotate_left
       ·rw [if_neg c34] at H
        exact absurd H (by simp)
       rw [if_pos c34] at H
       have c34b0 : decide ((ji32) < (l2.length : Int)) = true := decide_eq_true c34
       clear c34
       have HC35 := Aside0.mk H
       clear H
       have p206 : 0 ≤ ((ji32) : Int) := zdec
       have q206 : (ji32) < (l2.length : Int) := zdec
       obtain ⟨ad206, e206, hx206_0, hx206_1, hx206_2, hx206_3, hx206_4⟩ := at_T51 HR2.out (ji32) p206 q206
       cases e206
       replace hx206_0 := zh HB.out hx206_0
       replace hx206_1 := zh HB.out hx206_1
       replace hx206_2 := zh HB.out hx206_2
       replace hx206_3 := zh HB.out hx206_3
       replace hx206_4 := zh HB.out hx206_4
       replace p206 := eq_true p206
       replace q206 := eq_true q206
       go_upto_if 40 with (first | ((with_reducible refine gate_dst (N := 10) rfl ?_); refine zbox (N := 10) (cs := #[.int .i64 0, .int .i64 0, .int .i64 0, .int .i64 0, .int .i64 0]) (t := 51) ?_; intro gb207 hg w36 hbox hb; have n0_ := Aside0.mk (zbb BK197.out hb); have n1_ := Aside0.mk (zbb BK198.out hb); have n2_ := Aside0.mk (below_step (zw2 HB.out GE197.out GE198.out) hb); have BK207 := Aside0.mk (hbox); have GW207 := Aside0.mk (zg hg (below_size (zw2 HB.out GE197.out GE198.out))); have GE207 := GW207; have NB197_207 := Aside0.mk (zlt hg BK197.out); have NB207_197 := Aside0.mk (zgt hg BK197.out); have NB198_207 := Aside0.mk (zlt hg BK198.out); have NB207_198 := Aside0.mk (zgt hg BK198.out); clear BK197 BK198 HB; have BK197 := n0_; have BK198 := n1_; have HB := n2_; clear n0_ n1_ n2_; clear hb hbox hg; have hnb37 := NB207_197.out; have hnc37 := NB197_207.out; have hnb38 := NB207_198.out; have hnc38 := NB198_207.out; have hcz39_0 := zc BK207.out 0; have hcz39_1 := zc BK207.out 1; have hcz39_2 := zc BK207.out 2; have hcz39_3 := zc BK207.out 3; have hcz39_4 := zc BK207.out 4; have hfz39_0 := blk_frozen BK207.out 0; have hfz39_1 := blk_frozen BK207.out 1; have hfz39_2 := blk_frozen BK207.out 2; have hfz39_3 := blk_frozen BK207.out 3; have hfz39_4 := blk_frozen BK207.out 4; have hnb40 := NB197_198.out; have hnc40 := NB198_197.out; have hcz41_0 := zc BK197.out 0; have hcz41_1 := zc BK197.out 1; have hfz41_0 := blk_frozen BK197.out 0; have hfz41_1 := blk_frozen BK197.out 1))
       (try simp only [Act.put, List.setIfInBounds_toArray, List.set_cons_zero, List.set_cons_succ])
       go_cut [] (fun wc => ∃ (kq : Nat) (x208000_34 : Int) (x208001_34 : Int) (x208002_34 : Int) (x208003_34 : Int) (x208004_34 : Int), Aside0 (bytes_Read.j1 kq l2 x8_1 (l2.length : Int) x28_1 a0_0 a0_1 x208000_34 x208001_34 x208002_34 x208003_34 x208004_34 = some (r1, r2, r3, r4, r5)) ∧ Aside0 (kq ≤ k1) ∧ Aside0 (wc.heap[gb197]? = some (.cells #[.bool a0_0, .int .i64 a0_1] 38 (0, 0))) ∧ Aside0 (wc.heap[gb198]? = some (.cells #[.bool false, .int .i64 0, .int .i64 0, .int .i64 0] 33 (0, 0))) ∧ Aside0 (wc.heap[gb207]? = some (.cells #[.int .i64 x208000_34, .int .i64 x208001_34, .int .i64 x208002_34, .int .i64 x208003_34, .int .i64 x208004_34] 51 (0, 0))) ∧ Aside0 (Below w.heap.size w wc))
       case first =>
        have H := HC35.out
        clear HC35
        by_cases c42 : a0_0 = true
        rotate_left
        ·replace c42 := Bool.eq_false_iff.mpr c42
         subst c42
         have H1 : (bytes_Read.j1 k1 l2 x8_1 (l2.length : Int) x28_1 false a0_1 ((rd_T51 l2 (ji32)).f0) ((rd_T51 l2 (ji32)).f1) ((rd_T51 l2 (ji32)).f2) ((rd_T51 l2 (ji32)).f3) ((rd_T51 l2 (ji32)).f4)) = some (r1, r2, r3, r4, r5) := by rw [if_neg (show ¬ (false = true) by decide)] at H; exact H
         clear H
         have H := H1
         clear H1
         have H' := Aside0.mk H
         clear H
         go_wp2
         go_meet
         case rel => exact ⟨_, ((rd_T51 l2 (ji32)).f0), ((rd_T51 l2 (ji32)).f1), ((rd_T51 l2 (ji32)).f2), ((rd_T51 l2 (ji32)).f3), ((rd_T51 l2 (ji32)).f4), H', ⟨by have := HK1.out; first | omega | exact Nat.le_refl _⟩, ⟨zf1 BK197.out NB197_207.out⟩, ⟨zf1 BK198.out NB198_207.out⟩, ⟨by (with_reducible repeat (first | refine blk_drewN ?_ _ | refine blk_drew ?_ | refine blk_alloc ?_ _)); refine blk_put (cs := #[.int .i64 ((rd_T51 l2 (ji32)).f0), .int .i64 ((rd_T51 l2 (ji32)).f1), .int .i64 ((rd_T51 l2 (ji32)).f2), .int .i64 ((rd_T51 l2 (ji32)).f3), .int .i64 0]) ?_ 4 _ rfl; (with_reducible repeat (first | refine blk_drewN ?_ _ | refine blk_drew ?_ | refine blk_alloc ?_ _)); refine blk_put (cs := #[.int .i64 ((rd_T51 l2 (ji32)).f0), .int .i64 ((rd_T51 l2 (ji32)).f1), .int .i64 ((rd_T51 l2 (ji32)).f2), .int .i64 0, .int .i64 0]) ?_ 3 _ rfl; (with_reducible repeat (first | refine blk_drewN ?_ _ | refine blk_drew ?_ | refine blk_alloc ?_ _)); refine blk_put (cs := #[.int .i64 ((rd_T51 l2 (ji32)).f0), .int .i64 ((rd_T51 l2 (ji32)).f1), .int .i64 0, .int .i64 0, .int .i64 0]) ?_ 2 _ rfl; (with_reducible repeat (first | refine blk_drewN ?_ _ | refine blk_drew ?_ | refine blk_alloc ?_ _)); refine blk_put (cs := #[.int .i64 ((rd_T51 l2 (ji32)).f0), .int .i64 0, .int .i64 0, .int .i64 0, .int .i64 0]) ?_ 1 _ rfl; (with_reducible repeat (first | refine blk_drewN ?_ _ | refine blk_drew ?_ | refine blk_alloc ?_ _)); refine blk_put (cs := #[.int .i64 0, .int .i64 0, .int .i64 0, .int .i64 0, .int .i64 0]) ?_ 0 _ rfl; (with_reducible repeat (first | refine blk_drewN ?_ _ | refine blk_drew ?_ | refine blk_alloc ?_ _)); exact BK207.out⟩, ⟨zw3 HB.out GE197.out GE198.out GE207.out⟩⟩
        subst c42
        have H1 : (if 0 ≤ x28_1 then (if x28_1 < (l2.length : Int) then (bytes_Read.j1 k1 l2 x8_1 (l2.length : Int) x28_1 true a0_1 ((rd_T51 l2 x28_1).f0) ((rd_T51 l2 x28_1).f1) ((rd_T51 l2 x28_1).f2) ((rd_T51 l2 x28_1).f3) ((rd_T51 l2 x28_1).f4)) else (none)) else (none)) = some (r1, r2, r3, r4, r5) := by rw [if_pos rfl] at H; exact H
        clear H
        have H := H1
        clear H1
        by_cases c43 : 0 ≤ x28_1
        rotate_left
        ·rw [if_neg c43] at H
         exact absurd H (by simp)
        rw [if_pos c43] at H
        have c43b0 : decide (0 ≤ x28_1) = true := decide_eq_true c43
        clear c43
        (first | rw [c43b0] | (simp only [i64_w, i32_w]; rw [c43b0]) | skip)
        by_cases c44 : x28_1 < (l2.length : Int)
        rotate_left
        ·rw [if_neg c44] at H
         exact absurd H (by simp)
        rw [if_pos c44] at H
        have c44b0 : decide (x28_1 < (l2.length : Int)) = true := decide_eq_true c44
        clear c44
        have H' := Aside0.mk H
        clear H
        have p208 : 0 ≤ (x28_1 : Int) := zdec
        have q208 : x28_1 < (l2.length : Int) := zdec
        obtain ⟨ad208, e208, hx208_0, hx208_1, hx208_2, hx208_3, hx208_4⟩ := at_T51 HR2.out x28_1 p208 q208
        obtain rfl : ad206 = ad208 := (by injection e208)
        have hn208_0 : ad206.block ≠ gb207 := zx (zfar hx208_0 GW207.out)
        have hn208_1 : ad206.block ≠ gb207 := zx (zfar hx208_0 GW207.out)
        have hn208_2 : ad206.block ≠ gb207 := zx (zfar hx208_0 GW207.out)
        have hn208_3 : ad206.block ≠ gb207 := zx (zfar hx208_0 GW207.out)
        have hn208_4 : ad206.block ≠ gb207 := zx (zfar hx208_0 GW207.out)
        replace hx208_0 := zh HB.out hx208_0
        replace hx208_1 := zh HB.out hx208_1
        replace hx208_2 := zh HB.out hx208_2
        replace hx208_3 := zh HB.out hx208_3
        replace hx208_4 := zh HB.out hx208_4
        replace hx208_0 := (cell_far (p := ⟨gb207, 0, none⟩) (zy hn208_0) (.int .i64 ((rd_T51 l2 (ji32)).f0))).trans hx208_0
        replace hx208_1 := (cell_far (p := ⟨gb207, 0, none⟩) (zy hn208_0) (.int .i64 ((rd_T51 l2 (ji32)).f0))).trans hx208_1
        replace hx208_2 := (cell_far (p := ⟨gb207, 0, none⟩) (zy hn208_0) (.int .i64 ((rd_T51 l2 (ji32)).f0))).trans hx208_2
        replace hx208_3 := (cell_far (p := ⟨gb207, 0, none⟩) (zy hn208_0) (.int .i64 ((rd_T51 l2 (ji32)).f0))).trans hx208_3
        replace hx208_4 := (cell_far (p := ⟨gb207, 0, none⟩) (zy hn208_0) (.int .i64 ((rd_T51 l2 (ji32)).f0))).trans hx208_4
        replace hx208_0 := (cell_far (p := ⟨gb207, 1, none⟩) (zy hn208_1) (.int .i64 ((rd_T51 l2 (ji32)).f1))).trans hx208_0
        replace hx208_1 := (cell_far (p := ⟨gb207, 1, none⟩) (zy hn208_1) (.int .i64 ((rd_T51 l2 (ji32)).f1))).trans hx208_1
        replace hx208_2 := (cell_far (p := ⟨gb207, 1, none⟩) (zy hn208_1) (.int .i64 ((rd_T51 l2 (ji32)).f1))).trans hx208_2
        replace hx208_3 := (cell_far (p := ⟨gb207, 1, none⟩) (zy hn208_1) (.int .i64 ((rd_T51 l2 (ji32)).f1))).trans hx208_3
        replace hx208_4 := (cell_far (p := ⟨gb207, 1, none⟩) (zy hn208_1) (.int .i64 ((rd_T51 l2 (ji32)).f1))).trans hx208_4
        replace hx208_0 := (cell_far (p := ⟨gb207, 2, none⟩) (zy hn208_2) (.int .i64 ((rd_T51 l2 (ji32)).f2))).trans hx208_0
        replace hx208_1 := (cell_far (p := ⟨gb207, 2, none⟩) (zy hn208_2) (.int .i64 ((rd_T51 l2 (ji32)).f2))).trans hx208_1
        replace hx208_2 := (cell_far (p := ⟨gb207, 2, none⟩) (zy hn208_2) (.int .i64 ((rd_T51 l2 (ji32)).f2))).trans hx208_2
        replace hx208_3 := (cell_far (p := ⟨gb207, 2, none⟩) (zy hn208_2) (.int .i64 ((rd_T51 l2 (ji32)).f2))).trans hx208_3
        replace hx208_4 := (cell_far (p := ⟨gb207, 2, none⟩) (zy hn208_2) (.int .i64 ((rd_T51 l2 (ji32)).f2))).trans hx208_4
        replace hx208_0 := (cell_far (p := ⟨gb207, 3, none⟩) (zy hn208_3) (.int .i64 ((rd_T51 l2 (ji32)).f3))).trans hx208_0
        replace hx208_1 := (cell_far (p := ⟨gb207, 3, none⟩) (zy hn208_3) (.int .i64 ((rd_T51 l2 (ji32)).f3))).trans hx208_1
        replace hx208_2 := (cell_far (p := ⟨gb207, 3, none⟩) (zy hn208_3) (.int .i64 ((rd_T51 l2 (ji32)).f3))).trans hx208_2
        replace hx208_3 := (cell_far (p := ⟨gb207, 3, none⟩) (zy hn208_3) (.int .i64 ((rd_T51 l2 (ji32)).f3))).trans hx208_3
        replace hx208_4 := (cell_far (p := ⟨gb207, 3, none⟩) (zy hn208_3) (.int .i64 ((rd_T51 l2 (ji32)).f3))).trans hx208_4
        replace hx208_0 := (cell_far (p := ⟨gb207, 4, none⟩) (zy hn208_4) (.int .i64 ((rd_T51 l2 (ji32)).f4))).trans hx208_0
        replace hx208_1 := (cell_far (p := ⟨gb207, 4, none⟩) (zy hn208_4) (.int .i64 ((rd_T51 l2 (ji32)).f4))).trans hx208_1
        replace hx208_2 := (cell_far (p := ⟨gb207, 4, none⟩) (zy hn208_4) (.int .i64 ((rd_T51 l2 (ji32)).f4))).trans hx208_2
        replace hx208_3 := (cell_far (p := ⟨gb207, 4, none⟩) (zy hn208_4) (.int .i64 ((rd_T51 l2 (ji32)).f4))).trans hx208_3
        replace hx208_4 := (cell_far (p := ⟨gb207, 4, none⟩) (zy hn208_4) (.int .i64 ((rd_T51 l2 (ji32)).f4))).trans hx208_4
        clear hn208_0
        clear hn208_1
        clear hn208_2
        clear hn208_3
        clear hn208_4
        replace p208 := eq_true p208
        replace q208 := eq_true q208
        have hnb45 := NB207_197.out
        have hnc45 := NB197_207.out
        have hnb46 := NB207_198.out
        have hnc46 := NB198_207.out
        have hcz47_0 := zc BK207.out 0
        have hcz47_1 := zc BK207.out 1
        have hcz47_2 := zc BK207.out 2
        have hcz47_3 := zc BK207.out 3
        have hcz47_4 := zc BK207.out 4
        have hfz47_0 := blk_frozen BK207.out 0
        have hfz47_1 := blk_frozen BK207.out 1
        have hfz47_2 := blk_frozen BK207.out 2
        have hfz47_3 := blk_frozen BK207.out 3
        have hfz47_4 := blk_frozen BK207.out 4
        go_wp2
        go_meet
        case rel => exact ⟨_, ((rd_T51 l2 x28_1).f0), ((rd_T51 l2 x28_1).f1), ((rd_T51 l2 x28_1).f2), ((rd_T51 l2 x28_1).f3), ((rd_T51 l2 x28_1).f4), H', ⟨by have := HK1.out; first | omega | exact Nat.le_refl _⟩, ⟨zf1 BK197.out NB197_207.out⟩, ⟨zf1 BK198.out NB198_207.out⟩, ⟨by (with_reducible repeat (first | refine blk_drewN ?_ _ | refine blk_drew ?_ | refine blk_alloc ?_ _)); refine blk_put (cs := #[.int .i64 ((rd_T51 l2 x28_1).f0), .int .i64 ((rd_T51 l2 x28_1).f1), .int .i64 ((rd_T51 l2 x28_1).f2), .int .i64 ((rd_T51 l2 x28_1).f3), .int .i64 ((rd_T51 l2 (ji32)).f4)]) ?_ 4 _ rfl; (with_reducible repeat (first | refine blk_drewN ?_ _ | refine blk_drew ?_ | refine blk_alloc ?_ _)); refine blk_put (cs := #[.int .i64 ((rd_T51 l2 x28_1).f0), .int .i64 ((rd_T51 l2 x28_1).f1), .int .i64 ((rd_T51 l2 x28_1).f2), .int .i64 ((rd_T51 l2 (ji32)).f3), .int .i64 ((rd_T51 l2 (ji32)).f4)]) ?_ 3 _ rfl; (with_reducible repeat (first | refine blk_drewN ?_ _ | refine blk_drew ?_ | refine blk_alloc ?_ _)); refine blk_put (cs := #[.int .i64 ((rd_T51 l2 x28_1).f0), .int .i64 ((rd_T51 l2 x28_1).f1), .int .i64 ((rd_T51 l2 (ji32)).f2), .int .i64 ((rd_T51 l2 (ji32)).f3), .int .i64 ((rd_T51 l2 (ji32)).f4)]) ?_ 2 _ rfl; (with_reducible repeat (first | refine blk_drewN ?_ _ | refine blk_drew ?_ | refine blk_alloc ?_ _)); refine blk_put (cs := #[.int .i64 ((rd_T51 l2 x28_1).f0), .int .i64 ((rd_T51 l2 (ji32)).f1), .int .i64 ((rd_T51 l2 (ji32)).f2), .int .i64 ((rd_T51 l2 (ji32)).f3), .int .i64 ((rd_T51 l2 (ji32)).f4)]) ?_ 1 _ rfl; (with_reducible repeat (first | refine blk_drewN ?_ _ | refine blk_drew ?_ | refine blk_alloc ?_ _)); refine blk_put (cs := #[.int .i64 ((rd_T51 l2 (ji32)).f0), .int .i64 ((rd_T51 l2 (ji32)).f1), .int .i64 ((rd_T51 l2 (ji32)).f2), .int .i64 ((rd_T51 l2 (ji32)).f3), .int .i64 ((rd_T51 l2 (ji32)).f4)]) ?_ 0 _ rfl; (with_reducible repeat (first | refine blk_drewN ?_ _ | refine blk_drew ?_ | refine blk_alloc ?_ _)); refine blk_put (cs := #[.int .i64 ((rd_T51 l2 (ji32)).f0), .int .i64 ((rd_T51 l2 (ji32)).f1), .int .i64 ((rd_T51 l2 (ji32)).f2), .int .i64 ((rd_T51 l2 (ji32)).f3), .int .i64 0]) ?_ 4 _ rfl; (with_reducible repeat (first | refine blk_drewN ?_ _ | refine blk_drew ?_ | refine blk_alloc ?_ _)); refine blk_put (cs := #[.int .i64 ((rd_T51 l2 (ji32)).f0), .int .i64 ((rd_T51 l2 (ji32)).f1), .int .i64 ((rd_T51 l2 (ji32)).f2), .int .i64 0, .int .i64 0]) ?_ 3 _ rfl; (with_reducible repeat (first | refine blk_drewN ?_ _ | refine blk_drew ?_ | refine blk_alloc ?_ _)); refine blk_put (cs := #[.int .i64 ((rd_T51 l2 (ji32)).f0), .int .i64 ((rd_T51 l2 (ji32)).f1), .int .i64 0, .int .i64 0, .int .i64 0]) ?_ 2 _ rfl; (with_reducible repeat (first | refine blk_drewN ?_ _ | refine blk_drew ?_ | refine blk_alloc ?_ _)); refine blk_put (cs := #[.int .i64 ((rd_T51 l2 (ji32)).f0), .int .i64 0, .int .i64 0, .int .i64 0, .int .i64 0]) ?_ 1 _ rfl; (with_reducible repeat (first | refine blk_drewN ?_ _ | refine blk_drew ?_ | refine blk_alloc ?_ _)); refine blk_put (cs := #[.int .i64 0, .int .i64 0, .int .i64 0, .int .i64 0, .int .i64 0]) ?_ 0 _ rfl; (with_reducible repeat (first | refine blk_drewN ?_ _ | refine blk_drew ?_ | refine blk_alloc ?_ _)); exact BK207.out⟩, ⟨zw3 HB.out GE197.out GE198.out GE207.out⟩⟩
       case rest =>
        clear HC35
        try clear c1; try clear c2; try clear p2; try clear q2; try clear c3; try clear c4; try clear c5; try clear p6; try clear c9; try clear c11; try clear c11b0; try clear c11b1; try clear c17; try clear c20; try clear p20; try clear q20; try clear c25; try clear c31; try clear c31b0; try clear c33; try clear c33b0; try clear c34; try clear c34b0; try clear c37; try clear c38; try clear c40; try clear c42; try clear c43; try clear c43b0; try clear c44; try clear c44b0; try clear c45; try clear c46; try clear p2; try clear p206; try clear p208; try clear q206; try clear q208
        obtain ⟨kq, x208000_34, x208001_34, x208002_34, x208003_34, x208004_34, HA, HJ34, BK197, BK198, BK207, HB⟩ := hcut
        cases kq with
        | zero => exact absurd HA.out (by simp [bytes_Read.j1])
        | succ kj34 =>
         have H := HA.out
         clear HA
         simp only [bytes_Read.j1] at H
         have H' := Aside0.mk H
         clear H
         have hnb48 := NB207_197.out
         have hnc48 := NB197_207.out
         have hnb49 := NB207_198.out
         have hnc49 := NB198_207.out
         have hcz50_0 := zc BK207.out 0
         have hcz50_1 := zc BK207.out 1
         have hcz50_2 := zc BK207.out 2
         have hcz50_3 := zc BK207.out 3
         have hcz50_4 := zc BK207.out 4
         have hfz50_0 := blk_frozen BK207.out 0
         have hfz50_1 := blk_frozen BK207.out 1
         have hfz50_2 := blk_frozen BK207.out 2
         have hfz50_3 := blk_frozen BK207.out 3
         have hfz50_4 := blk_frozen BK207.out 4
         go_wp2
         go_roundg kj34
         case measure => have := HK1.out; have := HJ34.out; omega
         case rel => exact ⟨(Go.bits .or .i64 (wrap64 (x8_1 * 256)) x208001_34), (wrap64 (x28_1 + 1)), (zr), (zr), H', ⟨by have := HK1.out; have := HJ34.out; omega⟩, ⟨zb BK197.out⟩, ⟨zb BK198.out⟩, ⟨zw3 HB.out GE197.out GE198.out GE207.out⟩⟩
      ·rw [if_neg c31] at H
       have c31b0 : decide (x28_1 < (l2.length : Int)) = false := decide_eq_false c31
       clear c31
       simp only [Option.some.injEq, Prod.mk.injEq] at H
       obtain ⟨rfl, rfl, rfl, rfl, rfl⟩ := H
       have hnb51 := NB198_197.out
       have hnc51 := NB197_198.out
       have hcz52_0 := zc BK198.out 0
       have hcz52_1 := zc BK198.out 1
       have hcz52_2 := zc BK198.out 2
       have hcz52_3 := zc BK198.out 3
       have hfz52_0 := blk_frozen BK198.out 0
       have hfz52_1 := blk_frozen BK198.out 1
       have hfz52_2 := blk_frozen BK198.out 2
       have hfz52_3 := blk_frozen BK198.out 3
       go_wp2
       refine bodyPost_ret (results_ct rfl _ _ gb198 33 #[.bool false, .int .i64 x8_1, .int .i64 0, .int .i64 0] (0, 0) _ rfl (by (with_reducible repeat (first | refine blk_drewN ?_ _ | refine blk_drew ?_ | refine blk_alloc ?_ _)); refine blk_put (cs := #[.bool false, .int .i64 x8_1, .int .i64 0, .int .i64 0]) ?_ 3 _ rfl; (with_reducible repeat (first | refine blk_drewN ?_ _ | refine blk_drew ?_ | refine blk_alloc ?_ _)); refine blk_put (cs := #[.bool false, .int .i64 x8_1, .int .i64 0, .int .i64 0]) ?_ 2 _ rfl; (with_reducible repeat (first | refine blk_drewN ?_ _ | refine blk_drew ?_ | refine blk_alloc ?_ _)); refine blk_put (cs := #[.bool false, .int .i64 0, .int .i64 0, .int .i64 0]) ?_ 1 _ rfl; (with_reducible repeat (first | refine blk_drewN ?_ _ | refine blk_drew ?_ | refine blk_alloc ?_ _)); refine blk_put (cs := #[.bool false, .int .i64 0, .int .i64 0, .int .i64 0]) ?_ 0 _ rfl; (with_reducible repeat (first | refine blk_drewN ?_ _ | refine blk_drew ?_ | refine blk_alloc ?_ _)); exact BK198.out) Try.underlying33 rfl (by kernel_rfl)) rfl ?_
       exact ⟨ze, zw2 HB.out GE197.out GE198.out⟩

/-! bytes_Get -/
def bytes_Get.f (k : Nat) (a0_0 : Bool) (a0_1 : Int) (a1 : Int) (l2 : List (S51)) : Option (Bool × Int × Int × Int × Int × Int) := (word_May.f a0_0 a0_1).bind fun t211 => (if t211 = true then ((word_IsScalar.f a1).bind fun t212 => (if t212 = true then ((word_Bytes.f a0_0 a0_1 a1).bind fun t213 => (if (l2.length : Int) = t213 then ((api_Byte_37.f l2 38).bind fun t214 => (if t214 = true then (some (false, 0, 0, 0, 0, 1)) else ((bytes_Read.f k a0_0 a0_1 a1 l2).bind fun bt215 => (some (bt215.1, bt215.2.1, bt215.2.2.1, bt215.2.2.2.1, bt215.2.2.2.2, 0))))) else (some (false, 0, 0, 0, 0, 1)))) else (some (false, 0, 0, 0, 0, 1)))) else (some (false, 0, 0, 0, 0, 1)))
theorem bytes_Get.mono : ∀ a0 a1 a2 a3 k, LeO (bytes_Get.f k a0 a1 a2 a3) (bytes_Get.f (k + 1) a0 a1 a2 a3) := by
 intro a0 a1 a2 a3 k
 unfold bytes_Get.f
 repeat' first
   | (with_reducible apply bytes_Read.mono)
   | (with_reducible apply LeO.refl)
   | (with_reducible apply LeO.none)
   | (with_reducible refine LeO.ite ?_ ?_)
   | (with_reducible refine LeO.bind ?_ (fun _ => ?_))
set_option maxHeartbeats 8000000 in
set_option maxRecDepth 100000 in
theorem bytes_Get.calls (k : Nat) (a0_0 : Bool) (a0_1 : Int) (a1 : Int) (A2 : Option Addr) (c2 : Nat) (l2 : List (S51)) (r1 : Bool) (r2 : Int) (r3 : Int) (r4 : Int) (r5 : Int) (r6 : Int) (w : World) (hr2 : Kd.C k51 w A2 l2.length l2) (hc2 : l2.length ≤ c2) (h : bytes_Get.f k a0_0 a0_1 a1 l2 = some (r1, r2, r3, r4, r5, r6)) :
  Calls Try.prog 17 #[.agg #[.bool a0_0, .int .i64 a0_1], .int .i64 a1, .slice A2 l2.length c2] w fun e w' => e = .returned (.tuple #[.agg #[.bool r1, .int .i64 r2, .int .i64 r3, .int .i64 r4], .int .i64 r5, .int .i64 r6]) ∧ Below w.heap.size w w' := by
 have hu38 := Try.underlying38
 have hu33 := Try.underlying33
 have HR2 := Aside0.mk hr2
 have HC2 := Aside0.mk hc2
 clear hr2 hc2
 have HB := Aside0.mk (Below.refl w.heap.size w)
 have H : ((word_May.f a0_0 a0_1).bind fun t211 => (if t211 = true then ((word_IsScalar.f a1).bind fun t212 => (if t212 = true then ((word_Bytes.f a0_0 a0_1 a1).bind fun t213 => (if (l2.length : Int) = t213 then ((api_Byte_37.f l2 38).bind fun t214 => (if t214 = true then (some (false, 0, 0, 0, 0, 1)) else ((bytes_Read.f k a0_0 a0_1 a1 l2).bind fun bt215 => (some (bt215.1, bt215.2.1, bt215.2.2.1, bt215.2.2.2.1, bt215.2.2.2.2, 0))))) else (some (false, 0, 0, 0, 0, 1)))) else (some (false, 0, 0, 0, 0, 1)))) else (some (false, 0, 0, 0, 0, 1)))) = some (r1, r2, r3, r4, r5, r6) := h
 clear h
 replace H := Option.bind_eq_some_iff.mp H
 obtain ⟨t211, A40, H⟩ := H
 replace H : (if t211 = true then ((word_IsScalar.f a1).bind fun t212 => (if t212 = true then ((word_Bytes.f a0_0 a0_1 a1).bind fun t213 => (if (l2.length : Int) = t213 then ((api_Byte_37.f l2 38).bind fun t214 => (if t214 = true then (some (false, 0, 0, 0, 0, 1)) else ((bytes_Read.f k a0_0 a0_1 a1 l2).bind fun bt215 => (some (bt215.1, bt215.2.1, bt215.2.2.1, bt215.2.2.2.1, bt215.2.2.2.2, 0))))) else (some (false, 0, 0, 0, 0, 1)))) else (some (false, 0, 0, 0, 0, 1)))) else (some (false, 0, 0, 0, 0, 1))) = some (r1, r2, r3, r4, r5, r6) := H
 have A4 := Aside0.mk A40
 clear A40
 by_cases c5 : t211 = true
 ·subst c5
  have H1 : ((word_IsScalar.f a1).bind fun t212 => (if t212 = true then ((word_Bytes.f a0_0 a0_1 a1).bind fun t213 => (if (l2.length : Int) = t213 then ((api_Byte_37.f l2 38).bind fun t214 => (if t214 = true then (some (false, 0, 0, 0, 0, 1)) else ((bytes_Read.f k a0_0 a0_1 a1 l2).bind fun bt215 => (some (bt215.1, bt215.2.1, bt215.2.2.1, bt215.2.2.2.1, bt215.2.2.2.2, 0))))) else (some (false, 0, 0, 0, 0, 1)))) else (some (false, 0, 0, 0, 0, 1)))) = some (r1, r2, r3, r4, r5, r6) := by rw [if_pos rfl] at H; exact H
  clear H
  have H := H1
  clear H1
  replace H := Option.bind_eq_some_iff.mp H
  obtain ⟨t212, A60, H⟩ := H
  replace H : (if t212 = true then ((word_Bytes.f a0_0 a0_1 a1).bind fun t213 => (if (l2.length : Int) = t213 then ((api_Byte_37.f l2 38).bind fun t214 => (if t214 = true then (some (false, 0, 0, 0, 0, 1)) else ((bytes_Read.f k a0_0 a0_1 a1 l2).bind fun bt215 => (some (bt215.1, bt215.2.1, bt215.2.2.1, bt215.2.2.2.1, bt215.2.2.2.2, 0))))) else (some (false, 0, 0, 0, 0, 1)))) else (some (false, 0, 0, 0, 0, 1))) = some (r1, r2, r3, r4, r5, r6) := H
  have A6 := Aside0.mk A60
  clear A60
  by_cases c7 : t212 = true
  rotate_left
  ·replace c7 := Bool.eq_false_iff.mpr c7
   subst c7
   have H1 : (some (false, 0, 0, 0, 0, 1)) = some (r1, r2, r3, r4, r5, r6) := by rw [if_neg (show ¬ (false = true) by decide)] at H; exact H
   clear H
   have H := H1
   clear H1
   simp only [Option.some.injEq, Prod.mk.injEq] at H
   obtain ⟨rfl, rfl, rfl, rfl, rfl, rfl⟩ := H
   go_enter Try.func17, Try.ntmps17
   go_wp2_with (first | ((with_reducible refine gate_dst (N := 3) rfl ?_); (try (refine gate_guard (by rfl) ?_; dsimp only)); refine zbox (N := 3) (cs := #[.bool a0_0, .int .i64 a0_1]) (t := 38) ?_; intro gb209 hg w41 hbox hb; have n0_ := Aside0.mk (below_step (zw0 HB.out) hb); have BK209 := Aside0.mk (hbox); have GW209 := Aside0.mk (zg hg (below_size (zw0 HB.out))); have GE209 := GW209; clear HB; have HB := n0_; clear n0_; clear hb hbox hg) | ((with_reducible refine gate_dst (N := 6) rfl ?_); (try (refine gate_guard (by rfl) ?_; dsimp only)); refine zbox (N := 6) (cs := #[.bool false, .int .i64 0, .int .i64 0, .int .i64 0]) (t := 33) ?_; intro gb210 hg w42 hbox hb; have n0_ := Aside0.mk (zbb BK209.out hb); have n1_ := Aside0.mk (below_step (zw1 HB.out GE209.out) hb); have BK210 := Aside0.mk (hbox); have GW210 := Aside0.mk (zg hg (below_size (zw1 HB.out GE209.out))); have GE210 := GW210; have NB209_210 := Aside0.mk (zlt hg BK209.out); have NB210_209 := Aside0.mk (zgt hg BK209.out); clear BK209 HB; have BK209 := n0_; have HB := n1_; clear n0_ n1_; clear hb hbox hg; have hnb43 := NB209_210.out; have hnc43 := NB210_209.out; have hcz44_0 := zc BK209.out 0; have hcz44_1 := zc BK209.out 1; have hfz44_0 := blk_frozen BK209.out 0; have hfz44_1 := blk_frozen BK209.out 1) | ((with_reducible refine gate_callee (f := 34) rfl ?_); refine zgo (some 10) Try.func34 #[.agg #[.bool a0_0, .int .i64 a0_1]] ?_; (with_reducible refine (word_May.calls a0_0 a0_1 true _ A4.out).mono ?_); rintro e w45 ⟨rfl, hb⟩; refine ⟨_, rfl, ?_⟩; have n0_ := Aside0.mk (zbb BK209.out hb); have n1_ := Aside0.mk (zbb BK210.out hb); have n2_ := Aside0.mk (below_step (zw2 HB.out GE209.out GE210.out) hb); clear BK209 BK210 HB; have BK209 := n0_; have BK210 := n1_; have HB := n2_; clear n0_ n1_ n2_; (try clear hb); (try clear hb2); (try clear hk); (try clear hi)) | (go_at_call 35; (with_reducible refine (word_IsScalar.calls a1 false _ A6.out).mono ?_); rintro e w' ⟨rfl, ⟨nd, rfl⟩⟩; (try (rw [drewN_self w45]; generalize hq_ : World.drewN w45 _ = w45; have n0_ : Aside0 (w45.heap[gb209]? = some (.cells #[.bool a0_0, .int .i64 a0_1] 38 (0, 0))) := ⟨by rw [← hq_]; exact (zb BK209.out)⟩; have n1_ : Aside0 (w45.heap[gb210]? = some (.cells #[.bool false, .int .i64 0, .int .i64 0, .int .i64 0] 33 (0, 0))) := ⟨by rw [← hq_]; exact (zb BK210.out)⟩; have n2_ : Aside0 (Below w.heap.size w w45) := ⟨by rw [← hq_]; exact (zw2 HB.out GE209.out GE210.out)⟩; clear BK209 BK210 HB hq_; have BK209 := n0_; have BK210 := n1_; have HB := n2_; clear n0_ n1_ n2_)); have hcz46_0 := zc BK210.out 0; have hcz46_1 := zc BK210.out 1; have hcz46_2 := zc BK210.out 2; have hcz46_3 := zc BK210.out 3; have hfz46_0 := blk_frozen BK210.out 0; have hfz46_1 := blk_frozen BK210.out 1; have hfz46_2 := blk_frozen BK210.out 2; have hfz46_3 := blk_frozen BK210.out 3))
   refine bodyPost_ret (results_ctt rfl _ _ gb210 33 #[.bool false, .int .i64 0, .int .i64 0, .int .i64 0] (0, 0) _ rfl (by (with_reducible repeat (first | refine blk_drewN ?_ _ | refine blk_drew ?_ | refine blk_alloc ?_ _)); refine blk_put (cs := #[.bool false, .int .i64 0, .int .i64 0, .int .i64 0]) ?_ 3 _ rfl; (with_reducible repeat (first | refine blk_drewN ?_ _ | refine blk_drew ?_ | refine blk_alloc ?_ _)); refine blk_put (cs := #[.bool false, .int .i64 0, .int .i64 0, .int .i64 0]) ?_ 2 _ rfl; (with_reducible repeat (first | refine blk_drewN ?_ _ | refine blk_drew ?_ | refine blk_alloc ?_ _)); refine blk_put (cs := #[.bool false, .int .i64 0, .int .i64 0, .int .i64 0]) ?_ 1 _ rfl; (with_reducible repeat (first | refine blk_drewN ?_ _ | refine blk_drew ?_ | refine blk_alloc ?_ _)); refine blk_put (cs := #[.bool false, .int .i64 0, .int .i64 0, .int .i64 0]) ?_ 0 _ rfl; (with_reducible repeat (first | refine blk_drewN ?_ _ | refine blk_drew ?_ | refine blk_alloc ?_ _)); exact BK210.out) Try.underlying33 rfl (by kernel_rfl)) rfl ?_
   exact ⟨ze, zw2 HB.out GE209.out GE210.out⟩
  subst c7
  have H1 : ((word_Bytes.f a0_0 a0_1 a1).bind fun t213 => (if (l2.length : Int) = t213 then ((api_Byte_37.f l2 38).bind fun t214 => (if t214 = true then (some (false, 0, 0, 0, 0, 1)) else ((bytes_Read.f k a0_0 a0_1 a1 l2).bind fun bt215 => (some (bt215.1, bt215.2.1, bt215.2.2.1, bt215.2.2.2.1, bt215.2.2.2.2, 0))))) else (some (false, 0, 0, 0, 0, 1)))) = some (r1, r2, r3, r4, r5, r6) := by rw [if_pos rfl] at H; exact H
  clear H
  have H := H1
  clear H1
  replace H := Option.bind_eq_some_iff.mp H
  obtain ⟨t213, A80, H⟩ := H
  replace H : (if (l2.length : Int) = t213 then ((api_Byte_37.f l2 38).bind fun t214 => (if t214 = true then (some (false, 0, 0, 0, 0, 1)) else ((bytes_Read.f k a0_0 a0_1 a1 l2).bind fun bt215 => (some (bt215.1, bt215.2.1, bt215.2.2.1, bt215.2.2.2.1, bt215.2.2.2.2, 0))))) else (some (false, 0, 0, 0, 0, 1))) = some (r1, r2, r3, r4, r5, r6) := H
  have A8 := Aside0.mk A80
  clear A80
  by_cases c9 : (l2.length : Int) = t213
  rotate_left
  ·rw [if_neg c9] at H
   have c9b0 : ((l2.length : Int) == t213) = false := beq_eq_false_iff_ne.mpr c9
   have c9b1 : ((l2.length : Int) != t213) = true := bne_iff_ne.mpr c9
   simp only [Option.some.injEq, Prod.mk.injEq] at H
   obtain ⟨rfl, rfl, rfl, rfl, rfl, rfl⟩ := H
   go_enter Try.func17, Try.ntmps17
   go_wp2_with (first | ((with_reducible refine gate_dst (N := 3) rfl ?_); (try (refine gate_guard (by rfl) ?_; dsimp only)); refine zbox (N := 3) (cs := #[.bool a0_0, .int .i64 a0_1]) (t := 38) ?_; intro gb209 hg w33 hbox hb; have n0_ := Aside0.mk (below_step (zw0 HB.out) hb); have BK209 := Aside0.mk (hbox); have GW209 := Aside0.mk (zg hg (below_size (zw0 HB.out))); have GE209 := GW209; clear HB; have HB := n0_; clear n0_; clear hb hbox hg) | ((with_reducible refine gate_dst (N := 6) rfl ?_); (try (refine gate_guard (by rfl) ?_; dsimp only)); refine zbox (N := 6) (cs := #[.bool false, .int .i64 0, .int .i64 0, .int .i64 0]) (t := 33) ?_; intro gb210 hg w34 hbox hb; have n0_ := Aside0.mk (zbb BK209.out hb); have n1_ := Aside0.mk (below_step (zw1 HB.out GE209.out) hb); have BK210 := Aside0.mk (hbox); have GW210 := Aside0.mk (zg hg (below_size (zw1 HB.out GE209.out))); have GE210 := GW210; have NB209_210 := Aside0.mk (zlt hg BK209.out); have NB210_209 := Aside0.mk (zgt hg BK209.out); clear BK209 HB; have BK209 := n0_; have HB := n1_; clear n0_ n1_; clear hb hbox hg; have hnb35 := NB209_210.out; have hnc35 := NB210_209.out; have hcz36_0 := zc BK209.out 0; have hcz36_1 := zc BK209.out 1; have hfz36_0 := blk_frozen BK209.out 0; have hfz36_1 := blk_frozen BK209.out 1) | ((with_reducible refine gate_callee (f := 34) rfl ?_); refine zgo (some 10) Try.func34 #[.agg #[.bool a0_0, .int .i64 a0_1]] ?_; (with_reducible refine (word_May.calls a0_0 a0_1 true _ A4.out).mono ?_); rintro e w37 ⟨rfl, hb⟩; refine ⟨_, rfl, ?_⟩; have n0_ := Aside0.mk (zbb BK209.out hb); have n1_ := Aside0.mk (zbb BK210.out hb); have n2_ := Aside0.mk (below_step (zw2 HB.out GE209.out GE210.out) hb); clear BK209 BK210 HB; have BK209 := n0_; have BK210 := n1_; have HB := n2_; clear n0_ n1_ n2_; (try clear hb); (try clear hb2); (try clear hk); (try clear hi)) | (go_at_call 35; (with_reducible refine (word_IsScalar.calls a1 true _ A6.out).mono ?_); rintro e w' ⟨rfl, ⟨nd, rfl⟩⟩; (try (rw [drewN_self w37]; generalize hq_ : World.drewN w37 _ = w37; have n0_ : Aside0 (w37.heap[gb209]? = some (.cells #[.bool a0_0, .int .i64 a0_1] 38 (0, 0))) := ⟨by rw [← hq_]; exact (zb BK209.out)⟩; have n1_ : Aside0 (w37.heap[gb210]? = some (.cells #[.bool false, .int .i64 0, .int .i64 0, .int .i64 0] 33 (0, 0))) := ⟨by rw [← hq_]; exact (zb BK210.out)⟩; have n2_ : Aside0 (Below w.heap.size w w37) := ⟨by rw [← hq_]; exact (zw2 HB.out GE209.out GE210.out)⟩; clear BK209 BK210 HB hq_; have BK209 := n0_; have BK210 := n1_; have HB := n2_; clear n0_ n1_ n2_)); have hcz38_0 := zc BK209.out 0; have hcz38_1 := zc BK209.out 1; have hfz38_0 := blk_frozen BK209.out 0; have hfz38_1 := blk_frozen BK209.out 1) | (go_at_call 36; (with_reducible refine (word_Bytes.calls a0_0 a0_1 a1 t213 _ A8.out).mono ?_); rintro e w39 ⟨rfl, hb⟩; have n0_ := Aside0.mk (zbb BK209.out hb); have n1_ := Aside0.mk (zbb BK210.out hb); have n2_ := Aside0.mk (below_step (zw2 HB.out GE209.out GE210.out) hb); clear BK209 BK210 HB; have BK209 := n0_; have BK210 := n1_; have HB := n2_; clear n0_ n1_ n2_; (try clear hb); (try clear hb2); (try clear hk); (try clear hi); have hcz40_0 := zc BK210.out 0; have hcz40_1 := zc BK210.out 1; have hcz40_2 := zc BK210.out 2; have hcz40_3 := zc BK210.out 3; have hfz40_0 := blk_frozen BK210.out 0; have hfz40_1 := blk_frozen BK210.out 1; have hfz40_2 := blk_frozen BK210.out 2; have hfz40_3 := blk_frozen BK210.out 3))
   refine bodyPost_ret (results_ctt rfl _ _ gb210 33 #[.bool false, .int .i64 0, .int .i64 0, .int .i64 0] (0, 0) _ rfl (by (with_reducible repeat (first | refine blk_drewN ?_ _ | refine blk_drew ?_ | refine blk_alloc ?_ _)); refine blk_put (cs := #[.bool false, .int .i64 0, .int .i64 0, .int .i64 0]) ?_ 3 _ rfl; (with_reducible repeat (first | refine blk_drewN ?_ _ | refine blk_drew ?_ | refine blk_alloc ?_ _)); refine blk_put (cs := #[.bool false, .int .i64 0, .int .i64 0, .int .i64 0]) ?_ 2 _ rfl; (with_reducible repeat (first | refine blk_drewN ?_ _ | refine blk_drew ?_ | refine blk_alloc ?_ _)); refine blk_put (cs := #[.bool false, .int .i64 0, .int .i64 0, .int .i64 0]) ?_ 1 _ rfl; (with_reducible repeat (first | refine blk_drewN ?_ _ | refine blk_drew ?_ | refine blk_alloc ?_ _)); refine blk_put (cs := #[.bool false, .int .i64 0, .int .i64 0, .int .i64 0]) ?_ 0 _ rfl; (with_reducible repeat (first | refine blk_drewN ?_ _ | refine blk_drew ?_ | refine blk_alloc ?_ _)); exact BK210.out) Try.underlying33 rfl (by kernel_rfl)) rfl ?_
   exact ⟨ze, zw2 HB.out GE209.out GE210.out⟩
  rw [if_pos c9] at H
  have c9b0 : ((l2.length : Int) == t213) = true := beq_iff_eq.mpr c9
  have c9b1 : ((l2.length : Int) != t213) = false := bne_eq_false_iff_eq.mpr c9
  clear c9
  replace H := Option.bind_eq_some_iff.mp H
  obtain ⟨t214, A100, H⟩ := H
  replace H : (if t214 = true then (some (false, 0, 0, 0, 0, 1)) else ((bytes_Read.f k a0_0 a0_1 a1 l2).bind fun bt215 => (some (bt215.1, bt215.2.1, bt215.2.2.1, bt215.2.2.2.1, bt215.2.2.2.2, 0)))) = some (r1, r2, r3, r4, r5, r6) := H
  have A10 := Aside0.mk A100
  clear A100
  by_cases c11 : t214 = true
  ·subst c11
   have H1 : (some (false, 0, 0, 0, 0, 1)) = some (r1, r2, r3, r4, r5, r6) := by rw [if_pos rfl] at H; exact H
   clear H
   have H := H1
   clear H1
   simp only [Option.some.injEq, Prod.mk.injEq] at H
   obtain ⟨rfl, rfl, rfl, rfl, rfl, rfl⟩ := H
   go_enter Try.func17, Try.ntmps17
   go_wp2_with (first | ((with_reducible refine gate_dst (N := 3) rfl ?_); (try (refine gate_guard (by rfl) ?_; dsimp only)); refine zbox (N := 3) (cs := #[.bool a0_0, .int .i64 a0_1]) (t := 38) ?_; intro gb209 hg w12 hbox hb; have n0_ := Aside0.mk (below_step (zw0 HB.out) hb); have BK209 := Aside0.mk (hbox); have GW209 := Aside0.mk (zg hg (below_size (zw0 HB.out))); have GE209 := GW209; clear HB; have HB := n0_; clear n0_; clear hb hbox hg) | ((with_reducible refine gate_dst (N := 6) rfl ?_); (try (refine gate_guard (by rfl) ?_; dsimp only)); refine zbox (N := 6) (cs := #[.bool false, .int .i64 0, .int .i64 0, .int .i64 0]) (t := 33) ?_; intro gb210 hg w13 hbox hb; have n0_ := Aside0.mk (zbb BK209.out hb); have n1_ := Aside0.mk (below_step (zw1 HB.out GE209.out) hb); have BK210 := Aside0.mk (hbox); have GW210 := Aside0.mk (zg hg (below_size (zw1 HB.out GE209.out))); have GE210 := GW210; have NB209_210 := Aside0.mk (zlt hg BK209.out); have NB210_209 := Aside0.mk (zgt hg BK209.out); clear BK209 HB; have BK209 := n0_; have HB := n1_; clear n0_ n1_; clear hb hbox hg; have hnb14 := NB209_210.out; have hnc14 := NB210_209.out; have hcz15_0 := zc BK209.out 0; have hcz15_1 := zc BK209.out 1; have hfz15_0 := blk_frozen BK209.out 0; have hfz15_1 := blk_frozen BK209.out 1) | ((with_reducible refine gate_callee (f := 34) rfl ?_); refine zgo (some 10) Try.func34 #[.agg #[.bool a0_0, .int .i64 a0_1]] ?_; (with_reducible refine (word_May.calls a0_0 a0_1 true _ A4.out).mono ?_); rintro e w16 ⟨rfl, hb⟩; refine ⟨_, rfl, ?_⟩; have n0_ := Aside0.mk (zbb BK209.out hb); have n1_ := Aside0.mk (zbb BK210.out hb); have n2_ := Aside0.mk (below_step (zw2 HB.out GE209.out GE210.out) hb); clear BK209 BK210 HB; have BK209 := n0_; have BK210 := n1_; have HB := n2_; clear n0_ n1_ n2_; (try clear hb); (try clear hb2); (try clear hk); (try clear hi)) | (go_at_call 35; (with_reducible refine (word_IsScalar.calls a1 true _ A6.out).mono ?_); rintro e w' ⟨rfl, ⟨nd, rfl⟩⟩; (try (rw [drewN_self w16]; generalize hq_ : World.drewN w16 _ = w16; have n0_ : Aside0 (w16.heap[gb209]? = some (.cells #[.bool a0_0, .int .i64 a0_1] 38 (0, 0))) := ⟨by rw [← hq_]; exact (zb BK209.out)⟩; have n1_ : Aside0 (w16.heap[gb210]? = some (.cells #[.bool false, .int .i64 0, .int .i64 0, .int .i64 0] 33 (0, 0))) := ⟨by rw [← hq_]; exact (zb BK210.out)⟩; have n2_ : Aside0 (Below w.heap.size w w16) := ⟨by rw [← hq_]; exact (zw2 HB.out GE209.out GE210.out)⟩; clear BK209 BK210 HB hq_; have BK209 := n0_; have BK210 := n1_; have HB := n2_; clear n0_ n1_ n2_)); have hcz17_0 := zc BK209.out 0; have hcz17_1 := zc BK209.out 1; have hfz17_0 := blk_frozen BK209.out 0; have hfz17_1 := blk_frozen BK209.out 1) | (go_at_call 36; (with_reducible refine (word_Bytes.calls a0_0 a0_1 a1 t213 _ A8.out).mono ?_); rintro e w18 ⟨rfl, hb⟩; have n0_ := Aside0.mk (zbb BK209.out hb); have n1_ := Aside0.mk (zbb BK210.out hb); have n2_ := Aside0.mk (below_step (zw2 HB.out GE209.out GE210.out) hb); clear BK209 BK210 HB; have BK209 := n0_; have BK210 := n1_; have HB := n2_; clear n0_ n1_ n2_; (try clear hb); (try clear hb2); (try clear hk); (try clear hi)) | (go_at_call 37; (with_reducible refine (api_Byte_37.calls _ _ l2 38 true _ ?side1 ?side2 A10.out).mono ?_); (case side1 => repeat (first | exact (Kd.C_below HR2.out HB.out) | (with_reducible refine Kd.C_alloc ?_ _) | (with_reducible refine Kd.C_drewN ?_ _) | (with_reducible refine Kd.C_drew ?_))); (case side2 => exact HC2.out); rintro e w19 ⟨rfl, hb⟩; have n0_ := Aside0.mk (zbb BK209.out hb); have n1_ := Aside0.mk (zbb BK210.out hb); have n2_ := Aside0.mk (below_step (zw2 HB.out GE209.out GE210.out) hb); clear BK209 BK210 HB; have BK209 := n0_; have BK210 := n1_; have HB := n2_; clear n0_ n1_ n2_; (try clear hb); (try clear hb2); (try clear hk); (try clear hi); have hcz20_0 := zc BK210.out 0; have hcz20_1 := zc BK210.out 1; have hcz20_2 := zc BK210.out 2; have hcz20_3 := zc BK210.out 3; have hfz20_0 := blk_frozen BK210.out 0; have hfz20_1 := blk_frozen BK210.out 1; have hfz20_2 := blk_frozen BK210.out 2; have hfz20_3 := blk_frozen BK210.out 3))
   refine bodyPost_ret (results_ctt rfl _ _ gb210 33 #[.bool false, .int .i64 0, .int .i64 0, .int .i64 0] (0, 0) _ rfl (by (with_reducible repeat (first | refine blk_drewN ?_ _ | refine blk_drew ?_ | refine blk_alloc ?_ _)); refine blk_put (cs := #[.bool false, .int .i64 0, .int .i64 0, .int .i64 0]) ?_ 3 _ rfl; (with_reducible repeat (first | refine blk_drewN ?_ _ | refine blk_drew ?_ | refine blk_alloc ?_ _)); refine blk_put (cs := #[.bool false, .int .i64 0, .int .i64 0, .int .i64 0]) ?_ 2 _ rfl; (with_reducible repeat (first | refine blk_drewN ?_ _ | refine blk_drew ?_ | refine blk_alloc ?_ _)); refine blk_put (cs := #[.bool false, .int .i64 0, .int .i64 0, .int .i64 0]) ?_ 1 _ rfl; (with_reducible repeat (first | refine blk_drewN ?_ _ | refine blk_drew ?_ | refine blk_alloc ?_ _)); refine blk_put (cs := #[.bool false, .int .i64 0, .int .i64 0, .int .i64 0]) ?_ 0 _ rfl; (with_reducible repeat (first | refine blk_drewN ?_ _ | refine blk_drew ?_ | refine blk_alloc ?_ _)); exact BK210.out) Try.underlying33 rfl (by kernel_rfl)) rfl ?_
   exact ⟨ze, zw2 HB.out GE209.out GE210.out⟩
  replace c11 := Bool.eq_false_iff.mpr c11
  subst c11
  have H1 : ((bytes_Read.f k a0_0 a0_1 a1 l2).bind fun bt215 => (some (bt215.1, bt215.2.1, bt215.2.2.1, bt215.2.2.2.1, bt215.2.2.2.2, 0))) = some (r1, r2, r3, r4, r5, r6) := by rw [if_neg (show ¬ (false = true) by decide)] at H; exact H
  clear H
  have H := H1
  clear H1
  replace H := Option.bind_eq_some_iff.mp H
  obtain ⟨⟨t215, t216, t217, t218, t219⟩, A210, H⟩ := H
  replace H : (some (t215, t216, t217, t218, t219, 0)) = some (r1, r2, r3, r4, r5, r6) := H
  have A21 := Aside0.mk A210
  clear A210
  simp only [Option.some.injEq, Prod.mk.injEq] at H
  obtain ⟨rfl, rfl, rfl, rfl, rfl, rfl⟩ := H
  go_enter Try.func17, Try.ntmps17
  go_wp2_with (first | ((with_reducible refine gate_dst (N := 3) rfl ?_); (try (refine gate_guard (by rfl) ?_; dsimp only)); refine zbox (N := 3) (cs := #[.bool a0_0, .int .i64 a0_1]) (t := 38) ?_; intro gb209 hg w22 hbox hb; have n0_ := Aside0.mk (below_step (zw0 HB.out) hb); have BK209 := Aside0.mk (hbox); have GW209 := Aside0.mk (zg hg (below_size (zw0 HB.out))); have GE209 := GW209; clear HB; have HB := n0_; clear n0_; clear hb hbox hg) | ((with_reducible refine gate_dst (N := 6) rfl ?_); (try (refine gate_guard (by rfl) ?_; dsimp only)); refine zbox (N := 6) (cs := #[.bool false, .int .i64 0, .int .i64 0, .int .i64 0]) (t := 33) ?_; intro gb210 hg w23 hbox hb; have n0_ := Aside0.mk (zbb BK209.out hb); have n1_ := Aside0.mk (below_step (zw1 HB.out GE209.out) hb); have BK210 := Aside0.mk (hbox); have GW210 := Aside0.mk (zg hg (below_size (zw1 HB.out GE209.out))); have GE210 := GW210; have NB209_210 := Aside0.mk (zlt hg BK209.out); have NB210_209 := Aside0.mk (zgt hg BK209.out); clear BK209 HB; have BK209 := n0_; have HB := n1_; clear n0_ n1_; clear hb hbox hg; have hnb24 := NB209_210.out; have hnc24 := NB210_209.out; have hcz25_0 := zc BK209.out 0; have hcz25_1 := zc BK209.out 1; have hfz25_0 := blk_frozen BK209.out 0; have hfz25_1 := blk_frozen BK209.out 1) | ((with_reducible refine gate_callee (f := 34) rfl ?_); refine zgo (some 10) Try.func34 #[.agg #[.bool a0_0, .int .i64 a0_1]] ?_; (with_reducible refine (word_May.calls a0_0 a0_1 true _ A4.out).mono ?_); rintro e w26 ⟨rfl, hb⟩; refine ⟨_, rfl, ?_⟩; have n0_ := Aside0.mk (zbb BK209.out hb); have n1_ := Aside0.mk (zbb BK210.out hb); have n2_ := Aside0.mk (below_step (zw2 HB.out GE209.out GE210.out) hb); clear BK209 BK210 HB; have BK209 := n0_; have BK210 := n1_; have HB := n2_; clear n0_ n1_ n2_; (try clear hb); (try clear hb2); (try clear hk); (try clear hi)) | (go_at_call 35; (with_reducible refine (word_IsScalar.calls a1 true _ A6.out).mono ?_); rintro e w' ⟨rfl, ⟨nd, rfl⟩⟩; (try (rw [drewN_self w26]; generalize hq_ : World.drewN w26 _ = w26; have n0_ : Aside0 (w26.heap[gb209]? = some (.cells #[.bool a0_0, .int .i64 a0_1] 38 (0, 0))) := ⟨by rw [← hq_]; exact (zb BK209.out)⟩; have n1_ : Aside0 (w26.heap[gb210]? = some (.cells #[.bool false, .int .i64 0, .int .i64 0, .int .i64 0] 33 (0, 0))) := ⟨by rw [← hq_]; exact (zb BK210.out)⟩; have n2_ : Aside0 (Below w.heap.size w w26) := ⟨by rw [← hq_]; exact (zw2 HB.out GE209.out GE210.out)⟩; clear BK209 BK210 HB hq_; have BK209 := n0_; have BK210 := n1_; have HB := n2_; clear n0_ n1_ n2_)); have hcz27_0 := zc BK209.out 0; have hcz27_1 := zc BK209.out 1; have hfz27_0 := blk_frozen BK209.out 0; have hfz27_1 := blk_frozen BK209.out 1) | (go_at_call 36; (with_reducible refine (word_Bytes.calls a0_0 a0_1 a1 t213 _ A8.out).mono ?_); rintro e w28 ⟨rfl, hb⟩; have n0_ := Aside0.mk (zbb BK209.out hb); have n1_ := Aside0.mk (zbb BK210.out hb); have n2_ := Aside0.mk (below_step (zw2 HB.out GE209.out GE210.out) hb); clear BK209 BK210 HB; have BK209 := n0_; have BK210 := n1_; have HB := n2_; clear n0_ n1_ n2_; (try clear hb); (try clear hb2); (try clear hk); (try clear hi)) | (go_at_call 37; (with_reducible refine (api_Byte_37.calls _ _ l2 38 false _ ?side1 ?side2 A10.out).mono ?_); (case side1 => repeat (first | exact (Kd.C_below HR2.out HB.out) | (with_reducible refine Kd.C_alloc ?_ _) | (with_reducible refine Kd.C_drewN ?_ _) | (with_reducible refine Kd.C_drew ?_))); (case side2 => exact HC2.out); rintro e w29 ⟨rfl, hb⟩; have n0_ := Aside0.mk (zbb BK209.out hb); have n1_ := Aside0.mk (zbb BK210.out hb); have n2_ := Aside0.mk (below_step (zw2 HB.out GE209.out GE210.out) hb); clear BK209 BK210 HB; have BK209 := n0_; have BK210 := n1_; have HB := n2_; clear n0_ n1_ n2_; (try clear hb); (try clear hb2); (try clear hk); (try clear hi); have hcz30_0 := zc BK209.out 0; have hcz30_1 := zc BK209.out 1; have hfz30_0 := blk_frozen BK209.out 0; have hfz30_1 := blk_frozen BK209.out 1) | ((with_reducible refine gate_callee (f := 40) rfl ?_); refine zgo (some 34) Try.func40 #[.agg #[.bool a0_0, .int .i64 a0_1], .int .i64 a1, .slice A2 l2.length c2] ?_; (with_reducible refine (bytes_Read.calls k a0_0 a0_1 a1 _ _ l2 t215 t216 t217 t218 t219 _ ?side1 ?side2 A21.out).mono ?_); (case side1 => repeat (first | exact (Kd.C_below HR2.out HB.out) | (with_reducible refine Kd.C_alloc ?_ _) | (with_reducible refine Kd.C_drewN ?_ _) | (with_reducible refine Kd.C_drew ?_))); (case side2 => exact HC2.out); rintro e w31 ⟨rfl, hb⟩; refine ⟨_, rfl, ?_⟩; have n0_ := Aside0.mk (zbb BK209.out hb); have n1_ := Aside0.mk (zbb BK210.out hb); have n2_ := Aside0.mk (below_step (zw2 HB.out GE209.out GE210.out) hb); clear BK209 BK210 HB; have BK209 := n0_; have BK210 := n1_; have HB := n2_; clear n0_ n1_ n2_; (try clear hb); (try clear hb2); (try clear hk); (try clear hi); have hcz32_0 := zc BK210.out 0; have hcz32_1 := zc BK210.out 1; have hcz32_2 := zc BK210.out 2; have hcz32_3 := zc BK210.out 3; have hfz32_0 := blk_frozen BK210.out 0; have hfz32_1 := blk_frozen BK210.out 1; have hfz32_2 := blk_frozen BK210.out 2; have hfz32_3 := blk_frozen BK210.out 3))
  refine bodyPost_ret (results_ctt rfl _ _ gb210 33 #[.bool t215, .int .i64 t216, .int .i64 t217, .int .i64 t218] (0, 0) _ rfl (by (with_reducible repeat (first | refine blk_drewN ?_ _ | refine blk_drew ?_ | refine blk_alloc ?_ _)); refine blk_put (cs := #[.bool t215, .int .i64 t216, .int .i64 t217, .int .i64 t218]) ?_ 3 _ rfl; (with_reducible repeat (first | refine blk_drewN ?_ _ | refine blk_drew ?_ | refine blk_alloc ?_ _)); refine blk_put (cs := #[.bool t215, .int .i64 t216, .int .i64 t217, .int .i64 t218]) ?_ 2 _ rfl; (with_reducible repeat (first | refine blk_drewN ?_ _ | refine blk_drew ?_ | refine blk_alloc ?_ _)); refine blk_put (cs := #[.bool t215, .int .i64 t216, .int .i64 t217, .int .i64 t218]) ?_ 1 _ rfl; (with_reducible repeat (first | refine blk_drewN ?_ _ | refine blk_drew ?_ | refine blk_alloc ?_ _)); refine blk_put (cs := #[.bool t215, .int .i64 t216, .int .i64 t217, .int .i64 t218]) ?_ 0 _ rfl; (with_reducible repeat (first | refine blk_drewN ?_ _ | refine blk_drew ?_ | refine blk_alloc ?_ _)); refine blk_put (cs := #[.bool t215, .int .i64 t216, .int .i64 t217, .int .i64 0]) ?_ 3 _ rfl; (with_reducible repeat (first | refine blk_drewN ?_ _ | refine blk_drew ?_ | refine blk_alloc ?_ _)); refine blk_put (cs := #[.bool t215, .int .i64 t216, .int .i64 0, .int .i64 0]) ?_ 2 _ rfl; (with_reducible repeat (first | refine blk_drewN ?_ _ | refine blk_drew ?_ | refine blk_alloc ?_ _)); refine blk_put (cs := #[.bool t215, .int .i64 0, .int .i64 0, .int .i64 0]) ?_ 1 _ rfl; (with_reducible repeat (first | refine blk_drewN ?_ _ | refine blk_drew ?_ | refine blk_alloc ?_ _)); refine blk_put (cs := #[.bool false, .int .i64 0, .int .i64 0, .int .i64 0]) ?_ 0 _ rfl; (with_reducible repeat (first | refine blk_drewN ?_ _ | refine blk_drew ?_ | refine blk_alloc ?_ _)); exact BK210.out) Try.underlying33 rfl (by kernel_rfl)) rfl ?_
  exact ⟨ze, zw2 HB.out GE209.out GE210.out⟩
 ·replace c5 := Bool.eq_false_iff.mpr c5
  subst c5
  have H1 : (some (false, 0, 0, 0, 0, 1)) = some (r1, r2, r3, r4, r5, r6) := by rw [if_neg (show ¬ (false = true) by decide)] at H; exact H
  clear H
  have H := H1
  clear H1
  simp only [Option.some.injEq, Prod.mk.injEq] at H
  obtain ⟨rfl, rfl, rfl, rfl, rfl, rfl⟩ := H
  go_enter Try.func17, Try.ntmps17
  go_wp2_with (first | ((with_reducible refine gate_dst (N := 3) rfl ?_); (try (refine gate_guard (by rfl) ?_; dsimp only)); refine zbox (N := 3) (cs := #[.bool a0_0, .int .i64 a0_1]) (t := 38) ?_; intro gb209 hg w47 hbox hb; have n0_ := Aside0.mk (below_step (zw0 HB.out) hb); have BK209 := Aside0.mk (hbox); have GW209 := Aside0.mk (zg hg (below_size (zw0 HB.out))); have GE209 := GW209; clear HB; have HB := n0_; clear n0_; clear hb hbox hg) | ((with_reducible refine gate_dst (N := 6) rfl ?_); (try (refine gate_guard (by rfl) ?_; dsimp only)); refine zbox (N := 6) (cs := #[.bool false, .int .i64 0, .int .i64 0, .int .i64 0]) (t := 33) ?_; intro gb210 hg w48 hbox hb; have n0_ := Aside0.mk (zbb BK209.out hb); have n1_ := Aside0.mk (below_step (zw1 HB.out GE209.out) hb); have BK210 := Aside0.mk (hbox); have GW210 := Aside0.mk (zg hg (below_size (zw1 HB.out GE209.out))); have GE210 := GW210; have NB209_210 := Aside0.mk (zlt hg BK209.out); have NB210_209 := Aside0.mk (zgt hg BK209.out); clear BK209 HB; have BK209 := n0_; have HB := n1_; clear n0_ n1_; clear hb hbox hg; have hnb49 := NB209_210.out; have hnc49 := NB210_209.out; have hcz50_0 := zc BK209.out 0; have hcz50_1 := zc BK209.out 1; have hfz50_0 := blk_frozen BK209.out 0; have hfz50_1 := blk_frozen BK209.out 1) | ((with_reducible refine gate_callee (f := 34) rfl ?_); refine zgo (some 10) Try.func34 #[.agg #[.bool a0_0, .int .i64 a0_1]] ?_; (with_reducible refine (word_May.calls a0_0 a0_1 false _ A4.out).mono ?_); rintro e w51 ⟨rfl, hb⟩; refine ⟨_, rfl, ?_⟩; have n0_ := Aside0.mk (zbb BK209.out hb); have n1_ := Aside0.mk (zbb BK210.out hb); have n2_ := Aside0.mk (below_step (zw2 HB.out GE209.out GE210.out) hb); clear BK209 BK210 HB; have BK209 := n0_; have BK210 := n1_; have HB := n2_; clear n0_ n1_ n2_; (try clear hb); (try clear hb2); (try clear hk); (try clear hi); have hcz52_0 := zc BK210.out 0; have hcz52_1 := zc BK210.out 1; have hcz52_2 := zc BK210.out 2; have hcz52_3 := zc BK210.out 3; have hfz52_0 := blk_frozen BK210.out 0; have hfz52_1 := blk_frozen BK210.out 1; have hfz52_2 := blk_frozen BK210.out 2; have hfz52_3 := blk_frozen BK210.out 3))
  refine bodyPost_ret (results_ctt rfl _ _ gb210 33 #[.bool false, .int .i64 0, .int .i64 0, .int .i64 0] (0, 0) _ rfl (by (with_reducible repeat (first | refine blk_drewN ?_ _ | refine blk_drew ?_ | refine blk_alloc ?_ _)); refine blk_put (cs := #[.bool false, .int .i64 0, .int .i64 0, .int .i64 0]) ?_ 3 _ rfl; (with_reducible repeat (first | refine blk_drewN ?_ _ | refine blk_drew ?_ | refine blk_alloc ?_ _)); refine blk_put (cs := #[.bool false, .int .i64 0, .int .i64 0, .int .i64 0]) ?_ 2 _ rfl; (with_reducible repeat (first | refine blk_drewN ?_ _ | refine blk_drew ?_ | refine blk_alloc ?_ _)); refine blk_put (cs := #[.bool false, .int .i64 0, .int .i64 0, .int .i64 0]) ?_ 1 _ rfl; (with_reducible repeat (first | refine blk_drewN ?_ _ | refine blk_drew ?_ | refine blk_alloc ?_ _)); refine blk_put (cs := #[.bool false, .int .i64 0, .int .i64 0, .int .i64 0]) ?_ 0 _ rfl; (with_reducible repeat (first | refine blk_drewN ?_ _ | refine blk_drew ?_ | refine blk_alloc ?_ _)); exact BK210.out) Try.underlying33 rfl (by kernel_rfl)) rfl ?_
  exact ⟨ze, zw2 HB.out GE209.out GE210.out⟩

/-! cellarref0_Between -/
def cellarref0_Between.f (a0 : Int) (a1 : Int) (a2 : Int) : Option (Bool) := if a0 ≥ a1 then (some (decide (a0 ≤ a2))) else (some false)
set_option maxHeartbeats 8000000 in
set_option maxRecDepth 100000 in
theorem cellarref0_Between.calls (a0 : Int) (a1 : Int) (a2 : Int) (r : Bool) (w : World) (h : cellarref0_Between.f a0 a1 a2 = some r) :
  Calls Try.prog 41 #[.int .i64 a0, .int .i64 a1, .int .i64 a2] w fun e w' => e = .returned (.bool r) ∧ Drawn0 w w' := by
 have H : (if a0 ≥ a1 then (some (decide (a0 ≤ a2))) else (some false)) = some r := h
 clear h
 by_cases c4 : a0 ≥ a1
 ·rw [if_pos c4] at H
  have c4b0 : decide (a1 ≤ a0) = true := decide_eq_true c4
  clear c4
  obtain rfl := Option.some.inj H
  go_enter Try.func41, Try.ntmps41
  go_wp2
  go_ret
  exact ⟨zr, by repeat (first | exact Drawn0.refl _ | apply Drawn0.step)⟩
 ·rw [if_neg c4] at H
  have c4b0 : decide (a1 ≤ a0) = false := decide_eq_false c4
  clear c4
  obtain rfl := Option.some.inj H
  go_enter Try.func41, Try.ntmps41
  go_wp2
  go_ret
  exact ⟨zr, by repeat (first | exact Drawn0.refl _ | apply Drawn0.step)⟩

/-! cellarref1_Kind -/
def cellarref1_Kind.f (a0 : Int) : Option (Bool) := (cellarref0_Between.f a0 1 7).bind fun t220 => (some t220)
set_option maxHeartbeats 8000000 in
set_option maxRecDepth 100000 in
theorem cellarref1_Kind.calls (a0 : Int) (r : Bool) (w : World) (h : cellarref1_Kind.f a0 = some r) :
  Calls Try.prog 19 #[.int .i64 a0] w fun e w' => e = .returned (.bool r) ∧ Drawn0 w w' := by
 have H : ((cellarref0_Between.f a0 1 7).bind fun t220 => (some t220)) = some r := h
 clear h
 replace H := Option.bind_eq_some_iff.mp H
 obtain ⟨t220, A20, H⟩ := H
 replace H : (some t220) = some r := H
 have A2 := Aside0.mk A20
 clear A20
 obtain rfl := Option.some.inj H
 go_enter Try.func19, Try.ntmps19
 go_wp2_with (first | ((with_reducible refine gate_callee (f := 41) rfl ?_); refine zgo (some 4) Try.func41 #[.int .i64 a0, .int .i64 1, .int .i64 7] ?_; (with_reducible refine (cellarref0_Between.calls a0 1 7 t220 _ A2.out).mono ?_); rintro e w' ⟨rfl, ⟨nd, rfl⟩⟩; refine ⟨_, rfl, ?_⟩))
 go_ret
 exact ⟨zr, by repeat (first | exact Drawn0.refl _ | apply Drawn0.step)⟩

/-! cellarref7_Byte -/
def cellarref7_Byte.f (a0_0 : Int) (a0_1 : Int) (a0_2 : Int) (a0_3 : Int) (a0_4 : Int) : Option (Bool) := if a0_0 = 0 then (some (a0_0 == 0 && (a0_1 == 0 && (a0_2 == 0 && (a0_3 == 0 && (a0_4 == 0)))))) else (if a0_0 = 1 then ((cellarref0_Num.f a0_1 255).bind fun t222 => (if t222 = true then (if a0_2 = 0 then (if a0_3 = 0 then (some (a0_4 == 0)) else (some false)) else (some false)) else (some false))) else (if a0_0 = 2 then (if a0_1 = 0 then ((cellarref0_Between.f a0_2 1 32).bind fun t223 => (if t223 = true then ((cellarref0_Num.f a0_3 32).bind fun t224 => (if t224 = true then ((cellarref0_Num.f a0_4 3).bind fun t225 => (some t225)) else (some false))) else (some false))) else (some false)) else (some false)))
set_option maxHeartbeats 8000000 in
set_option maxRecDepth 100000 in
theorem cellarref7_Byte.calls (a0_0 : Int) (a0_1 : Int) (a0_2 : Int) (a0_3 : Int) (a0_4 : Int) (r : Bool) (w : World) (h : cellarref7_Byte.f a0_0 a0_1 a0_2 a0_3 a0_4 = some r) :
  Calls Try.prog 33 #[.agg #[.int .i64 a0_0, .int .i64 a0_1, .int .i64 a0_2, .int .i64 a0_3, .int .i64 a0_4]] w fun e w' => e = .returned (.bool r) ∧ Below w.heap.size w w' := by
 have hu51 := Try.underlying51
 have HB := Aside0.mk (Below.refl w.heap.size w)
 have H : (if a0_0 = 0 then (some (a0_0 == 0 && (a0_1 == 0 && (a0_2 == 0 && (a0_3 == 0 && (a0_4 == 0)))))) else (if a0_0 = 1 then ((cellarref0_Num.f a0_1 255).bind fun t222 => (if t222 = true then (if a0_2 = 0 then (if a0_3 = 0 then (some (a0_4 == 0)) else (some false)) else (some false)) else (some false))) else (if a0_0 = 2 then (if a0_1 = 0 then ((cellarref0_Between.f a0_2 1 32).bind fun t223 => (if t223 = true then ((cellarref0_Num.f a0_3 32).bind fun t224 => (if t224 = true then ((cellarref0_Num.f a0_4 3).bind fun t225 => (some t225)) else (some false))) else (some false))) else (some false)) else (some false)))) = some r := h
 clear h
 by_cases c2 : a0_0 = 0
 ·rw [if_pos c2] at H
  have c2b0 : (a0_0 == 0) = true := beq_iff_eq.mpr c2
  have c2b1 : (a0_0 != 0) = false := bne_eq_false_iff_eq.mpr c2
  clear c2
  obtain rfl := Option.some.inj H
  go_enter Try.func33, Try.ntmps33
  go_wp2_with (first | ((with_reducible refine gate_dst (N := 1) rfl ?_); refine zbox (N := 1) (cs := #[.int .i64 a0_0, .int .i64 a0_1, .int .i64 a0_2, .int .i64 a0_3, .int .i64 a0_4]) (t := 51) ?_; intro gb221 hg w3 hbox hb; have n0_ := Aside0.mk (below_step (zw0 HB.out) hb); have BK221 := Aside0.mk (hbox); have GW221 := Aside0.mk (zg hg (below_size (zw0 HB.out))); have GE221 := GW221; clear HB; have HB := n0_; clear n0_; clear hb hbox hg; have hcz4_0 := zc BK221.out 0; have hcz4_1 := zc BK221.out 1; have hcz4_2 := zc BK221.out 2; have hcz4_3 := zc BK221.out 3; have hcz4_4 := zc BK221.out 4; have hfz4_0 := blk_frozen BK221.out 0; have hfz4_1 := blk_frozen BK221.out 1; have hfz4_2 := blk_frozen BK221.out 2; have hfz4_3 := blk_frozen BK221.out 3; have hfz4_4 := blk_frozen BK221.out 4))
  go_ret
  exact ⟨ze, zw1 HB.out GE221.out⟩
 ·rw [if_neg c2] at H
  have c2b0 : (a0_0 == 0) = false := beq_eq_false_iff_ne.mpr c2
  have c2b1 : (a0_0 != 0) = true := bne_iff_ne.mpr c2
  by_cases c5 : a0_0 = 1
  ·rw [if_pos c5] at H
   have c5b0 : (a0_0 == 1) = true := beq_iff_eq.mpr c5
   have c5b1 : (a0_0 != 1) = false := bne_eq_false_iff_eq.mpr c5
   clear c5
   replace H := Option.bind_eq_some_iff.mp H
   obtain ⟨t222, A60, H⟩ := H
   replace H : (if t222 = true then (if a0_2 = 0 then (if a0_3 = 0 then (some (a0_4 == 0)) else (some false)) else (some false)) else (some false)) = some r := H
   have A6 := Aside0.mk A60
   clear A60
   by_cases c7 : t222 = true
   rotate_left
   ·replace c7 := Bool.eq_false_iff.mpr c7
    subst c7
    have H1 : (some false) = some r := by rw [if_neg (show ¬ (false = true) by decide)] at H; exact H
    clear H
    have H := H1
    clear H1
    obtain rfl := Option.some.inj H
    go_enter Try.func33, Try.ntmps33
    go_wp2_with (first | ((with_reducible refine gate_dst (N := 1) rfl ?_); refine zbox (N := 1) (cs := #[.int .i64 a0_0, .int .i64 a0_1, .int .i64 a0_2, .int .i64 a0_3, .int .i64 a0_4]) (t := 51) ?_; intro gb221 hg w16 hbox hb; have n0_ := Aside0.mk (below_step (zw0 HB.out) hb); have BK221 := Aside0.mk (hbox); have GW221 := Aside0.mk (zg hg (below_size (zw0 HB.out))); have GE221 := GW221; clear HB; have HB := n0_; clear n0_; clear hb hbox hg; have hcz17_0 := zc BK221.out 0; have hcz17_1 := zc BK221.out 1; have hcz17_2 := zc BK221.out 2; have hcz17_3 := zc BK221.out 3; have hcz17_4 := zc BK221.out 4; have hfz17_0 := blk_frozen BK221.out 0; have hfz17_1 := blk_frozen BK221.out 1; have hfz17_2 := blk_frozen BK221.out 2; have hfz17_3 := blk_frozen BK221.out 3; have hfz17_4 := blk_frozen BK221.out 4) | ((with_reducible refine gate_callee (f := 46) rfl ?_); refine zgo (some 14) Try.func46 #[.int .i64 a0_1, .int .i64 255] ?_; (with_reducible refine (cellarref0_Num.calls a0_1 255 false _ A6.out).mono ?_); rintro e w' ⟨rfl, ⟨nd, rfl⟩⟩; refine ⟨_, rfl, ?_⟩))
    go_ret
    exact ⟨ze, zw1 HB.out GE221.out⟩
   subst c7
   have H1 : (if a0_2 = 0 then (if a0_3 = 0 then (some (a0_4 == 0)) else (some false)) else (some false)) = some r := by rw [if_pos rfl] at H; exact H
   clear H
   have H := H1
   clear H1
   by_cases c8 : a0_2 = 0
   rotate_left
   ·rw [if_neg c8] at H
    have c8b0 : (a0_2 == 0) = false := beq_eq_false_iff_ne.mpr c8
    have c8b1 : (a0_2 != 0) = true := bne_iff_ne.mpr c8
    obtain rfl := Option.some.inj H
    go_enter Try.func33, Try.ntmps33
    go_wp2_with (first | ((with_reducible refine gate_dst (N := 1) rfl ?_); refine zbox (N := 1) (cs := #[.int .i64 a0_0, .int .i64 a0_1, .int .i64 a0_2, .int .i64 a0_3, .int .i64 a0_4]) (t := 51) ?_; intro gb221 hg w14 hbox hb; have n0_ := Aside0.mk (below_step (zw0 HB.out) hb); have BK221 := Aside0.mk (hbox); have GW221 := Aside0.mk (zg hg (below_size (zw0 HB.out))); have GE221 := GW221; clear HB; have HB := n0_; clear n0_; clear hb hbox hg; have hcz15_0 := zc BK221.out 0; have hcz15_1 := zc BK221.out 1; have hcz15_2 := zc BK221.out 2; have hcz15_3 := zc BK221.out 3; have hcz15_4 := zc BK221.out 4; have hfz15_0 := blk_frozen BK221.out 0; have hfz15_1 := blk_frozen BK221.out 1; have hfz15_2 := blk_frozen BK221.out 2; have hfz15_3 := blk_frozen BK221.out 3; have hfz15_4 := blk_frozen BK221.out 4) | ((with_reducible refine gate_callee (f := 46) rfl ?_); refine zgo (some 14) Try.func46 #[.int .i64 a0_1, .int .i64 255] ?_; (with_reducible refine (cellarref0_Num.calls a0_1 255 true _ A6.out).mono ?_); rintro e w' ⟨rfl, ⟨nd, rfl⟩⟩; refine ⟨_, rfl, ?_⟩))
    go_ret
    exact ⟨ze, zw1 HB.out GE221.out⟩
   rw [if_pos c8] at H
   have c8b0 : (a0_2 == 0) = true := beq_iff_eq.mpr c8
   have c8b1 : (a0_2 != 0) = false := bne_eq_false_iff_eq.mpr c8
   clear c8
   by_cases c9 : a0_3 = 0
   rotate_left
   ·rw [if_neg c9] at H
    have c9b0 : (a0_3 == 0) = false := beq_eq_false_iff_ne.mpr c9
    have c9b1 : (a0_3 != 0) = true := bne_iff_ne.mpr c9
    obtain rfl := Option.some.inj H
    go_enter Try.func33, Try.ntmps33
    go_wp2_with (first | ((with_reducible refine gate_dst (N := 1) rfl ?_); refine zbox (N := 1) (cs := #[.int .i64 a0_0, .int .i64 a0_1, .int .i64 a0_2, .int .i64 a0_3, .int .i64 a0_4]) (t := 51) ?_; intro gb221 hg w12 hbox hb; have n0_ := Aside0.mk (below_step (zw0 HB.out) hb); have BK221 := Aside0.mk (hbox); have GW221 := Aside0.mk (zg hg (below_size (zw0 HB.out))); have GE221 := GW221; clear HB; have HB := n0_; clear n0_; clear hb hbox hg; have hcz13_0 := zc BK221.out 0; have hcz13_1 := zc BK221.out 1; have hcz13_2 := zc BK221.out 2; have hcz13_3 := zc BK221.out 3; have hcz13_4 := zc BK221.out 4; have hfz13_0 := blk_frozen BK221.out 0; have hfz13_1 := blk_frozen BK221.out 1; have hfz13_2 := blk_frozen BK221.out 2; have hfz13_3 := blk_frozen BK221.out 3; have hfz13_4 := blk_frozen BK221.out 4) | ((with_reducible refine gate_callee (f := 46) rfl ?_); refine zgo (some 14) Try.func46 #[.int .i64 a0_1, .int .i64 255] ?_; (with_reducible refine (cellarref0_Num.calls a0_1 255 true _ A6.out).mono ?_); rintro e w' ⟨rfl, ⟨nd, rfl⟩⟩; refine ⟨_, rfl, ?_⟩))
    go_ret
    exact ⟨ze, zw1 HB.out GE221.out⟩
   rw [if_pos c9] at H
   have c9b0 : (a0_3 == 0) = true := beq_iff_eq.mpr c9
   have c9b1 : (a0_3 != 0) = false := bne_eq_false_iff_eq.mpr c9
   clear c9
   obtain rfl := Option.some.inj H
   go_enter Try.func33, Try.ntmps33
   go_wp2_with (first | ((with_reducible refine gate_dst (N := 1) rfl ?_); refine zbox (N := 1) (cs := #[.int .i64 a0_0, .int .i64 a0_1, .int .i64 a0_2, .int .i64 a0_3, .int .i64 a0_4]) (t := 51) ?_; intro gb221 hg w10 hbox hb; have n0_ := Aside0.mk (below_step (zw0 HB.out) hb); have BK221 := Aside0.mk (hbox); have GW221 := Aside0.mk (zg hg (below_size (zw0 HB.out))); have GE221 := GW221; clear HB; have HB := n0_; clear n0_; clear hb hbox hg; have hcz11_0 := zc BK221.out 0; have hcz11_1 := zc BK221.out 1; have hcz11_2 := zc BK221.out 2; have hcz11_3 := zc BK221.out 3; have hcz11_4 := zc BK221.out 4; have hfz11_0 := blk_frozen BK221.out 0; have hfz11_1 := blk_frozen BK221.out 1; have hfz11_2 := blk_frozen BK221.out 2; have hfz11_3 := blk_frozen BK221.out 3; have hfz11_4 := blk_frozen BK221.out 4) | ((with_reducible refine gate_callee (f := 46) rfl ?_); refine zgo (some 14) Try.func46 #[.int .i64 a0_1, .int .i64 255] ?_; (with_reducible refine (cellarref0_Num.calls a0_1 255 true _ A6.out).mono ?_); rintro e w' ⟨rfl, ⟨nd, rfl⟩⟩; refine ⟨_, rfl, ?_⟩))
   go_ret
   exact ⟨ze, zw1 HB.out GE221.out⟩
  ·rw [if_neg c5] at H
   have c5b0 : (a0_0 == 1) = false := beq_eq_false_iff_ne.mpr c5
   have c5b1 : (a0_0 != 1) = true := bne_iff_ne.mpr c5
   by_cases c18 : a0_0 = 2
   ·rw [if_pos c18] at H
    have c18b0 : (a0_0 == 2) = true := beq_iff_eq.mpr c18
    have c18b1 : (a0_0 != 2) = false := bne_eq_false_iff_eq.mpr c18
    clear c18
    by_cases c19 : a0_1 = 0
    rotate_left
    ·rw [if_neg c19] at H
     have c19b0 : (a0_1 == 0) = false := beq_eq_false_iff_ne.mpr c19
     have c19b1 : (a0_1 != 0) = true := bne_iff_ne.mpr c19
     obtain rfl := Option.some.inj H
     go_enter Try.func33, Try.ntmps33
     go_wp2_with (first | ((with_reducible refine gate_dst (N := 1) rfl ?_); refine zbox (N := 1) (cs := #[.int .i64 a0_0, .int .i64 a0_1, .int .i64 a0_2, .int .i64 a0_3, .int .i64 a0_4]) (t := 51) ?_; intro gb221 hg w31 hbox hb; have n0_ := Aside0.mk (below_step (zw0 HB.out) hb); have BK221 := Aside0.mk (hbox); have GW221 := Aside0.mk (zg hg (below_size (zw0 HB.out))); have GE221 := GW221; clear HB; have HB := n0_; clear n0_; clear hb hbox hg; have hcz32_0 := zc BK221.out 0; have hcz32_1 := zc BK221.out 1; have hcz32_2 := zc BK221.out 2; have hcz32_3 := zc BK221.out 3; have hcz32_4 := zc BK221.out 4; have hfz32_0 := blk_frozen BK221.out 0; have hfz32_1 := blk_frozen BK221.out 1; have hfz32_2 := blk_frozen BK221.out 2; have hfz32_3 := blk_frozen BK221.out 3; have hfz32_4 := blk_frozen BK221.out 4))
     go_ret
     exact ⟨ze, zw1 HB.out GE221.out⟩
    rw [if_pos c19] at H
    have c19b0 : (a0_1 == 0) = true := beq_iff_eq.mpr c19
    have c19b1 : (a0_1 != 0) = false := bne_eq_false_iff_eq.mpr c19
    clear c19
    replace H := Option.bind_eq_some_iff.mp H
    obtain ⟨t223, A200, H⟩ := H
    replace H : (if t223 = true then ((cellarref0_Num.f a0_3 32).bind fun t224 => (if t224 = true then ((cellarref0_Num.f a0_4 3).bind fun t225 => (some t225)) else (some false))) else (some false)) = some r := H
    have A20 := Aside0.mk A200
    clear A200
    by_cases c21 : t223 = true
    rotate_left
    ·replace c21 := Bool.eq_false_iff.mpr c21
     subst c21
     have H1 : (some false) = some r := by rw [if_neg (show ¬ (false = true) by decide)] at H; exact H
     clear H
     have H := H1
     clear H1
     obtain rfl := Option.some.inj H
     go_enter Try.func33, Try.ntmps33
     go_wp2_with (first | ((with_reducible refine gate_dst (N := 1) rfl ?_); refine zbox (N := 1) (cs := #[.int .i64 a0_0, .int .i64 a0_1, .int .i64 a0_2, .int .i64 a0_3, .int .i64 a0_4]) (t := 51) ?_; intro gb221 hg w29 hbox hb; have n0_ := Aside0.mk (below_step (zw0 HB.out) hb); have BK221 := Aside0.mk (hbox); have GW221 := Aside0.mk (zg hg (below_size (zw0 HB.out))); have GE221 := GW221; clear HB; have HB := n0_; clear n0_; clear hb hbox hg; have hcz30_0 := zc BK221.out 0; have hcz30_1 := zc BK221.out 1; have hcz30_2 := zc BK221.out 2; have hcz30_3 := zc BK221.out 3; have hcz30_4 := zc BK221.out 4; have hfz30_0 := blk_frozen BK221.out 0; have hfz30_1 := blk_frozen BK221.out 1; have hfz30_2 := blk_frozen BK221.out 2; have hfz30_3 := blk_frozen BK221.out 3; have hfz30_4 := blk_frozen BK221.out 4) | (go_at_call 41; (with_reducible refine (cellarref0_Between.calls a0_2 1 32 false _ A20.out).mono ?_); rintro e w' ⟨rfl, ⟨nd, rfl⟩⟩))
     go_ret
     exact ⟨ze, zw1 HB.out GE221.out⟩
    subst c21
    have H1 : ((cellarref0_Num.f a0_3 32).bind fun t224 => (if t224 = true then ((cellarref0_Num.f a0_4 3).bind fun t225 => (some t225)) else (some false))) = some r := by rw [if_pos rfl] at H; exact H
    clear H
    have H := H1
    clear H1
    replace H := Option.bind_eq_some_iff.mp H
    obtain ⟨t224, A220, H⟩ := H
    replace H : (if t224 = true then ((cellarref0_Num.f a0_4 3).bind fun t225 => (some t225)) else (some false)) = some r := H
    have A22 := Aside0.mk A220
    clear A220
    by_cases c23 : t224 = true
    rotate_left
    ·replace c23 := Bool.eq_false_iff.mpr c23
     subst c23
     have H1 : (some false) = some r := by rw [if_neg (show ¬ (false = true) by decide)] at H; exact H
     clear H
     have H := H1
     clear H1
     obtain rfl := Option.some.inj H
     go_enter Try.func33, Try.ntmps33
     go_wp2_with (first | ((with_reducible refine gate_dst (N := 1) rfl ?_); refine zbox (N := 1) (cs := #[.int .i64 a0_0, .int .i64 a0_1, .int .i64 a0_2, .int .i64 a0_3, .int .i64 a0_4]) (t := 51) ?_; intro gb221 hg w27 hbox hb; have n0_ := Aside0.mk (below_step (zw0 HB.out) hb); have BK221 := Aside0.mk (hbox); have GW221 := Aside0.mk (zg hg (below_size (zw0 HB.out))); have GE221 := GW221; clear HB; have HB := n0_; clear n0_; clear hb hbox hg; have hcz28_0 := zc BK221.out 0; have hcz28_1 := zc BK221.out 1; have hcz28_2 := zc BK221.out 2; have hcz28_3 := zc BK221.out 3; have hcz28_4 := zc BK221.out 4; have hfz28_0 := blk_frozen BK221.out 0; have hfz28_1 := blk_frozen BK221.out 1; have hfz28_2 := blk_frozen BK221.out 2; have hfz28_3 := blk_frozen BK221.out 3; have hfz28_4 := blk_frozen BK221.out 4) | (go_at_call 41; (with_reducible refine (cellarref0_Between.calls a0_2 1 32 true _ A20.out).mono ?_); rintro e w' ⟨rfl, ⟨nd, rfl⟩⟩) | (go_at_call 46; (with_reducible refine (cellarref0_Num.calls a0_3 32 false _ A22.out).mono ?_); rintro e w' ⟨rfl, ⟨nd, rfl⟩⟩))
     go_ret
     exact ⟨ze, zw1 HB.out GE221.out⟩
    subst c23
    have H1 : ((cellarref0_Num.f a0_4 3).bind fun t225 => (some t225)) = some r := by rw [if_pos rfl] at H; exact H
    clear H
    have H := H1
    clear H1
    replace H := Option.bind_eq_some_iff.mp H
    obtain ⟨t225, A240, H⟩ := H
    replace H : (some t225) = some r := H
    have A24 := Aside0.mk A240
    clear A240
    obtain rfl := Option.some.inj H
    go_enter Try.func33, Try.ntmps33
    go_wp2_with (first | ((with_reducible refine gate_dst (N := 1) rfl ?_); refine zbox (N := 1) (cs := #[.int .i64 a0_0, .int .i64 a0_1, .int .i64 a0_2, .int .i64 a0_3, .int .i64 a0_4]) (t := 51) ?_; intro gb221 hg w25 hbox hb; have n0_ := Aside0.mk (below_step (zw0 HB.out) hb); have BK221 := Aside0.mk (hbox); have GW221 := Aside0.mk (zg hg (below_size (zw0 HB.out))); have GE221 := GW221; clear HB; have HB := n0_; clear n0_; clear hb hbox hg; have hcz26_0 := zc BK221.out 0; have hcz26_1 := zc BK221.out 1; have hcz26_2 := zc BK221.out 2; have hcz26_3 := zc BK221.out 3; have hcz26_4 := zc BK221.out 4; have hfz26_0 := blk_frozen BK221.out 0; have hfz26_1 := blk_frozen BK221.out 1; have hfz26_2 := blk_frozen BK221.out 2; have hfz26_3 := blk_frozen BK221.out 3; have hfz26_4 := blk_frozen BK221.out 4) | (go_at_call 41; (with_reducible refine (cellarref0_Between.calls a0_2 1 32 true _ A20.out).mono ?_); rintro e w' ⟨rfl, ⟨nd, rfl⟩⟩) | (go_at_call 46; (with_reducible refine (cellarref0_Num.calls a0_3 32 true _ A22.out).mono ?_); rintro e w' ⟨rfl, ⟨nd, rfl⟩⟩) | (go_at_call 46; (with_reducible refine (cellarref0_Num.calls a0_4 3 t225 _ A24.out).mono ?_); rintro e w' ⟨rfl, ⟨nd, rfl⟩⟩))
    go_ret
    exact ⟨ze, zw1 HB.out GE221.out⟩
   ·rw [if_neg c18] at H
    have c18b0 : (a0_0 == 2) = false := beq_eq_false_iff_ne.mpr c18
    have c18b1 : (a0_0 != 2) = true := bne_iff_ne.mpr c18
    obtain rfl := Option.some.inj H
    go_enter Try.func33, Try.ntmps33
    go_wp2_with (first | ((with_reducible refine gate_dst (N := 1) rfl ?_); refine zbox (N := 1) (cs := #[.int .i64 a0_0, .int .i64 a0_1, .int .i64 a0_2, .int .i64 a0_3, .int .i64 a0_4]) (t := 51) ?_; intro gb221 hg w33 hbox hb; have n0_ := Aside0.mk (below_step (zw0 HB.out) hb); have BK221 := Aside0.mk (hbox); have GW221 := Aside0.mk (zg hg (below_size (zw0 HB.out))); have GE221 := GW221; clear HB; have HB := n0_; clear n0_; clear hb hbox hg; have hcz34_0 := zc BK221.out 0; have hcz34_1 := zc BK221.out 1; have hcz34_2 := zc BK221.out 2; have hcz34_3 := zc BK221.out 3; have hcz34_4 := zc BK221.out 4; have hfz34_0 := blk_frozen BK221.out 0; have hfz34_1 := blk_frozen BK221.out 1; have hfz34_2 := blk_frozen BK221.out 2; have hfz34_3 := blk_frozen BK221.out 3; have hfz34_4 := blk_frozen BK221.out 4))
    go_ret
    exact ⟨ze, zw1 HB.out GE221.out⟩

end Go.Proofs.Ythhdmanpjeminaa.H
