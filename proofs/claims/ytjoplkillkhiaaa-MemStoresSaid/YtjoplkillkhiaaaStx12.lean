-- Written by this session's own edition of the print.
import Derived.Test.YtjoplkillkhiaaaStx0
import Derived.Test.YtjoplkillkhiaaaStx6
import Derived.Test.YtjoplkillkhiaaaStx10
import Derived.Test.YtjoplkillkhiaaaStx11
import Derived.Test.YtjoplkillkhiaaaZSq
import Derived.Test.YtjoplkillkhiaaaZSq2
import Derived.Test.YtjoplkillkhiaaaZSq3
namespace Go.Proofs.Ytjoplkillkhiaaa.St
open Go.RowKit Go.Proofs.Ytjoplkillkhiaaa.Fn Go.Proofs.YtjoplkillkhiaaaW.PrintWords Go.Proofs.YtjoplkillkhiaaaW.PrintLast Go.Proofs.YtjoplkillkhiaaaW.PrintMore
attribute [local go_sem] max2_int min2_int max_two min_two max_three min_three max_four min_four   -- for this text's walks alone
set_option linter.unusedVariables false
set_option linter.unusedSimpArgs false

/-! bytes_Read -/
mutual
def bytes_Read.l0 : Nat → List (S74) → Int → Int → Int → Bool → Int → Option (Bool × Int × Int × Int × Int)
 | 0, _, _, _, _, _, _ => none
 | k + 1, x2, x8, x27, x28, x277000, x277001 => if x28 < x27 then (if 0 ≤ (wrap64 ((wrap64 ((x2.length : Int) - 1)) - x28)) then (if (wrap64 ((wrap64 ((x2.length : Int) - 1)) - x28)) < (x2.length : Int) then (if x277000 = true then (if 0 ≤ x28 then (if x28 < (x2.length : Int) then (bytes_Read.j1 k x2 x8 x27 x28 x277000 x277001 ((rd_T74 x2 x28).f0) ((rd_T74 x2 x28).f1) ((rd_T74 x2 x28).f2) ((rd_T74 x2 x28).f3) ((rd_T74 x2 x28).f4)) else (none)) else (none)) else (bytes_Read.j1 k x2 x8 x27 x28 x277000 x277001 ((rd_T74 x2 (wrap64 ((wrap64 ((x2.length : Int) - 1)) - x28))).f0) ((rd_T74 x2 (wrap64 ((wrap64 ((x2.length : Int) - 1)) - x28))).f1) ((rd_T74 x2 (wrap64 ((wrap64 ((x2.length : Int) - 1)) - x28))).f2) ((rd_T74 x2 (wrap64 ((wrap64 ((x2.length : Int) - 1)) - x28))).f3) ((rd_T74 x2 (wrap64 ((wrap64 ((x2.length : Int) - 1)) - x28))).f4))) else (none)) else (none)) else (some (false, x8, 0, 0, 0))
def bytes_Read.j1 : Nat → List (S74) → Int → Int → Int → Bool → Int → Int → Int → Int → Int → Int → Option (Bool × Int × Int × Int × Int)
 | 0, _, _, _, _, _, _, _, _, _, _, _ => none
 | k + 1, x2, x8, x27, x28, x277000, x277001, x287000, x287001, x287002, x287003, x287004 => bytes_Read.l0 k x2 (Go.bits .or .i64 (wrap64 (x8 * 256)) x287001) x27 (wrap64 (x28 + 1)) x277000 x277001
end
def bytes_Read.f (k : Nat) (a0_0 : Bool) (a0_1 : Int) (a1 : Int) (l2 : List (S74)) : Option (Bool × Int × Int × Int × Int) := (bytes_state.f l2 0).bind fun t278 => (if t278 = true then (some (false, 0, 0, 0, 7)) else (if a1 = 7 then ((bytes_pointer.f k l2).bind fun bt279 => (some (bt279.1, bt279.2.1, bt279.2.2.1, bt279.2.2.2.1, bt279.2.2.2.2))) else ((bytes_state.f l2 2).bind fun t284 => (if t284 = true then (some (false, 0, 0, 0, 8)) else (bytes_Read.l0 k l2 0 (l2.length : Int) 0 a0_0 a0_1)))))
theorem bytes_Read.mono_l : ∀ k, (∀ y0 y1 y2 y3 y4 y5, LeO (bytes_Read.l0 k y0 y1 y2 y3 y4 y5) (bytes_Read.l0 (k + 1) y0 y1 y2 y3 y4 y5)) ∧ (∀ y0 y1 y2 y3 y4 y5 y6 y7 y8 y9 y10, LeO (bytes_Read.j1 k y0 y1 y2 y3 y4 y5 y6 y7 y8 y9 y10) (bytes_Read.j1 (k + 1) y0 y1 y2 y3 y4 y5 y6 y7 y8 y9 y10))
 | 0 => ⟨fun _ _ _ _ _ _ r h => by simp [bytes_Read.l0] at h, fun _ _ _ _ _ _ _ _ _ _ _ r h => by simp [bytes_Read.j1] at h⟩
 | k + 1 => by
  obtain ⟨ih0, ih1⟩ := bytes_Read.mono_l k
  refine ⟨?_, ?_⟩
  ·intro y0 y1 y2 y3 y4 y5
   unfold bytes_Read.l0
   repeat' first
   | (with_reducible apply ih0)
   | (with_reducible apply ih1)
   | (with_reducible apply bytes_pointer.mono)
   | (with_reducible apply LeO.refl)
   | (with_reducible apply LeO.none)
   | (with_reducible refine LeO.ite ?_ ?_)
   | (with_reducible refine LeO.bind ?_ (fun _ => ?_))
  ·intro y0 y1 y2 y3 y4 y5 y6 y7 y8 y9 y10
   unfold bytes_Read.j1
   repeat' first
   | (with_reducible apply ih0)
   | (with_reducible apply ih1)
   | (with_reducible apply bytes_pointer.mono)
   | (with_reducible apply LeO.refl)
   | (with_reducible apply LeO.none)
   | (with_reducible refine LeO.ite ?_ ?_)
   | (with_reducible refine LeO.bind ?_ (fun _ => ?_))
theorem bytes_Read.mono : ∀ a0 a1 a2 a3 k, LeO (bytes_Read.f k a0 a1 a2 a3) (bytes_Read.f (k + 1) a0 a1 a2 a3) := by
 intro a0 a1 a2 a3 k
 obtain ⟨ih0, ih1⟩ := bytes_Read.mono_l k
 unfold bytes_Read.f
 repeat' first
   | (with_reducible apply ih0)
   | (with_reducible apply ih1)
   | (with_reducible apply bytes_pointer.mono)
   | (with_reducible apply LeO.refl)
   | (with_reducible apply LeO.none)
   | (with_reducible refine LeO.ite ?_ ?_)
   | (with_reducible refine LeO.bind ?_ (fun _ => ?_))
set_option maxHeartbeats 8000000 in
set_option maxRecDepth 100000 in
theorem bytes_Read.calls (k : Nat) (a0_0 : Bool) (a0_1 : Int) (a1 : Int) (A2 : Option Addr) (c2 : Nat) (l2 : List (S74)) (r1 : Bool) (r2 : Int) (r3 : Int) (r4 : Int) (r5 : Int) (w : World) (hr2 : Kd.C k74 w A2 l2.length l2) (hc2 : l2.length ≤ c2) (h : bytes_Read.f k a0_0 a0_1 a1 l2 = some (r1, r2, r3, r4, r5)) :
  Calls Try.prog 106 #[.agg #[.bool a0_0, .int .i64 a0_1], .int .i64 a1, .slice A2 l2.length c2] w fun e w' => e = .returned (.tuple #[.agg #[.bool r1, .int .i64 r2, .int .i64 r3, .int .i64 r4], .int .i64 r5]) ∧ Below w.heap.size w w' := by
 have hu29 := Try.underlying29
 have hu62 := Try.underlying62
 have hu74 := Try.underlying74
 have HR2 := Aside0.mk hr2
 have HC2 := Aside0.mk hc2
 clear hr2 hc2
 have HB := Aside0.mk (Below.refl w.heap.size w)
 have H : ((bytes_state.f l2 0).bind fun t278 => (if t278 = true then (some (false, 0, 0, 0, 7)) else (if a1 = 7 then ((bytes_pointer.f k l2).bind fun bt279 => (some (bt279.1, bt279.2.1, bt279.2.2.1, bt279.2.2.2.1, bt279.2.2.2.2))) else ((bytes_state.f l2 2).bind fun t284 => (if t284 = true then (some (false, 0, 0, 0, 8)) else (bytes_Read.l0 k l2 0 (l2.length : Int) 0 a0_0 a0_1)))))) = some (r1, r2, r3, r4, r5) := h
 clear h
 replace H := Option.bind_eq_some_iff.mp H
 obtain ⟨t278, A40, H⟩ := H
 replace H : (if t278 = true then (some (false, 0, 0, 0, 7)) else (if a1 = 7 then ((bytes_pointer.f k l2).bind fun bt279 => (some (bt279.1, bt279.2.1, bt279.2.2.1, bt279.2.2.2.1, bt279.2.2.2.2))) else ((bytes_state.f l2 2).bind fun t284 => (if t284 = true then (some (false, 0, 0, 0, 8)) else (bytes_Read.l0 k l2 0 (l2.length : Int) 0 a0_0 a0_1))))) = some (r1, r2, r3, r4, r5) := H
 have A4 := Aside0.mk A40
 clear A40
 by_cases c5 : t278 = true
 ·subst c5
  have H1 : (some (false, 0, 0, 0, 7)) = some (r1, r2, r3, r4, r5) := by rw [if_pos rfl] at H; exact H
  clear H
  have H := H1
  clear H1
  simp only [Option.some.injEq, Prod.mk.injEq] at H
  obtain ⟨rfl, rfl, rfl, rfl, rfl⟩ := H
  go_enter Try.func106, Try.ntmps106
  go_wp2_with (first | ((with_reducible refine gate_dst (N := 3) rfl ?_); refine zbox (N := 3) (cs := #[.bool a0_0, .int .i64 a0_1]) (t := 29) ?_; intro gb276 hg w6 hbox hb; have n0_ := Aside0.mk (below_step (zw0 HB.out) hb); have BK276 := Aside0.mk (hbox); have GW276 := Aside0.mk (zg hg (below_size (zw0 HB.out))); have GE276 := GW276; clear HB; have HB := n0_; clear n0_; clear hb hbox hg) | ((with_reducible refine gate_dst (N := 6) rfl ?_); refine zbox (N := 6) (cs := #[.bool false, .int .i64 0, .int .i64 0, .int .i64 0]) (t := 62) ?_; intro gb277 hg w7 hbox hb; have n0_ := Aside0.mk (zbb BK276.out hb); have n1_ := Aside0.mk (below_step (zw1 HB.out GE276.out) hb); have BK277 := Aside0.mk (hbox); have GW277 := Aside0.mk (zg hg (below_size (zw1 HB.out GE276.out))); have GE277 := GW277; have NB276_277 := Aside0.mk (zlt hg BK276.out); have NB277_276 := Aside0.mk (zgt hg BK276.out); clear BK276 HB; have BK276 := n0_; have HB := n1_; clear n0_ n1_; clear hb hbox hg) | ((with_reducible refine gate_callee (f := 119) rfl ?_); refine zgo (some 13) Try.func119 #[.slice A2 l2.length c2, .int .i64 0] ?_; (with_reducible refine (bytes_state.calls _ _ l2 0 true _ ?side1 ?side2 A4.out).mono ?_); (case side1 => repeat (first | exact (Kd.C_below HR2.out HB.out) | (with_reducible refine Kd.C_alloc ?_ _) | (with_reducible refine Kd.C_drewN ?_ _) | (with_reducible refine Kd.C_drew ?_))); (case side2 => exact HC2.out); rintro e w8 ⟨rfl, hb⟩; refine ⟨_, rfl, ?_⟩; have n0_ := Aside0.mk (zbb BK276.out hb); have n1_ := Aside0.mk (zbb BK277.out hb); have n2_ := Aside0.mk (below_step (zw2 HB.out GE276.out GE277.out) hb); clear BK276 BK277 HB; have BK276 := n0_; have BK277 := n1_; have HB := n2_; clear n0_ n1_ n2_; (try clear hb); (try clear hb2); (try clear hk); (try clear hi); have hnb9 := NB277_276.out; have hnc9 := NB276_277.out; have hcz10_0 := zc BK277.out 0; have hcz10_1 := zc BK277.out 1; have hcz10_2 := zc BK277.out 2; have hcz10_3 := zc BK277.out 3; have hfz10_0 := blk_frozen BK277.out 0; have hfz10_1 := blk_frozen BK277.out 1; have hfz10_2 := blk_frozen BK277.out 2; have hfz10_3 := blk_frozen BK277.out 3))
  refine bodyPost_ret (results_ct rfl _ _ gb277 62 #[.bool false, .int .i64 0, .int .i64 0, .int .i64 0] (0, 0) _ rfl (by (with_reducible repeat (first | refine blk_drewN ?_ _ | refine blk_drew ?_ | refine blk_alloc ?_ _)); refine blk_put (cs := #[.bool false, .int .i64 0, .int .i64 0, .int .i64 0]) ?_ 3 _ rfl; (with_reducible repeat (first | refine blk_drewN ?_ _ | refine blk_drew ?_ | refine blk_alloc ?_ _)); refine blk_put (cs := #[.bool false, .int .i64 0, .int .i64 0, .int .i64 0]) ?_ 2 _ rfl; (with_reducible repeat (first | refine blk_drewN ?_ _ | refine blk_drew ?_ | refine blk_alloc ?_ _)); refine blk_put (cs := #[.bool false, .int .i64 0, .int .i64 0, .int .i64 0]) ?_ 1 _ rfl; (with_reducible repeat (first | refine blk_drewN ?_ _ | refine blk_drew ?_ | refine blk_alloc ?_ _)); refine blk_put (cs := #[.bool false, .int .i64 0, .int .i64 0, .int .i64 0]) ?_ 0 _ rfl; (with_reducible repeat (first | refine blk_drewN ?_ _ | refine blk_drew ?_ | refine blk_alloc ?_ _)); exact BK277.out) Try.underlying62 rfl (by kernel_rfl)) rfl ?_
  exact ⟨ze, zw2 HB.out GE276.out GE277.out⟩
 ·replace c5 := Bool.eq_false_iff.mpr c5
  subst c5
  have H1 : (if a1 = 7 then ((bytes_pointer.f k l2).bind fun bt279 => (some (bt279.1, bt279.2.1, bt279.2.2.1, bt279.2.2.2.1, bt279.2.2.2.2))) else ((bytes_state.f l2 2).bind fun t284 => (if t284 = true then (some (false, 0, 0, 0, 8)) else (bytes_Read.l0 k l2 0 (l2.length : Int) 0 a0_0 a0_1)))) = some (r1, r2, r3, r4, r5) := by rw [if_neg (show ¬ (false = true) by decide)] at H; exact H
  clear H
  have H := H1
  clear H1
  by_cases c11 : a1 = 7
  ·rw [if_pos c11] at H
   have c11b0 : (a1 == 7) = true := beq_iff_eq.mpr c11
   have c11b1 : (a1 != 7) = false := bne_eq_false_iff_eq.mpr c11
   clear c11
   replace H := Option.bind_eq_some_iff.mp H
   obtain ⟨⟨t279, t280, t281, t282, t283⟩, A120, H⟩ := H
   replace H : (some (t279, t280, t281, t282, t283)) = some (r1, r2, r3, r4, r5) := H
   have A12 := Aside0.mk A120
   clear A120
   simp only [Option.some.injEq, Prod.mk.injEq] at H
   obtain ⟨rfl, rfl, rfl, rfl, rfl⟩ := H
   go_enter Try.func106, Try.ntmps106
   go_wp2_with (first | ((with_reducible refine gate_dst (N := 3) rfl ?_); refine zbox (N := 3) (cs := #[.bool a0_0, .int .i64 a0_1]) (t := 29) ?_; intro gb276 hg w13 hbox hb; have n0_ := Aside0.mk (below_step (zw0 HB.out) hb); have BK276 := Aside0.mk (hbox); have GW276 := Aside0.mk (zg hg (below_size (zw0 HB.out))); have GE276 := GW276; clear HB; have HB := n0_; clear n0_; clear hb hbox hg) | ((with_reducible refine gate_dst (N := 6) rfl ?_); refine zbox (N := 6) (cs := #[.bool false, .int .i64 0, .int .i64 0, .int .i64 0]) (t := 62) ?_; intro gb277 hg w14 hbox hb; have n0_ := Aside0.mk (zbb BK276.out hb); have n1_ := Aside0.mk (below_step (zw1 HB.out GE276.out) hb); have BK277 := Aside0.mk (hbox); have GW277 := Aside0.mk (zg hg (below_size (zw1 HB.out GE276.out))); have GE277 := GW277; have NB276_277 := Aside0.mk (zlt hg BK276.out); have NB277_276 := Aside0.mk (zgt hg BK276.out); clear BK276 HB; have BK276 := n0_; have HB := n1_; clear n0_ n1_; clear hb hbox hg) | ((with_reducible refine gate_callee (f := 119) rfl ?_); refine zgo (some 13) Try.func119 #[.slice A2 l2.length c2, .int .i64 0] ?_; (with_reducible refine (bytes_state.calls _ _ l2 0 false _ ?side1 ?side2 A4.out).mono ?_); (case side1 => repeat (first | exact (Kd.C_below HR2.out HB.out) | (with_reducible refine Kd.C_alloc ?_ _) | (with_reducible refine Kd.C_drewN ?_ _) | (with_reducible refine Kd.C_drew ?_))); (case side2 => exact HC2.out); rintro e w15 ⟨rfl, hb⟩; refine ⟨_, rfl, ?_⟩; have n0_ := Aside0.mk (zbb BK276.out hb); have n1_ := Aside0.mk (zbb BK277.out hb); have n2_ := Aside0.mk (below_step (zw2 HB.out GE276.out GE277.out) hb); clear BK276 BK277 HB; have BK276 := n0_; have BK277 := n1_; have HB := n2_; clear n0_ n1_ n2_; (try clear hb); (try clear hb2); (try clear hk); (try clear hi)) | ((with_reducible refine gate_callee (f := 120) rfl ?_); refine zgo (some 19) Try.func120 #[.slice A2 l2.length c2] ?_; (with_reducible refine (bytes_pointer.calls k _ _ l2 t279 t280 t281 t282 t283 _ ?side1 ?side2 A12.out).mono ?_); (case side1 => repeat (first | exact (Kd.C_below HR2.out HB.out) | (with_reducible refine Kd.C_alloc ?_ _) | (with_reducible refine Kd.C_drewN ?_ _) | (with_reducible refine Kd.C_drew ?_))); (case side2 => exact HC2.out); rintro e w16 ⟨rfl, hb⟩; refine ⟨_, rfl, ?_⟩; have n0_ := Aside0.mk (zbb BK276.out hb); have n1_ := Aside0.mk (zbb BK277.out hb); have n2_ := Aside0.mk (below_step (zw2 HB.out GE276.out GE277.out) hb); clear BK276 BK277 HB; have BK276 := n0_; have BK277 := n1_; have HB := n2_; clear n0_ n1_ n2_; (try clear hb); (try clear hb2); (try clear hk); (try clear hi); have hnb17 := NB277_276.out; have hnc17 := NB276_277.out; have hcz18_0 := zc BK277.out 0; have hcz18_1 := zc BK277.out 1; have hcz18_2 := zc BK277.out 2; have hcz18_3 := zc BK277.out 3; have hfz18_0 := blk_frozen BK277.out 0; have hfz18_1 := blk_frozen BK277.out 1; have hfz18_2 := blk_frozen BK277.out 2; have hfz18_3 := blk_frozen BK277.out 3))
   refine bodyPost_ret (results_ct rfl _ _ gb277 62 #[.bool t279, .int .i64 t280, .int .i64 t281, .int .i64 t282] (0, 0) _ rfl (by (with_reducible repeat (first | refine blk_drewN ?_ _ | refine blk_drew ?_ | refine blk_alloc ?_ _)); refine blk_put (cs := #[.bool t279, .int .i64 t280, .int .i64 t281, .int .i64 0]) ?_ 3 _ rfl; (with_reducible repeat (first | refine blk_drewN ?_ _ | refine blk_drew ?_ | refine blk_alloc ?_ _)); refine blk_put (cs := #[.bool t279, .int .i64 t280, .int .i64 0, .int .i64 0]) ?_ 2 _ rfl; (with_reducible repeat (first | refine blk_drewN ?_ _ | refine blk_drew ?_ | refine blk_alloc ?_ _)); refine blk_put (cs := #[.bool t279, .int .i64 0, .int .i64 0, .int .i64 0]) ?_ 1 _ rfl; (with_reducible repeat (first | refine blk_drewN ?_ _ | refine blk_drew ?_ | refine blk_alloc ?_ _)); refine blk_put (cs := #[.bool false, .int .i64 0, .int .i64 0, .int .i64 0]) ?_ 0 _ rfl; (with_reducible repeat (first | refine blk_drewN ?_ _ | refine blk_drew ?_ | refine blk_alloc ?_ _)); exact BK277.out) Try.underlying62 rfl (by kernel_rfl)) rfl ?_
   exact ⟨ze, zw2 HB.out GE276.out GE277.out⟩
  ·rw [if_neg c11] at H
   have c11b0 : (a1 == 7) = false := beq_eq_false_iff_ne.mpr c11
   have c11b1 : (a1 != 7) = true := bne_iff_ne.mpr c11
   replace H := Option.bind_eq_some_iff.mp H
   obtain ⟨t284, A190, H⟩ := H
   replace H : (if t284 = true then (some (false, 0, 0, 0, 8)) else (bytes_Read.l0 k l2 0 (l2.length : Int) 0 a0_0 a0_1)) = some (r1, r2, r3, r4, r5) := H
   have A19 := Aside0.mk A190
   clear A190
   by_cases c20 : t284 = true
   ·subst c20
    have H1 : (some (false, 0, 0, 0, 8)) = some (r1, r2, r3, r4, r5) := by rw [if_pos rfl] at H; exact H
    clear H
    have H := H1
    clear H1
    simp only [Option.some.injEq, Prod.mk.injEq] at H
    obtain ⟨rfl, rfl, rfl, rfl, rfl⟩ := H
    go_enter Try.func106, Try.ntmps106
    go_wp2_with (first | ((with_reducible refine gate_dst (N := 3) rfl ?_); refine zbox (N := 3) (cs := #[.bool a0_0, .int .i64 a0_1]) (t := 29) ?_; intro gb276 hg w21 hbox hb; have n0_ := Aside0.mk (below_step (zw0 HB.out) hb); have BK276 := Aside0.mk (hbox); have GW276 := Aside0.mk (zg hg (below_size (zw0 HB.out))); have GE276 := GW276; clear HB; have HB := n0_; clear n0_; clear hb hbox hg) | ((with_reducible refine gate_dst (N := 6) rfl ?_); refine zbox (N := 6) (cs := #[.bool false, .int .i64 0, .int .i64 0, .int .i64 0]) (t := 62) ?_; intro gb277 hg w22 hbox hb; have n0_ := Aside0.mk (zbb BK276.out hb); have n1_ := Aside0.mk (below_step (zw1 HB.out GE276.out) hb); have BK277 := Aside0.mk (hbox); have GW277 := Aside0.mk (zg hg (below_size (zw1 HB.out GE276.out))); have GE277 := GW277; have NB276_277 := Aside0.mk (zlt hg BK276.out); have NB277_276 := Aside0.mk (zgt hg BK276.out); clear BK276 HB; have BK276 := n0_; have HB := n1_; clear n0_ n1_; clear hb hbox hg) | ((with_reducible refine gate_callee (f := 119) rfl ?_); refine zgo (some 13) Try.func119 #[.slice A2 l2.length c2, .int .i64 0] ?_; (with_reducible refine (bytes_state.calls _ _ l2 0 false _ ?side1 ?side2 A4.out).mono ?_); (case side1 => repeat (first | exact (Kd.C_below HR2.out HB.out) | (with_reducible refine Kd.C_alloc ?_ _) | (with_reducible refine Kd.C_drewN ?_ _) | (with_reducible refine Kd.C_drew ?_))); (case side2 => exact HC2.out); rintro e w23 ⟨rfl, hb⟩; refine ⟨_, rfl, ?_⟩; have n0_ := Aside0.mk (zbb BK276.out hb); have n1_ := Aside0.mk (zbb BK277.out hb); have n2_ := Aside0.mk (below_step (zw2 HB.out GE276.out GE277.out) hb); clear BK276 BK277 HB; have BK276 := n0_; have BK277 := n1_; have HB := n2_; clear n0_ n1_ n2_; (try clear hb); (try clear hb2); (try clear hk); (try clear hi)) | ((with_reducible refine gate_callee (f := 119) rfl ?_); refine zgo (some 24) Try.func119 #[.slice A2 l2.length c2, .int .i64 2] ?_; (with_reducible refine (bytes_state.calls _ _ l2 2 true _ ?side1 ?side2 A19.out).mono ?_); (case side1 => repeat (first | exact (Kd.C_below HR2.out HB.out) | (with_reducible refine Kd.C_alloc ?_ _) | (with_reducible refine Kd.C_drewN ?_ _) | (with_reducible refine Kd.C_drew ?_))); (case side2 => exact HC2.out); rintro e w24 ⟨rfl, hb⟩; refine ⟨_, rfl, ?_⟩; have n0_ := Aside0.mk (zbb BK276.out hb); have n1_ := Aside0.mk (zbb BK277.out hb); have n2_ := Aside0.mk (below_step (zw2 HB.out GE276.out GE277.out) hb); clear BK276 BK277 HB; have BK276 := n0_; have BK277 := n1_; have HB := n2_; clear n0_ n1_ n2_; (try clear hb); (try clear hb2); (try clear hk); (try clear hi); have hnb25 := NB277_276.out; have hnc25 := NB276_277.out; have hcz26_0 := zc BK277.out 0; have hcz26_1 := zc BK277.out 1; have hcz26_2 := zc BK277.out 2; have hcz26_3 := zc BK277.out 3; have hfz26_0 := blk_frozen BK277.out 0; have hfz26_1 := blk_frozen BK277.out 1; have hfz26_2 := blk_frozen BK277.out 2; have hfz26_3 := blk_frozen BK277.out 3))
    refine bodyPost_ret (results_ct rfl _ _ gb277 62 #[.bool false, .int .i64 0, .int .i64 0, .int .i64 0] (0, 0) _ rfl (by (with_reducible repeat (first | refine blk_drewN ?_ _ | refine blk_drew ?_ | refine blk_alloc ?_ _)); refine blk_put (cs := #[.bool false, .int .i64 0, .int .i64 0, .int .i64 0]) ?_ 3 _ rfl; (with_reducible repeat (first | refine blk_drewN ?_ _ | refine blk_drew ?_ | refine blk_alloc ?_ _)); refine blk_put (cs := #[.bool false, .int .i64 0, .int .i64 0, .int .i64 0]) ?_ 2 _ rfl; (with_reducible repeat (first | refine blk_drewN ?_ _ | refine blk_drew ?_ | refine blk_alloc ?_ _)); refine blk_put (cs := #[.bool false, .int .i64 0, .int .i64 0, .int .i64 0]) ?_ 1 _ rfl; (with_reducible repeat (first | refine blk_drewN ?_ _ | refine blk_drew ?_ | refine blk_alloc ?_ _)); refine blk_put (cs := #[.bool false, .int .i64 0, .int .i64 0, .int .i64 0]) ?_ 0 _ rfl; (with_reducible repeat (first | refine blk_drewN ?_ _ | refine blk_drew ?_ | refine blk_alloc ?_ _)); exact BK277.out) Try.underlying62 rfl (by kernel_rfl)) rfl ?_
    exact ⟨ze, zw2 HB.out GE276.out GE277.out⟩
   ·replace c20 := Bool.eq_false_iff.mpr c20
    subst c20
    have H1 : (bytes_Read.l0 k l2 0 (l2.length : Int) 0 a0_0 a0_1) = some (r1, r2, r3, r4, r5) := by rw [if_neg (show ¬ (false = true) by decide)] at H; exact H
    clear H
    have H := H1
    clear H1
    have H' := Aside0.mk H
    clear H
    go_enter Try.func106, Try.ntmps106
    go_wp2_with (first | ((with_reducible refine gate_dst (N := 3) rfl ?_); refine zbox (N := 3) (cs := #[.bool a0_0, .int .i64 a0_1]) (t := 29) ?_; intro gb276 hg w27 hbox hb; have n0_ := Aside0.mk (below_step (zw0 HB.out) hb); have BK276 := Aside0.mk (hbox); have GW276 := Aside0.mk (zg hg (below_size (zw0 HB.out))); have GE276 := GW276; clear HB; have HB := n0_; clear n0_; clear hb hbox hg) | ((with_reducible refine gate_dst (N := 6) rfl ?_); refine zbox (N := 6) (cs := #[.bool false, .int .i64 0, .int .i64 0, .int .i64 0]) (t := 62) ?_; intro gb277 hg w28 hbox hb; have n0_ := Aside0.mk (zbb BK276.out hb); have n1_ := Aside0.mk (below_step (zw1 HB.out GE276.out) hb); have BK277 := Aside0.mk (hbox); have GW277 := Aside0.mk (zg hg (below_size (zw1 HB.out GE276.out))); have GE277 := GW277; have NB276_277 := Aside0.mk (zlt hg BK276.out); have NB277_276 := Aside0.mk (zgt hg BK276.out); clear BK276 HB; have BK276 := n0_; have HB := n1_; clear n0_ n1_; clear hb hbox hg) | ((with_reducible refine gate_callee (f := 119) rfl ?_); refine zgo (some 13) Try.func119 #[.slice A2 l2.length c2, .int .i64 0] ?_; (with_reducible refine (bytes_state.calls _ _ l2 0 false _ ?side1 ?side2 A4.out).mono ?_); (case side1 => repeat (first | exact (Kd.C_below HR2.out HB.out) | (with_reducible refine Kd.C_alloc ?_ _) | (with_reducible refine Kd.C_drewN ?_ _) | (with_reducible refine Kd.C_drew ?_))); (case side2 => exact HC2.out); rintro e w29 ⟨rfl, hb⟩; refine ⟨_, rfl, ?_⟩; have n0_ := Aside0.mk (zbb BK276.out hb); have n1_ := Aside0.mk (zbb BK277.out hb); have n2_ := Aside0.mk (below_step (zw2 HB.out GE276.out GE277.out) hb); clear BK276 BK277 HB; have BK276 := n0_; have BK277 := n1_; have HB := n2_; clear n0_ n1_ n2_; (try clear hb); (try clear hb2); (try clear hk); (try clear hi)) | ((with_reducible refine gate_callee (f := 119) rfl ?_); refine zgo (some 24) Try.func119 #[.slice A2 l2.length c2, .int .i64 2] ?_; (with_reducible refine (bytes_state.calls _ _ l2 2 false _ ?side1 ?side2 A19.out).mono ?_); (case side1 => repeat (first | exact (Kd.C_below HR2.out HB.out) | (with_reducible refine Kd.C_alloc ?_ _) | (with_reducible refine Kd.C_drewN ?_ _) | (with_reducible refine Kd.C_drew ?_))); (case side2 => exact HC2.out); rintro e w30 ⟨rfl, hb⟩; refine ⟨_, rfl, ?_⟩; have n0_ := Aside0.mk (zbb BK276.out hb); have n1_ := Aside0.mk (zbb BK277.out hb); have n2_ := Aside0.mk (below_step (zw2 HB.out GE276.out GE277.out) hb); clear BK276 BK277 HB; have BK276 := n0_; have BK277 := n1_; have HB := n2_; clear n0_ n1_ n2_; (try clear hb); (try clear hb2); (try clear hk); (try clear hi)))
    go_loopg [8, 28] k (fun kq v8 v28 w' => ∃ (x8_1 : Int) (x28_1 : Int), v8 = .int .i64 x8_1 ∧ v28 = .int .i64 x28_1 ∧ Aside0 (bytes_Read.l0 kq l2 x8_1 (l2.length : Int) x28_1 a0_0 a0_1 = some (r1, r2, r3, r4, r5)) ∧ Aside0 (kq ≤ k) ∧ Aside0 (w'.heap[gb276]? = some (.cells #[.bool a0_0, .int .i64 a0_1] 29 (0, 0))) ∧ Aside0 (w'.heap[gb277]? = some (.cells #[.bool false, .int .i64 0, .int .i64 0, .int .i64 0] 62 (0, 0))) ∧ Aside0 (Below w.heap.size w w'))
    case atStart => exact ⟨(0), (0), (zr), (zr), H', ⟨Nat.le_refl _⟩, ⟨zb BK276.out⟩, ⟨zb BK277.out⟩, ⟨zw2 HB.out GE276.out GE277.out⟩⟩
    case round =>
     clear H'
     try clear c1; try clear c2; try clear p2; try clear c5; try clear c9; try clear c10; try clear c11; try clear c11b0; try clear c11b1; try clear c12; try clear c17; try clear c20; try clear c25
     obtain ⟨x8_1, x28_1, rfl, rfl, HA, HK1, BK276, BK277, HB⟩ := hrel
     cases gk with
     | zero => exact absurd HA.out (by simp [bytes_Read.l0])
     | succ k1 =>
      have H := HA.out
      clear HA
      simp only [bytes_Read.l0] at H
      by_cases c31 : x28_1 < (l2.length : Int)
      ·rw [if_pos c31] at H
       have c31b0 : decide (x28_1 < (l2.length : Int)) = true := decide_eq_true c31
       clear c31
       obtain ⟨ji32, hji32⟩ : ∃ j_ : Int, (wrap64 ((wrap64 ((l2.length : Int) - 1)) - x28_1)) = j_ := ⟨_, rfl⟩
       replace H : (if 0 ≤ (ji32) then (if (ji32) < (l2.length : Int) then (if a0_0 = true then (if 0 ≤ x28_1 then (if x28_1 < (l2.length : Int) then (bytes_Read.j1 k1 l2 x8_1 (l2.length : Int) x28_1 a0_0 a0_1 ((rd_T74 l2 x28_1).f0) ((rd_T74 l2 x28_1).f1) ((rd_T74 l2 x28_1).f2) ((rd_T74 l2 x28_1).f3) ((rd_T74 l2 x28_1).f4)) else (none)) else (none)) else (bytes_Read.j1 k1 l2 x8_1 (l2.length : Int) x28_1 a0_0 a0_1 ((rd_T74 l2 (ji32)).f0) ((rd_T74 l2 (ji32)).f1) ((rd_T74 l2 (ji32)).f2) ((rd_T74 l2 (ji32)).f3) ((rd_T74 l2 (ji32)).f4))) else (none)) else (none)) = some (r1, r2, r3, r4, r5) := by first | (rw [hji32] at H; exact H) | (simp only [hji32] at H ⊢; exact H)
       have hji32w : (IntKind.i64.wrap ((wrap64 ((l2.length : Int) - 1)) - x28_1)) = ji32 := (i64_w _).trans hji32
       by_cases c33 : 0 ≤ (ji32)
       rotate_left
       ·rw [if_neg c33] at H
        exact absurd H (by simp)
       rw [if_pos c33] at H
       have c33b0 : decide (0 ≤ (ji32)) = true := decide_eq_true c33
       clear c33
       by_cases c34 : (ji32) < (l2.length : Int)
       rotate_left
       ·rw [if_neg c34] at H
        exact absurd H (by simp)
       rw [if_pos c34] at H
       have c34b0 : decide ((ji32) < (l2.length : Int)) = true := decide_eq_true c34
       clear c34
       have HC35 := Aside0.mk H
       clear H
       have p285 : 0 ≤ ((ji32) : Int) := zdec
       have q285 : (ji32) < (l2.length : Int) := zdec
       obtain ⟨ad285, e285, hx285_0, hx285_1, hx285_2, hx285_3, hx285_4⟩ := at_T74 HR2.out (ji32) p285 q285
       cases e285
       replace hx285_0 := zh HB.out hx285_0
       replace hx285_1 := zh HB.out hx285_1
       replace hx285_2 := zh HB.out hx285_2
       replace hx285_3 := zh HB.out hx285_3
       replace hx285_4 := zh HB.out hx285_4
       replace p285 := eq_true p285
       replace q285 := eq_true q285
       go_upto_if 40 with (first | ((with_reducible refine gate_dst (N := 10) rfl ?_); refine zbox (N := 10) (cs := #[.int .i64 0, .int .i64 0, .int .i64 0, .int .i64 0, .int .i64 0]) (t := 74) ?_; intro gb286 hg w36 hbox hb; have n0_ := Aside0.mk (zbb BK276.out hb); have n1_ := Aside0.mk (zbb BK277.out hb); have n2_ := Aside0.mk (below_step (zw2 HB.out GE276.out GE277.out) hb); have BK286 := Aside0.mk (hbox); have GW286 := Aside0.mk (zg hg (below_size (zw2 HB.out GE276.out GE277.out))); have GE286 := GW286; have NB276_286 := Aside0.mk (zlt hg BK276.out); have NB286_276 := Aside0.mk (zgt hg BK276.out); have NB277_286 := Aside0.mk (zlt hg BK277.out); have NB286_277 := Aside0.mk (zgt hg BK277.out); clear BK276 BK277 HB; have BK276 := n0_; have BK277 := n1_; have HB := n2_; clear n0_ n1_ n2_; clear hb hbox hg; have hnb37 := NB286_276.out; have hnc37 := NB276_286.out; have hnb38 := NB286_277.out; have hnc38 := NB277_286.out; have hcz39_0 := zc BK286.out 0; have hcz39_1 := zc BK286.out 1; have hcz39_2 := zc BK286.out 2; have hcz39_3 := zc BK286.out 3; have hcz39_4 := zc BK286.out 4; have hfz39_0 := blk_frozen BK286.out 0; have hfz39_1 := blk_frozen BK286.out 1; have hfz39_2 := blk_frozen BK286.out 2; have hfz39_3 := blk_frozen BK286.out 3; have hfz39_4 := blk_frozen BK286.out 4; have hnb40 := NB276_277.out; have hnc40 := NB277_276.out; have hcz41_0 := zc BK276.out 0; have hcz41_1 := zc BK276.out 1; have hfz41_0 := blk_frozen BK276.out 0; have hfz41_1 := blk_frozen BK276.out 1))
       (try simp only [Act.put, List.setIfInBounds_toArray, List.set_cons_zero, List.set_cons_succ])
       go_cut [] (fun wc => ∃ (kq : Nat) (x287000_34 : Int) (x287001_34 : Int) (x287002_34 : Int) (x287003_34 : Int) (x287004_34 : Int), Aside0 (bytes_Read.j1 kq l2 x8_1 (l2.length : Int) x28_1 a0_0 a0_1 x287000_34 x287001_34 x287002_34 x287003_34 x287004_34 = some (r1, r2, r3, r4, r5)) ∧ Aside0 (kq ≤ k1) ∧ Aside0 (wc.heap[gb276]? = some (.cells #[.bool a0_0, .int .i64 a0_1] 29 (0, 0))) ∧ Aside0 (wc.heap[gb277]? = some (.cells #[.bool false, .int .i64 0, .int .i64 0, .int .i64 0] 62 (0, 0))) ∧ Aside0 (wc.heap[gb286]? = some (.cells #[.int .i64 x287000_34, .int .i64 x287001_34, .int .i64 x287002_34, .int .i64 x287003_34, .int .i64 x287004_34] 74 (0, 0))) ∧ Aside0 (Below w.heap.size w wc))
       case first =>
        have H := HC35.out
        clear HC35
        by_cases c42 : a0_0 = true
        rotate_left
        ·replace c42 := Bool.eq_false_iff.mpr c42
         subst c42
         have H1 : (bytes_Read.j1 k1 l2 x8_1 (l2.length : Int) x28_1 false a0_1 ((rd_T74 l2 (ji32)).f0) ((rd_T74 l2 (ji32)).f1) ((rd_T74 l2 (ji32)).f2) ((rd_T74 l2 (ji32)).f3) ((rd_T74 l2 (ji32)).f4)) = some (r1, r2, r3, r4, r5) := by rw [if_neg (show ¬ (false = true) by decide)] at H; exact H
         clear H
         have H := H1
         clear H1
         have H' := Aside0.mk H
         clear H
         go_wp2
         go_meet
         case rel => exact ⟨_, ((rd_T74 l2 (ji32)).f0), ((rd_T74 l2 (ji32)).f1), ((rd_T74 l2 (ji32)).f2), ((rd_T74 l2 (ji32)).f3), ((rd_T74 l2 (ji32)).f4), H', ⟨by have := HK1.out; first | omega | exact Nat.le_refl _⟩, ⟨zf1 BK276.out NB276_286.out⟩, ⟨zf1 BK277.out NB277_286.out⟩, ⟨by (with_reducible repeat (first | refine blk_drewN ?_ _ | refine blk_drew ?_ | refine blk_alloc ?_ _)); refine blk_put (cs := #[.int .i64 ((rd_T74 l2 (ji32)).f0), .int .i64 ((rd_T74 l2 (ji32)).f1), .int .i64 ((rd_T74 l2 (ji32)).f2), .int .i64 ((rd_T74 l2 (ji32)).f3), .int .i64 0]) ?_ 4 _ rfl; (with_reducible repeat (first | refine blk_drewN ?_ _ | refine blk_drew ?_ | refine blk_alloc ?_ _)); refine blk_put (cs := #[.int .i64 ((rd_T74 l2 (ji32)).f0), .int .i64 ((rd_T74 l2 (ji32)).f1), .int .i64 ((rd_T74 l2 (ji32)).f2), .int .i64 0, .int .i64 0]) ?_ 3 _ rfl; (with_reducible repeat (first | refine blk_drewN ?_ _ | refine blk_drew ?_ | refine blk_alloc ?_ _)); refine blk_put (cs := #[.int .i64 ((rd_T74 l2 (ji32)).f0), .int .i64 ((rd_T74 l2 (ji32)).f1), .int .i64 0, .int .i64 0, .int .i64 0]) ?_ 2 _ rfl; (with_reducible repeat (first | refine blk_drewN ?_ _ | refine blk_drew ?_ | refine blk_alloc ?_ _)); refine blk_put (cs := #[.int .i64 ((rd_T74 l2 (ji32)).f0), .int .i64 0, .int .i64 0, .int .i64 0, .int .i64 0]) ?_ 1 _ rfl; (with_reducible repeat (first | refine blk_drewN ?_ _ | refine blk_drew ?_ | refine blk_alloc ?_ _)); refine blk_put (cs := #[.int .i64 0, .int .i64 0, .int .i64 0, .int .i64 0, .int .i64 0]) ?_ 0 _ rfl; (with_reducible repeat (first | refine blk_drewN ?_ _ | refine blk_drew ?_ | refine blk_alloc ?_ _)); exact BK286.out⟩, ⟨zw3 HB.out GE276.out GE277.out GE286.out⟩⟩
        subst c42
        have H1 : (if 0 ≤ x28_1 then (if x28_1 < (l2.length : Int) then (bytes_Read.j1 k1 l2 x8_1 (l2.length : Int) x28_1 true a0_1 ((rd_T74 l2 x28_1).f0) ((rd_T74 l2 x28_1).f1) ((rd_T74 l2 x28_1).f2) ((rd_T74 l2 x28_1).f3) ((rd_T74 l2 x28_1).f4)) else (none)) else (none)) = some (r1, r2, r3, r4, r5) := by rw [if_pos rfl] at H; exact H
        clear H
        have H := H1
        clear H1
        by_cases c43 : 0 ≤ x28_1
        rotate_left
        ·rw [if_neg c43] at H
         exact absurd H (by simp)
        rw [if_pos c43] at H
        have c43b0 : decide (0 ≤ x28_1) = true := decide_eq_true c43
        clear c43
        (first | rw [c43b0] | (simp only [i64_w, i32_w]; rw [c43b0]) | skip)
        by_cases c44 : x28_1 < (l2.length : Int)
        rotate_left
        ·rw [if_neg c44] at H
         exact absurd H (by simp)
        rw [if_pos c44] at H
        have c44b0 : decide (x28_1 < (l2.length : Int)) = true := decide_eq_true c44
        clear c44
        have H' := Aside0.mk H
        clear H
        have p287 : 0 ≤ (x28_1 : Int) := zdec
        have q287 : x28_1 < (l2.length : Int) := zdec
        obtain ⟨ad287, e287, hx287_0, hx287_1, hx287_2, hx287_3, hx287_4⟩ := at_T74 HR2.out x28_1 p287 q287
        obtain rfl : ad285 = ad287 := (by injection e287)
        have hn287_0 : ad285.block ≠ gb286 := zx (zfar hx287_0 GW286.out)
        have hn287_1 : ad285.block ≠ gb286 := zx (zfar hx287_0 GW286.out)
        have hn287_2 : ad285.block ≠ gb286 := zx (zfar hx287_0 GW286.out)
        have hn287_3 : ad285.block ≠ gb286 := zx (zfar hx287_0 GW286.out)
        have hn287_4 : ad285.block ≠ gb286 := zx (zfar hx287_0 GW286.out)
        replace hx287_0 := zh HB.out hx287_0
        replace hx287_1 := zh HB.out hx287_1
        replace hx287_2 := zh HB.out hx287_2
        replace hx287_3 := zh HB.out hx287_3
        replace hx287_4 := zh HB.out hx287_4
        replace hx287_0 := (cell_far (p := ⟨gb286, 0, none⟩) (zy hn287_0) (.int .i64 ((rd_T74 l2 (ji32)).f0))).trans hx287_0
        replace hx287_1 := (cell_far (p := ⟨gb286, 0, none⟩) (zy hn287_0) (.int .i64 ((rd_T74 l2 (ji32)).f0))).trans hx287_1
        replace hx287_2 := (cell_far (p := ⟨gb286, 0, none⟩) (zy hn287_0) (.int .i64 ((rd_T74 l2 (ji32)).f0))).trans hx287_2
        replace hx287_3 := (cell_far (p := ⟨gb286, 0, none⟩) (zy hn287_0) (.int .i64 ((rd_T74 l2 (ji32)).f0))).trans hx287_3
        replace hx287_4 := (cell_far (p := ⟨gb286, 0, none⟩) (zy hn287_0) (.int .i64 ((rd_T74 l2 (ji32)).f0))).trans hx287_4
        replace hx287_0 := (cell_far (p := ⟨gb286, 1, none⟩) (zy hn287_1) (.int .i64 ((rd_T74 l2 (ji32)).f1))).trans hx287_0
        replace hx287_1 := (cell_far (p := ⟨gb286, 1, none⟩) (zy hn287_1) (.int .i64 ((rd_T74 l2 (ji32)).f1))).trans hx287_1
        replace hx287_2 := (cell_far (p := ⟨gb286, 1, none⟩) (zy hn287_1) (.int .i64 ((rd_T74 l2 (ji32)).f1))).trans hx287_2
        replace hx287_3 := (cell_far (p := ⟨gb286, 1, none⟩) (zy hn287_1) (.int .i64 ((rd_T74 l2 (ji32)).f1))).trans hx287_3
        replace hx287_4 := (cell_far (p := ⟨gb286, 1, none⟩) (zy hn287_1) (.int .i64 ((rd_T74 l2 (ji32)).f1))).trans hx287_4
        replace hx287_0 := (cell_far (p := ⟨gb286, 2, none⟩) (zy hn287_2) (.int .i64 ((rd_T74 l2 (ji32)).f2))).trans hx287_0
        replace hx287_1 := (cell_far (p := ⟨gb286, 2, none⟩) (zy hn287_2) (.int .i64 ((rd_T74 l2 (ji32)).f2))).trans hx287_1
        replace hx287_2 := (cell_far (p := ⟨gb286, 2, none⟩) (zy hn287_2) (.int .i64 ((rd_T74 l2 (ji32)).f2))).trans hx287_2
        replace hx287_3 := (cell_far (p := ⟨gb286, 2, none⟩) (zy hn287_2) (.int .i64 ((rd_T74 l2 (ji32)).f2))).trans hx287_3
        replace hx287_4 := (cell_far (p := ⟨gb286, 2, none⟩) (zy hn287_2) (.int .i64 ((rd_T74 l2 (ji32)).f2))).trans hx287_4
        replace hx287_0 := (cell_far (p := ⟨gb286, 3, none⟩) (zy hn287_3) (.int .i64 ((rd_T74 l2 (ji32)).f3))).trans hx287_0
        replace hx287_1 := (cell_far (p := ⟨gb286, 3, none⟩) (zy hn287_3) (.int .i64 ((rd_T74 l2 (ji32)).f3))).trans hx287_1
        replace hx287_2 := (cell_far (p := ⟨gb286, 3, none⟩) (zy hn287_3) (.int .i64 ((rd_T74 l2 (ji32)).f3))).trans hx287_2
        replace hx287_3 := (cell_far (p := ⟨gb286, 3, none⟩) (zy hn287_3) (.int .i64 ((rd_T74 l2 (ji32)).f3))).trans hx287_3
        replace hx287_4 := (cell_far (p := ⟨gb286, 3, none⟩) (zy hn287_3) (.int .i64 ((rd_T74 l2 (ji32)).f3))).trans hx287_4
        replace hx287_0 := (cell_far (p := ⟨gb286, 4, none⟩) (zy hn287_4) (.int .i64 ((rd_T74 l2 (ji32)).f4))).trans hx287_0
        replace hx287_1 := (cell_far (p := ⟨gb286, 4, none⟩) (zy hn287_4) (.int .i64 ((rd_T74 l2 (ji32)).f4))).trans hx287_1
        replace hx287_2 := (cell_far (p := ⟨gb286, 4, none⟩) (zy hn287_4) (.int .i64 ((rd_T74 l2 (ji32)).f4))).trans hx287_2
        replace hx287_3 := (cell_far (p := ⟨gb286, 4, none⟩) (zy hn287_4) (.int .i64 ((rd_T74 l2 (ji32)).f4))).trans hx287_3
        replace hx287_4 := (cell_far (p := ⟨gb286, 4, none⟩) (zy hn287_4) (.int .i64 ((rd_T74 l2 (ji32)).f4))).trans hx287_4
        clear hn287_0
        clear hn287_1
        clear hn287_2
        clear hn287_3
        clear hn287_4
        replace p287 := eq_true p287
        replace q287 := eq_true q287
        have hnb45 := NB286_276.out
        have hnc45 := NB276_286.out
        have hnb46 := NB286_277.out
        have hnc46 := NB277_286.out
        have hcz47_0 := zc BK286.out 0
        have hcz47_1 := zc BK286.out 1
        have hcz47_2 := zc BK286.out 2
        have hcz47_3 := zc BK286.out 3
        have hcz47_4 := zc BK286.out 4
        have hfz47_0 := blk_frozen BK286.out 0
        have hfz47_1 := blk_frozen BK286.out 1
        have hfz47_2 := blk_frozen BK286.out 2
        have hfz47_3 := blk_frozen BK286.out 3
        have hfz47_4 := blk_frozen BK286.out 4
        go_wp2
        go_meet
        case rel => exact ⟨_, ((rd_T74 l2 x28_1).f0), ((rd_T74 l2 x28_1).f1), ((rd_T74 l2 x28_1).f2), ((rd_T74 l2 x28_1).f3), ((rd_T74 l2 x28_1).f4), H', ⟨by have := HK1.out; first | omega | exact Nat.le_refl _⟩, ⟨zf1 BK276.out NB276_286.out⟩, ⟨zf1 BK277.out NB277_286.out⟩, ⟨by (with_reducible repeat (first | refine blk_drewN ?_ _ | refine blk_drew ?_ | refine blk_alloc ?_ _)); refine blk_put (cs := #[.int .i64 ((rd_T74 l2 x28_1).f0), .int .i64 ((rd_T74 l2 x28_1).f1), .int .i64 ((rd_T74 l2 x28_1).f2), .int .i64 ((rd_T74 l2 x28_1).f3), .int .i64 ((rd_T74 l2 (ji32)).f4)]) ?_ 4 _ rfl; (with_reducible repeat (first | refine blk_drewN ?_ _ | refine blk_drew ?_ | refine blk_alloc ?_ _)); refine blk_put (cs := #[.int .i64 ((rd_T74 l2 x28_1).f0), .int .i64 ((rd_T74 l2 x28_1).f1), .int .i64 ((rd_T74 l2 x28_1).f2), .int .i64 ((rd_T74 l2 (ji32)).f3), .int .i64 ((rd_T74 l2 (ji32)).f4)]) ?_ 3 _ rfl; (with_reducible repeat (first | refine blk_drewN ?_ _ | refine blk_drew ?_ | refine blk_alloc ?_ _)); refine blk_put (cs := #[.int .i64 ((rd_T74 l2 x28_1).f0), .int .i64 ((rd_T74 l2 x28_1).f1), .int .i64 ((rd_T74 l2 (ji32)).f2), .int .i64 ((rd_T74 l2 (ji32)).f3), .int .i64 ((rd_T74 l2 (ji32)).f4)]) ?_ 2 _ rfl; (with_reducible repeat (first | refine blk_drewN ?_ _ | refine blk_drew ?_ | refine blk_alloc ?_ _)); refine blk_put (cs := #[.int .i64 ((rd_T74 l2 x28_1).f0), .int .i64 ((rd_T74 l2 (ji32)).f1), .int .i64 ((rd_T74 l2 (ji32)).f2), .int .i64 ((rd_T74 l2 (ji32)).f3), .int .i64 ((rd_T74 l2 (ji32)).f4)]) ?_ 1 _ rfl; (with_reducible repeat (first | refine blk_drewN ?_ _ | refine blk_drew ?_ | refine blk_alloc ?_ _)); refine blk_put (cs := #[.int .i64 ((rd_T74 l2 (ji32)).f0), .int .i64 ((rd_T74 l2 (ji32)).f1), .int .i64 ((rd_T74 l2 (ji32)).f2), .int .i64 ((rd_T74 l2 (ji32)).f3), .int .i64 ((rd_T74 l2 (ji32)).f4)]) ?_ 0 _ rfl; (with_reducible repeat (first | refine blk_drewN ?_ _ | refine blk_drew ?_ | refine blk_alloc ?_ _)); refine blk_put (cs := #[.int .i64 ((rd_T74 l2 (ji32)).f0), .int .i64 ((rd_T74 l2 (ji32)).f1), .int .i64 ((rd_T74 l2 (ji32)).f2), .int .i64 ((rd_T74 l2 (ji32)).f3), .int .i64 0]) ?_ 4 _ rfl; (with_reducible repeat (first | refine blk_drewN ?_ _ | refine blk_drew ?_ | refine blk_alloc ?_ _)); refine blk_put (cs := #[.int .i64 ((rd_T74 l2 (ji32)).f0), .int .i64 ((rd_T74 l2 (ji32)).f1), .int .i64 ((rd_T74 l2 (ji32)).f2), .int .i64 0, .int .i64 0]) ?_ 3 _ rfl; (with_reducible repeat (first | refine blk_drewN ?_ _ | refine blk_drew ?_ | refine blk_alloc ?_ _)); refine blk_put (cs := #[.int .i64 ((rd_T74 l2 (ji32)).f0), .int .i64 ((rd_T74 l2 (ji32)).f1), .int .i64 0, .int .i64 0, .int .i64 0]) ?_ 2 _ rfl; (with_reducible repeat (first | refine blk_drewN ?_ _ | refine blk_drew ?_ | refine blk_alloc ?_ _)); refine blk_put (cs := #[.int .i64 ((rd_T74 l2 (ji32)).f0), .int .i64 0, .int .i64 0, .int .i64 0, .int .i64 0]) ?_ 1 _ rfl; (with_reducible repeat (first | refine blk_drewN ?_ _ | refine blk_drew ?_ | refine blk_alloc ?_ _)); refine blk_put (cs := #[.int .i64 0, .int .i64 0, .int .i64 0, .int .i64 0, .int .i64 0]) ?_ 0 _ rfl; (with_reducible repeat (first | refine blk_drewN ?_ _ | refine blk_drew ?_ | refine blk_alloc ?_ _)); exact BK286.out⟩, ⟨zw3 HB.out GE276.out GE277.out GE286.out⟩⟩
       case rest =>
        clear HC35
        try clear c1; try clear c2; try clear p2; try clear q2; try clear c3; try clear c4; try clear c5; try clear p6; try clear c9; try clear c10; try clear c11; try clear c11b0; try clear c11b1; try clear c12; try clear c17; try clear c20; try clear c25; try clear p28; try clear q28; try clear c31; try clear c31b0; try clear c33; try clear c33b0; try clear c34; try clear c34b0; try clear c37; try clear c38; try clear c40; try clear c42; try clear c43; try clear c43b0; try clear c44; try clear c44b0; try clear c45; try clear c46; try clear p2; try clear p285; try clear p287; try clear q285; try clear q287
        obtain ⟨kq, x287000_34, x287001_34, x287002_34, x287003_34, x287004_34, HA, HJ34, BK276, BK277, BK286, HB⟩ := hcut
        cases kq with
        | zero => exact absurd HA.out (by simp [bytes_Read.j1])
        | succ kj34 =>
         have H := HA.out
         clear HA
         simp only [bytes_Read.j1] at H
         have H' := Aside0.mk H
         clear H
         have hnb48 := NB286_276.out
         have hnc48 := NB276_286.out
         have hnb49 := NB286_277.out
         have hnc49 := NB277_286.out
         have hcz50_0 := zc BK286.out 0
         have hcz50_1 := zc BK286.out 1
         have hcz50_2 := zc BK286.out 2
         have hcz50_3 := zc BK286.out 3
         have hcz50_4 := zc BK286.out 4
         have hfz50_0 := blk_frozen BK286.out 0
         have hfz50_1 := blk_frozen BK286.out 1
         have hfz50_2 := blk_frozen BK286.out 2
         have hfz50_3 := blk_frozen BK286.out 3
         have hfz50_4 := blk_frozen BK286.out 4
         go_wp2
         go_roundg kj34
         case measure => have := HK1.out; have := HJ34.out; omega
         case rel => exact ⟨(Go.bits .or .i64 (wrap64 (x8_1 * 256)) x287001_34), (wrap64 (x28_1 + 1)), (zr), (zr), H', ⟨by have := HK1.out; have := HJ34.out; omega⟩, ⟨zb BK276.out⟩, ⟨zb BK277.out⟩, ⟨zw3 HB.out GE276.out GE277.out GE286.out⟩⟩
      ·rw [if_neg c31] at H
       have c31b0 : decide (x28_1 < (l2.length : Int)) = false := decide_eq_false c31
       clear c31
       simp only [Option.some.injEq, Prod.mk.injEq] at H
       obtain ⟨rfl, rfl, rfl, rfl, rfl⟩ := H
       have hnb51 := NB277_276.out
       have hnc51 := NB276_277.out
       have hcz52_0 := zc BK277.out 0
       have hcz52_1 := zc BK277.out 1
       have hcz52_2 := zc BK277.out 2
       have hcz52_3 := zc BK277.out 3
       have hfz52_0 := blk_frozen BK277.out 0
       have hfz52_1 := blk_frozen BK277.out 1
       have hfz52_2 := blk_frozen BK277.out 2
       have hfz52_3 := blk_frozen BK277.out 3
       go_wp2
       refine bodyPost_ret (results_ct rfl _ _ gb277 62 #[.bool false, .int .i64 x8_1, .int .i64 0, .int .i64 0] (0, 0) _ rfl (by (with_reducible repeat (first | refine blk_drewN ?_ _ | refine blk_drew ?_ | refine blk_alloc ?_ _)); refine blk_put (cs := #[.bool false, .int .i64 x8_1, .int .i64 0, .int .i64 0]) ?_ 3 _ rfl; (with_reducible repeat (first | refine blk_drewN ?_ _ | refine blk_drew ?_ | refine blk_alloc ?_ _)); refine blk_put (cs := #[.bool false, .int .i64 x8_1, .int .i64 0, .int .i64 0]) ?_ 2 _ rfl; (with_reducible repeat (first | refine blk_drewN ?_ _ | refine blk_drew ?_ | refine blk_alloc ?_ _)); refine blk_put (cs := #[.bool false, .int .i64 0, .int .i64 0, .int .i64 0]) ?_ 1 _ rfl; (with_reducible repeat (first | refine blk_drewN ?_ _ | refine blk_drew ?_ | refine blk_alloc ?_ _)); refine blk_put (cs := #[.bool false, .int .i64 0, .int .i64 0, .int .i64 0]) ?_ 0 _ rfl; (with_reducible repeat (first | refine blk_drewN ?_ _ | refine blk_drew ?_ | refine blk_alloc ?_ _)); exact BK277.out) Try.underlying62 rfl (by kernel_rfl)) rfl ?_
       exact ⟨ze, zw2 HB.out GE276.out GE277.out⟩

/-! mem_Take -/
def mem_Take.f (k : Nat) (a0_0 : Bool) (a0_1 : Int) (l1 : List (S76)) (a2_0 : Bool) (a2_1 : Int) (a2_2 : Int) (a2_3 : Int) (a3 : Int) : Option (Bool × Int × Int × Int × Int) := (mem_Way.f a0_0 a0_1 l1 a2_0 a2_1 a2_2 a2_3 a3).bind fun t291 => (if t291 = 0 then (if 0 ≤ a2_2 then (if a2_2 < (l1.length : Int) then ((word_Bytes.f a0_0 a0_1 a3).bind fun t293 => (if 0 ≤ a2_3 then (if a2_3 ≤ (wrap64 (a2_3 + t293)) then (if (wrap64 (a2_3 + t293)) ≤ (((rd_T76 l1 a2_2).f1).length : Int) then ((bytes_Read.f k a0_0 a0_1 a3 ((((rd_T76 l1 a2_2).f1).take ((wrap64 (a2_3 + t293)) : Int).toNat).drop (a2_3 : Int).toNat)).bind fun bt298 => (some (bt298.1, bt298.2.1, bt298.2.2.1, bt298.2.2.2.1, bt298.2.2.2.2))) else (none)) else (none)) else (none))) else (none)) else (none)) else (some (false, 0, 0, 0, t291)))
theorem mem_Take.mono : ∀ a0 a1 a2 a3 a4 a5 a6 a7 k, LeO (mem_Take.f k a0 a1 a2 a3 a4 a5 a6 a7) (mem_Take.f (k + 1) a0 a1 a2 a3 a4 a5 a6 a7) := by
 intro a0 a1 a2 a3 a4 a5 a6 a7 k
 unfold mem_Take.f
 repeat' first
   | (with_reducible apply bytes_Read.mono)
   | (with_reducible apply LeO.refl)
   | (with_reducible apply LeO.none)
   | (with_reducible refine LeO.ite ?_ ?_)
   | (with_reducible refine LeO.bind ?_ (fun _ => ?_))
def mem_Take.T4 : Bool × List (List Nat × List Nat) := (true, [([], []), ([], []), ([], []), ([], []), ([3], [3]), ([2, 4], [2, 4]), ([5], [5]), ([6], [6]), ([], []), ([8], [8]), ([], []), ([10], [10]), ([], []), ([], []), ([12, 13], [12, 13]), ([11, 14], [11, 14]), ([7, 9, 15], [7, 9, 15]), ([0, 1, 16, 14], [0, 1, 16]), ([17], [17]), ([17], [17]), ([18, 17, 0, 1, 2, 3, 4, 5, 6, 7, 8, 9, 10, 11, 12, 13, 14, 15, 16, 17, 18, 19], [18]), ([19, 20, 0, 1, 2, 3, 4, 5, 6, 7, 8, 9, 10, 11, 12, 13, 14, 15, 16, 17, 18, 19, 20], [19])])
def mem_Take.B4 : List Nat := [0, 0, 0, 0, 8, 28, 60, 124, 0, 256, 0, 1024, 0, 0, 12288, 31744, 65532, 131071, 262143, 262143, 1048575, 2097151]
theorem mem_Take.tab4 : rtab .any (opsOf Try.f75 4) = mem_Take.T4 := by kernel_rfl
theorem mem_Take.bits4 : waitsOk mem_Take.T4.2 mem_Take.B4 = true := by kernel_rfl
set_option maxHeartbeats 8000000 in
set_option maxRecDepth 100000 in
theorem mem_Take.calls (k : Nat) (a0_0 : Bool) (a0_1 : Int) (A1 : Option Addr) (c1 : Nat) (l1 : List (S76)) (a2_0 : Bool) (a2_1 : Int) (a2_2 : Int) (a2_3 : Int) (a3 : Int) (r1 : Bool) (r2 : Int) (r3 : Int) (r4 : Int) (r5 : Int) (w : World) (hr1 : Kd.C k76 w A1 l1.length l1) (hc1 : l1.length ≤ c1) (h : mem_Take.f k a0_0 a0_1 l1 a2_0 a2_1 a2_2 a2_3 a3 = some (r1, r2, r3, r4, r5)) :
  Calls Try.prog 75 #[.agg #[.bool a0_0, .int .i64 a0_1], .slice A1 l1.length c1, .agg #[.bool a2_0, .int .i64 a2_1, .int .i64 a2_2, .int .i64 a2_3], .int .i64 a3] w fun e w' => e = .returned (.tuple #[.agg #[.bool r1, .int .i64 r2, .int .i64 r3, .int .i64 r4], .int .i64 r5]) ∧ Below w.heap.size w w' := by
 have hu29 := Try.underlying29
 have hu62 := Try.underlying62
 have HR1 := Aside0.mk hr1
 have HC1 := Aside0.mk hc1
 clear hr1 hc1
 have HB := Aside0.mk (Below.refl w.heap.size w)
 have H : ((mem_Way.f a0_0 a0_1 l1 a2_0 a2_1 a2_2 a2_3 a3).bind fun t291 => (if t291 = 0 then (if 0 ≤ a2_2 then (if a2_2 < (l1.length : Int) then ((word_Bytes.f a0_0 a0_1 a3).bind fun t293 => (if 0 ≤ a2_3 then (if a2_3 ≤ (wrap64 (a2_3 + t293)) then (if (wrap64 (a2_3 + t293)) ≤ (((rd_T76 l1 a2_2).f1).length : Int) then ((bytes_Read.f k a0_0 a0_1 a3 ((((rd_T76 l1 a2_2).f1).take ((wrap64 (a2_3 + t293)) : Int).toNat).drop (a2_3 : Int).toNat)).bind fun bt298 => (some (bt298.1, bt298.2.1, bt298.2.2.1, bt298.2.2.2.1, bt298.2.2.2.2))) else (none)) else (none)) else (none))) else (none)) else (none)) else (some (false, 0, 0, 0, t291)))) = some (r1, r2, r3, r4, r5) := h
 clear h
 replace H := Option.bind_eq_some_iff.mp H
 obtain ⟨t291, A50, H⟩ := H
 replace H : (if t291 = 0 then (if 0 ≤ a2_2 then (if a2_2 < (l1.length : Int) then ((word_Bytes.f a0_0 a0_1 a3).bind fun t293 => (if 0 ≤ a2_3 then (if a2_3 ≤ (wrap64 (a2_3 + t293)) then (if (wrap64 (a2_3 + t293)) ≤ (((rd_T76 l1 a2_2).f1).length : Int) then ((bytes_Read.f k a0_0 a0_1 a3 ((((rd_T76 l1 a2_2).f1).take ((wrap64 (a2_3 + t293)) : Int).toNat).drop (a2_3 : Int).toNat)).bind fun bt298 => (some (bt298.1, bt298.2.1, bt298.2.2.1, bt298.2.2.2.1, bt298.2.2.2.2))) else (none)) else (none)) else (none))) else (none)) else (none)) else (some (false, 0, 0, 0, t291))) = some (r1, r2, r3, r4, r5) := H
 have A5 := Aside0.mk A50
 clear A50
 by_cases c6 : t291 = 0
 ·rw [if_pos c6] at H
  have c6b0 : (t291 == 0) = true := beq_iff_eq.mpr c6
  have c6b1 : (t291 != 0) = false := bne_eq_false_iff_eq.mpr c6
  clear c6
  by_cases c7 : 0 ≤ a2_2
  rotate_left
  ·rw [if_neg c7] at H
   exact absurd H (by simp)
  rw [if_pos c7] at H
  have c7b0 : decide (0 ≤ a2_2) = true := decide_eq_true c7
  clear c7
  by_cases c8 : a2_2 < (l1.length : Int)
  rotate_left
  ·rw [if_neg c8] at H
   exact absurd H (by simp)
  rw [if_pos c8] at H
  have c8b0 : decide (a2_2 < (l1.length : Int)) = true := decide_eq_true c8
  clear c8
  replace H := Option.bind_eq_some_iff.mp H
  obtain ⟨t293, A90, H⟩ := H
  replace H : (if 0 ≤ a2_3 then (if a2_3 ≤ (wrap64 (a2_3 + t293)) then (if (wrap64 (a2_3 + t293)) ≤ (((rd_T76 l1 a2_2).f1).length : Int) then ((bytes_Read.f k a0_0 a0_1 a3 ((((rd_T76 l1 a2_2).f1).take ((wrap64 (a2_3 + t293)) : Int).toNat).drop (a2_3 : Int).toNat)).bind fun bt298 => (some (bt298.1, bt298.2.1, bt298.2.2.1, bt298.2.2.2.1, bt298.2.2.2.2))) else (none)) else (none)) else (none)) = some (r1, r2, r3, r4, r5) := H
  have A9 := Aside0.mk A90
  clear A90
  by_cases c10 : 0 ≤ a2_3
  rotate_left
  ·rw [if_neg c10] at H
   exact absurd H (by simp)
  rw [if_pos c10] at H
  have c10b0 := eq_true c10
  have c10b1 : decide (0 ≤ a2_3) = true := decide_eq_true c10
  clear c10
  by_cases c11 : a2_3 ≤ (wrap64 (a2_3 + t293))
  rotate_left
  ·rw [if_neg c11] at H
   exact absurd H (by simp)
  rw [if_pos c11] at H
  have c11b0 := eq_true c11
  have c11b1 : decide (a2_3 ≤ (wrap64 (a2_3 + t293))) = true := decide_eq_true c11
  by_cases c12 : (wrap64 (a2_3 + t293)) ≤ (((rd_T76 l1 a2_2).f1).length : Int)
  rotate_left
  ·rw [if_neg c12] at H
   exact absurd H (by simp)
  rw [if_pos c12] at H
  have c12b0 := eq_true c12
  have c12b1 : decide ((wrap64 (a2_3 + t293)) ≤ (((rd_T76 l1 a2_2).f1).length : Int)) = true := decide_eq_true c12
  obtain ⟨y294, hy294⟩ : ∃ y_ : List (S74), y_ = ((((rd_T76 l1 a2_2).f1).take ((wrap64 (a2_3 + t293)) : Int).toNat).drop (a2_3 : Int).toNat) := ⟨_, rfl⟩
  replace H : ((bytes_Read.f k a0_0 a0_1 a3 y294).bind fun bt298 => (some (bt298.1, bt298.2.1, bt298.2.2.1, bt298.2.2.2.1, bt298.2.2.2.2))) = some (r1, r2, r3, r4, r5) := by first | (rw [hy294]; with_reducible exact H) | (have H2_ := (Option.bind_some _ _).symm.trans H; rw [hy294]; with_reducible exact H2_) | (have H2_ := (Option.bind_some _ _).symm.trans H; with_reducible exact H2_) | with_reducible exact H | (rw [hy294]; exact H) | exact H
  have Ny294 := Aside0.mk hy294
  clear hy294
  replace H := Option.bind_eq_some_iff.mp H
  obtain ⟨⟨t298, t299, t300, t301, t302⟩, A130, H⟩ := H
  replace H : (some (t298, t299, t300, t301, t302)) = some (r1, r2, r3, r4, r5) := H
  have A13 := Aside0.mk A130
  clear A130
  simp only [Option.some.injEq, Prod.mk.injEq] at H
  obtain ⟨rfl, rfl, rfl, rfl, rfl⟩ := H
  go_enter Try.func75, Try.ntmps75
  try go_wp2_with (first | ((with_reducible refine gate_dst (N := 4) rfl ?_); refine zbox (N := 4) (cs := #[.bool a0_0, .int .i64 a0_1]) (t := 29) ?_; intro gb288 hg w14 hbox hb; have n0_ := Aside0.mk (below_step (zw0 HB.out) hb); have BK288 := Aside0.mk (hbox); have GW288 := Aside0.mk (zg hg (below_size (zw0 HB.out))); have GE288 := GW288; clear HB; have HB := n0_; clear n0_; clear hb hbox hg) | ((with_reducible refine gate_dst (N := 6) rfl ?_); refine zbox (N := 6) (cs := #[.bool a2_0, .int .i64 a2_1, .int .i64 a2_2, .int .i64 a2_3]) (t := 62) ?_; intro gb289 hg w15 hbox hb; have n0_ := Aside0.mk (zbb BK288.out hb); have n1_ := Aside0.mk (below_step (zw1 HB.out GE288.out) hb); have BK289 := Aside0.mk (hbox); have GW289 := Aside0.mk (zg hg (below_size (zw1 HB.out GE288.out))); have GE289 := GW289; have NB288_289 := Aside0.mk (zlt hg BK288.out); have NB289_288 := Aside0.mk (zgt hg BK288.out); clear BK288 HB; have BK288 := n0_; have HB := n1_; clear n0_ n1_; clear hb hbox hg) | ((with_reducible refine gate_dst (N := 8) rfl ?_); refine zbox (N := 8) (cs := #[.bool false, .int .i64 0, .int .i64 0, .int .i64 0]) (t := 62) ?_; intro gb290 hg w16 hbox hb; have n0_ := Aside0.mk (zbb BK288.out hb); have n1_ := Aside0.mk (zbb BK289.out hb); have n2_ := Aside0.mk (below_step (zw2 HB.out GE288.out GE289.out) hb); have BK290 := Aside0.mk (hbox); have GW290 := Aside0.mk (zg hg (below_size (zw2 HB.out GE288.out GE289.out))); have GE290 := GW290; have NB288_290 := Aside0.mk (zlt hg BK288.out); have NB290_288 := Aside0.mk (zgt hg BK288.out); have NB289_290 := Aside0.mk (zlt hg BK289.out); have NB290_289 := Aside0.mk (zgt hg BK289.out); clear BK288 BK289 HB; have BK288 := n0_; have BK289 := n1_; have HB := n2_; clear n0_ n1_ n2_; clear hb hbox hg; have hnb17 := NB288_289.out; have hnc17 := NB289_288.out; have hnb18 := NB288_290.out; have hnc18 := NB290_288.out; have hcz19_0 := zc BK288.out 0; have hcz19_1 := zc BK288.out 1; have hfz19_0 := blk_frozen BK288.out 0; have hfz19_1 := blk_frozen BK288.out 1; have hnb20 := NB289_290.out; have hnc20 := NB290_289.out; have hcz21_0 := zc BK289.out 0; have hcz21_1 := zc BK289.out 1; have hcz21_2 := zc BK289.out 2; have hcz21_3 := zc BK289.out 3; have hfz21_0 := blk_frozen BK289.out 0; have hfz21_1 := blk_frozen BK289.out 1; have hfz21_2 := blk_frozen BK289.out 2; have hfz21_3 := blk_frozen BK289.out 3) | ((with_reducible refine gate_callee (f := 103) rfl ?_); refine zgo (some 15) Try.func103 #[.agg #[.bool a0_0, .int .i64 a0_1], .slice A1 l1.length c1, .agg #[.bool a2_0, .int .i64 a2_1, .int .i64 a2_2, .int .i64 a2_3], .int .i64 a3] ?_; (with_reducible refine (mem_Way.calls a0_0 a0_1 _ _ l1 a2_0 a2_1 a2_2 a2_3 a3 t291 _ ?side1 ?side2 A5.out).mono ?_); (case side1 => repeat (first | exact (Kd.C_below HR1.out HB.out) | (with_reducible refine Kd.C_alloc ?_ _) | (with_reducible refine Kd.C_drewN ?_ _) | (with_reducible refine Kd.C_drew ?_))); (case side2 => exact HC1.out); rintro e w22 ⟨rfl, hb⟩; refine ⟨_, rfl, ?_⟩; have n0_ := Aside0.mk (zbb BK288.out hb); have n1_ := Aside0.mk (zbb BK289.out hb); have n2_ := Aside0.mk (zbb BK290.out hb); have n3_ := Aside0.mk (below_step (zw3 HB.out GE288.out GE289.out GE290.out) hb); clear BK288 BK289 BK290 HB; have BK288 := n0_; have BK289 := n1_; have BK290 := n2_; have HB := n3_; clear n0_ n1_ n2_ n3_; (try clear hb); (try clear hb2); (try clear hk); (try clear hi)))
  have n0_ := Aside0.mk (blk_drew BK288.out)
  have n1_ := Aside0.mk (blk_drew BK289.out)
  have n2_ := Aside0.mk (blk_drew BK290.out)
  have n3_ := Aside0.mk (below_drew1 HB.out)
  clear BK288
  clear BK289
  clear BK290
  clear HB
  have BK288 := n0_
  have BK289 := n1_
  have BK290 := n2_
  have HB := n3_
  clear n0_ n1_ n2_ n3_
  have p292 : 0 ≤ (a2_2 : Int) := zdec
  have q292 : a2_2 < (l1.length : Int) := zdec
  obtain ⟨ad292, A292_1, c292_1, e292, hx292_0, hx292_1, hl292_1, hi292_1⟩ := at_T76 HR1.out a2_2 p292 q292
  have hw292_1 := hx292_1
  have hw292_0 := hx292_0
  cases e292
  replace hx292_0 := zh HB.out hx292_0
  replace hx292_1 := zh HB.out hx292_1
  have HR292_1 := Aside0.mk hi292_1
  have HC292_1 := Aside0.mk hl292_1
  clear hi292_1 hl292_1
  replace p292 := eq_true p292
  replace q292 := eq_true q292
  refine start_ (n := 22) (S := fun w' => w'.cell? ⟨gb288, 0, none⟩ = some (.bool a0_0) ∧ w'.cell? ⟨gb288, 1, none⟩ = some (.int .i64 a0_1) ∧ w'.cell? ⟨gb289, 0, none⟩ = some (.bool a2_0) ∧ w'.cell? ⟨gb289, 1, none⟩ = some (.int .i64 a2_1) ∧ w'.cell? ⟨gb289, 2, none⟩ = some (.int .i64 a2_2) ∧ w'.cell? ⟨gb289, 3, none⟩ = some (.int .i64 a2_3) ∧ w'.cell? (ad292.add ((a2_2).toNat * 2)) = some (.int .i64 ((rd_T76 l1 a2_2).f0)) ∧ w'.cell? ⟨(ad292.add ((a2_2).toNat * 2)).block, (ad292.add ((a2_2).toNat * 2)).off + 1, none⟩ = some (.slice A292_1 ((rd_T76 l1 a2_2).f1).length c292_1)) (ds := []) #[false,false,false,false,false,false,false,false,false,false,false,false,false,false,false,false,false,false,false,false,false,false] (by kernel_rfl) rfl rfl ⟨(blk_cell BK288.out 0).trans rfl, (blk_cell BK288.out 1).trans rfl, (blk_cell BK289.out 0).trans rfl, (blk_cell BK289.out 1).trans rfl, (blk_cell BK289.out 2).trans rfl, (blk_cell BK289.out 3).trans rfl, ((HB.out.cell (World.block_lt_of_cell? w _ hw292_0)).trans hw292_0), ((HB.out.cell (World.block_lt_of_cell? w _ hw292_1)).trans hw292_1)⟩ (fun hHeld => ?_); refine with_tabW mem_Take.tab4 mem_Take.bits4 (fun HT_ HW_ => ?_)
  generalize w22.drew = w23 at BK288 BK289 BK290 HB HR292_1 hx292_0 hx292_1 hHeld ⊢
  refine zq 1 (some 21) HT_ ?_; refine zq 2 (some 22) HT_ ?_; refine zq 3 (some 23) HT_ ?_; refine zq 8 (some 28) HT_ ?_; refine zq 10 (some 30) HT_ ?_; refine zq 13 (some 33) HT_ ?_; refine zt 0 (some 20) HT_ HW_ hHeld ?_; refine zt 4 (some 24) HT_ HW_ hHeld ?_; refine zq 5 (some 25) HT_ ?_; refine zq 6 (some 26) HT_ ?_; refine zt 7 (some 27) HT_ HW_ hHeld ?_; refine zt 9 (some 29) HT_ HW_ hHeld ?_; refine zt 11 (some 31) HT_ HW_ hHeld ?_; refine zt 12 (some 32) HT_ HW_ hHeld ?_
  refine one_ (i := 14) (N := some 34) #[true,true,true,true,true,true,true,true,true,true,true,true,true,true,true,false,false,false,false,false,false,false] rfl rfl (one_of HT_.out (by kernel_rfl)) (by decide) (fun K hK => ?_)
  refine goes_ Try.func86 (by kernel_rfl) rfl #[.agg #[.bool a0_0, .int .i64 a0_1], .int .i64 a3] (by rfl) rfl rfl (by (try simp only [List.map_toArray, List.map_cons, List.map_nil]); first | done | rfl | (simp only [List.length_drop, List.length_take]; rfl)) ?_
  with_reducible refine (word_Bytes.calls a0_0 a0_1 a3 t293 _ A9.out).mono ?_
  rintro e w24 ⟨rfl, hb⟩
  refine ⟨_, rfl, ?_⟩
  have n0_ := Aside0.mk (zbb BK288.out hb)
  have n1_ := Aside0.mk (zbb BK289.out hb)
  have n2_ := Aside0.mk (zbb BK290.out hb)
  have n3_ := Aside0.mk (below_step (zw3 HB.out GE288.out GE289.out GE290.out) hb)
  clear BK288
  clear BK289
  clear BK290
  clear HB
  have BK288 := n0_
  have BK289 := n1_
  have BK290 := n2_
  have HB := n3_
  clear n0_ n1_ n2_ n3_
  (try clear hb)
  (try clear hb2)
  (try clear hk)
  (try clear hi)
  have q25 : ((wrap64 (a2_3 + t293)) : Int) ≤ ((((rd_T76 l1 a2_2).f1).length : Int) : Int) := zdec
  obtain ⟨i025, hi025, _, hsz25, _⟩ := info_parts info74
  have hroom25 : ((rd_T76 l1 a2_2).f1).length ≤ c292_1 := HC292_1.out
  have hC25 : Kd.C k74 _ A292_1 ((rd_T76 l1 a2_2).f1).length ((rd_T76 l1 a2_2).f1) := HR292_1.out
  have ql25 : (a2_3 : Int) ≤ ((wrap64 (a2_3 + t293)) : Int) := zdec
  have q025 : (0 : Int) ≤ (a2_3 : Int) := zdec
  have hcut25 := cut_mid (P := Try.prog) 72 74 .i64 .i64 Try.underlying72 hi025 5 hsz25 A292_1 ((rd_T76 l1 a2_2).f1).length c292_1 a2_3 (wrap64 (a2_3 + t293)) q025 ql25 q25 hroom25
  have hr25 := Kd.C_mid (lo := (a2_3 : Int).toNat) (hi := ((wrap64 (a2_3 + t293)) : Int).toNat) (c := c292_1) hC25 (by omega) (by omega) hroom25
  obtain ⟨A25, hA25⟩ : ∃ A1, A1 = (if c292_1 = (a2_3 : Int).toNat then A292_1 else (A292_1 : Option Addr).map (·.add ((a2_3 : Int).toNat * 5))) := ⟨_, rfl⟩
  obtain ⟨c25, hc25⟩ : ∃ c1, c1 = c292_1 - (a2_3 : Int).toNat := ⟨_, rfl⟩
  have hy25 : y294.length = ((wrap64 (a2_3 + t293)) : Int).toNat - (a2_3 : Int).toNat := (by rw [Ny294.out, List.length_drop, List.length_take] <;> omega)
  rw [show (((rd_T76 l1 a2_2).f1).take ((wrap64 (a2_3 + t293)) : Int).toNat).drop (a2_3 : Int).toNat = y294 from Ny294.out.symm] at hr25
  replace hr25 : Kd.C k74 _ A25 y294.length y294 := (by rw [hA25]; exact hr25)
  rw [← hy25, ← hA25, ← hc25] at hcut25
  have HR297 := Aside0.mk hr25
  have HC297 := Aside0.mk (show y294.length ≤ c25 from by rw [hy25, hc25]; exact Nat.sub_le_sub_right (Nat.le_trans (by omega) hroom25) _)
  clear hr25 hC25 hroom25 hi025 hsz25 hc25
  have KY25 := Aside0.mk hy25
  have KA25 := Aside0.mk hA25
  clear hy25 hA25
  replace q25 := eq_true q25
  refine hK.out _ _ ⟨(blk_cell BK288.out 0).trans rfl, (blk_cell BK288.out 1).trans rfl, (blk_cell BK289.out 0).trans rfl, (blk_cell BK289.out 1).trans rfl, (blk_cell BK289.out 2).trans rfl, (blk_cell BK289.out 3).trans rfl, ((HB.out.cell (World.block_lt_of_cell? w _ hw292_0)).trans hw292_0), ((HB.out.cell (World.block_lt_of_cell? w _ hw292_1)).trans hw292_1)⟩ (fun hHeld => ?_)
  clear hK K
  refine norm_ (a' := ?_) ?_ ?_
  rotate_left
  ·show Act.put _ (some 34) _ = _
   simp only [Act.put, List.setIfInBounds_toArray, List.set_cons_zero, List.set_cons_succ, i64_w, i32_w]
   rfl
  refine zq 15 (some 35) HT_ ?_; refine zq 16 (some 36) HT_ ?_
  refine one_ (i := 17) (N := some 37) #[true,true,true,true,true,true,true,true,true,true,true,true,true,true,true,true,true,true,false,false,false,false] rfl rfl (one_of HT_.out (by kernel_rfl)) (by decide) (fun K hK => ?_)
  refine goes_ Try.func106 (by kernel_rfl) rfl #[.agg #[.bool a0_0, .int .i64 a0_1], .int .i64 a3, .slice A25 y294.length c25] (by rfl) rfl rfl (by (try simp only [List.map_toArray, List.map_cons, List.map_nil]); first | done | rfl | (simp only [List.length_drop, List.length_take]; rfl)) ?_
  with_reducible refine (bytes_Read.calls k a0_0 a0_1 a3 _ _ y294 t298 t299 t300 t301 t302 _ ?side1 ?side2 A13.out).mono ?_
  (case side1 => repeat (first | exact (Kd.C_below HR297.out HB.out) | (with_reducible refine Kd.C_alloc ?_ _) | (with_reducible refine Kd.C_drewN ?_ _) | (with_reducible refine Kd.C_drew ?_)))
  (case side2 => exact HC297.out)
  rintro e w26 ⟨rfl, hb⟩
  refine ⟨_, rfl, ?_⟩
  have n0_ := Aside0.mk (zbb BK288.out hb)
  have n1_ := Aside0.mk (zbb BK289.out hb)
  have n2_ := Aside0.mk (zbb BK290.out hb)
  have n3_ := Aside0.mk (below_step (zw3 HB.out GE288.out GE289.out GE290.out) hb)
  clear BK288
  clear BK289
  clear BK290
  clear HB
  have BK288 := n0_
  have BK289 := n1_
  have BK290 := n2_
  have HB := n3_
  clear n0_ n1_ n2_ n3_
  (try clear hb)
  (try clear hb2)
  (try clear hk)
  (try clear hi)
  refine hK.out _ _ ⟨(blk_cell BK288.out 0).trans rfl, (blk_cell BK288.out 1).trans rfl, (blk_cell BK289.out 0).trans rfl, (blk_cell BK289.out 1).trans rfl, (blk_cell BK289.out 2).trans rfl, (blk_cell BK289.out 3).trans rfl, ((HB.out.cell (World.block_lt_of_cell? w _ hw292_0)).trans hw292_0), ((HB.out.cell (World.block_lt_of_cell? w _ hw292_1)).trans hw292_1)⟩ (fun hHeld => ?_)
  clear hK K
  refine norm_ (a' := ?_) ?_ ?_
  rotate_left
  ·show Act.put _ (some 37) _ = _
   simp only [Act.put, List.setIfInBounds_toArray, List.set_cons_zero, List.set_cons_succ, i64_w, i32_w]
   rfl
  refine zq 18 (some 38) HT_ ?_; refine zq 19 (some 39) HT_ ?_
  refine one_ (i := 20) (N := none) #[true,true,true,true,true,true,true,true,true,true,true,true,true,true,true,true,true,true,true,true,true,false] rfl rfl (one_of HT_.out (by kernel_rfl)) (by decide) (fun K hK => ?_)
  have hs27 : w26.cell? ⟨gb290, 0, none⟩ = some (.bool false) := (blk_cell BK290.out 0).trans rfl
  have hfs27 := blk_frozen BK290.out 0
  have hns27_0 := NB288_290.out
  have hns27_1 := NB289_290.out
  have hms27_0 := NB290_288.out
  have hms27_1 := NB290_289.out
  have hs28 : w26.cell? ⟨gb290, 1, none⟩ = some (.int .i64 0) := (blk_cell BK290.out 1).trans rfl
  have hfs28 := blk_frozen BK290.out 1
  have hns28_0 := NB288_290.out
  have hns28_1 := NB289_290.out
  have hms28_0 := NB290_288.out
  have hms28_1 := NB290_289.out
  have hs29 : w26.cell? ⟨gb290, 2, none⟩ = some (.int .i64 0) := (blk_cell BK290.out 2).trans rfl
  have hfs29 := blk_frozen BK290.out 2
  have hns29_0 := NB288_290.out
  have hns29_1 := NB289_290.out
  have hms29_0 := NB290_288.out
  have hms29_1 := NB290_289.out
  have hs30 : w26.cell? ⟨gb290, 3, none⟩ = some (.int .i64 0) := (blk_cell BK290.out 3).trans rfl
  have hfs30 := blk_frozen BK290.out 3
  have hns30_0 := NB288_290.out
  have hns30_1 := NB289_290.out
  have hms30_0 := NB290_288.out
  have hms30_1 := NB290_289.out
  refine skip_ (w1 := ?_) (by rfl) rfl ?_ ?_
  rotate_left
  ·go_simp
   rfl
  refine hK.out _ _ ⟨((cell_far (p := ⟨gb290, _, none⟩) NB288_290.out _).trans (((cell_far (p := ⟨gb290, _, none⟩) NB288_290.out _).trans (((cell_far (p := ⟨gb290, _, none⟩) NB288_290.out _).trans (((cell_far (p := ⟨gb290, _, none⟩) NB288_290.out _).trans (hHeld.1)))))))), ((cell_far (p := ⟨gb290, _, none⟩) NB288_290.out _).trans (((cell_far (p := ⟨gb290, _, none⟩) NB288_290.out _).trans (((cell_far (p := ⟨gb290, _, none⟩) NB288_290.out _).trans (((cell_far (p := ⟨gb290, _, none⟩) NB288_290.out _).trans (hHeld.2.1)))))))), ((cell_far (p := ⟨gb290, _, none⟩) NB289_290.out _).trans (((cell_far (p := ⟨gb290, _, none⟩) NB289_290.out _).trans (((cell_far (p := ⟨gb290, _, none⟩) NB289_290.out _).trans (((cell_far (p := ⟨gb290, _, none⟩) NB289_290.out _).trans (hHeld.2.2.1)))))))), ((cell_far (p := ⟨gb290, _, none⟩) NB289_290.out _).trans (((cell_far (p := ⟨gb290, _, none⟩) NB289_290.out _).trans (((cell_far (p := ⟨gb290, _, none⟩) NB289_290.out _).trans (((cell_far (p := ⟨gb290, _, none⟩) NB289_290.out _).trans (hHeld.2.2.2.1)))))))), ((cell_far (p := ⟨gb290, _, none⟩) NB289_290.out _).trans (((cell_far (p := ⟨gb290, _, none⟩) NB289_290.out _).trans (((cell_far (p := ⟨gb290, _, none⟩) NB289_290.out _).trans (((cell_far (p := ⟨gb290, _, none⟩) NB289_290.out _).trans (hHeld.2.2.2.2.1)))))))), ((cell_far (p := ⟨gb290, _, none⟩) NB289_290.out _).trans (((cell_far (p := ⟨gb290, _, none⟩) NB289_290.out _).trans (((cell_far (p := ⟨gb290, _, none⟩) NB289_290.out _).trans (((cell_far (p := ⟨gb290, _, none⟩) NB289_290.out _).trans (hHeld.2.2.2.2.2.1)))))))), ((cell_far (p := ⟨gb290, _, none⟩) (zx (zfar hw292_0 GW290.out)) _).trans (((cell_far (p := ⟨gb290, _, none⟩) (zx (zfar hw292_0 GW290.out)) _).trans (((cell_far (p := ⟨gb290, _, none⟩) (zx (zfar hw292_0 GW290.out)) _).trans (((cell_far (p := ⟨gb290, _, none⟩) (zx (zfar hw292_0 GW290.out)) _).trans (hHeld.2.2.2.2.2.2.1)))))))), ((cell_far (p := ⟨gb290, _, none⟩) (zx (zfar hw292_1 GW290.out)) _).trans (((cell_far (p := ⟨gb290, _, none⟩) (zx (zfar hw292_1 GW290.out)) _).trans (((cell_far (p := ⟨gb290, _, none⟩) (zx (zfar hw292_1 GW290.out)) _).trans (((cell_far (p := ⟨gb290, _, none⟩) (zx (zfar hw292_1 GW290.out)) _).trans (hHeld.2.2.2.2.2.2.2))))))))⟩ (fun hHeld => ?_)
  clear hK K
  refine zq 21 (some 9) HT_ ?_
  refine done_ (done_of HT_.out (by kernel_rfl)) ?_
  try go_wp2
  refine bodyPost_ret (results_ct rfl _ _ gb290 62 #[.bool t298, .int .i64 t299, .int .i64 t300, .int .i64 t301] (0, 0) _ rfl (by (with_reducible repeat (first | refine blk_drewN ?_ _ | refine blk_drew ?_ | refine blk_alloc ?_ _)); refine blk_put (cs := #[.bool t298, .int .i64 t299, .int .i64 t300, .int .i64 0]) ?_ 3 _ rfl; (with_reducible repeat (first | refine blk_drewN ?_ _ | refine blk_drew ?_ | refine blk_alloc ?_ _)); refine blk_put (cs := #[.bool t298, .int .i64 t299, .int .i64 0, .int .i64 0]) ?_ 2 _ rfl; (with_reducible repeat (first | refine blk_drewN ?_ _ | refine blk_drew ?_ | refine blk_alloc ?_ _)); refine blk_put (cs := #[.bool t298, .int .i64 0, .int .i64 0, .int .i64 0]) ?_ 1 _ rfl; (with_reducible repeat (first | refine blk_drewN ?_ _ | refine blk_drew ?_ | refine blk_alloc ?_ _)); refine blk_put (cs := #[.bool false, .int .i64 0, .int .i64 0, .int .i64 0]) ?_ 0 _ rfl; (with_reducible repeat (first | refine blk_drewN ?_ _ | refine blk_drew ?_ | refine blk_alloc ?_ _)); exact BK290.out) Try.underlying62 rfl (by kernel_rfl)) rfl ?_
  exact ⟨ze, zw3 HB.out GE288.out GE289.out GE290.out⟩
 ·rw [if_neg c6] at H
  have c6b0 : (t291 == 0) = false := beq_eq_false_iff_ne.mpr c6
  have c6b1 : (t291 != 0) = true := bne_iff_ne.mpr c6
  simp only [Option.some.injEq, Prod.mk.injEq] at H
  obtain ⟨rfl, rfl, rfl, rfl, rfl⟩ := H
  go_enter Try.func75, Try.ntmps75
  go_wp2_with (first | ((with_reducible refine gate_dst (N := 4) rfl ?_); refine zbox (N := 4) (cs := #[.bool a0_0, .int .i64 a0_1]) (t := 29) ?_; intro gb288 hg w31 hbox hb; have n0_ := Aside0.mk (below_step (zw0 HB.out) hb); have BK288 := Aside0.mk (hbox); have GW288 := Aside0.mk (zg hg (below_size (zw0 HB.out))); have GE288 := GW288; clear HB; have HB := n0_; clear n0_; clear hb hbox hg) | ((with_reducible refine gate_dst (N := 6) rfl ?_); refine zbox (N := 6) (cs := #[.bool a2_0, .int .i64 a2_1, .int .i64 a2_2, .int .i64 a2_3]) (t := 62) ?_; intro gb289 hg w32 hbox hb; have n0_ := Aside0.mk (zbb BK288.out hb); have n1_ := Aside0.mk (below_step (zw1 HB.out GE288.out) hb); have BK289 := Aside0.mk (hbox); have GW289 := Aside0.mk (zg hg (below_size (zw1 HB.out GE288.out))); have GE289 := GW289; have NB288_289 := Aside0.mk (zlt hg BK288.out); have NB289_288 := Aside0.mk (zgt hg BK288.out); clear BK288 HB; have BK288 := n0_; have HB := n1_; clear n0_ n1_; clear hb hbox hg) | ((with_reducible refine gate_dst (N := 8) rfl ?_); refine zbox (N := 8) (cs := #[.bool false, .int .i64 0, .int .i64 0, .int .i64 0]) (t := 62) ?_; intro gb290 hg w33 hbox hb; have n0_ := Aside0.mk (zbb BK288.out hb); have n1_ := Aside0.mk (zbb BK289.out hb); have n2_ := Aside0.mk (below_step (zw2 HB.out GE288.out GE289.out) hb); have BK290 := Aside0.mk (hbox); have GW290 := Aside0.mk (zg hg (below_size (zw2 HB.out GE288.out GE289.out))); have GE290 := GW290; have NB288_290 := Aside0.mk (zlt hg BK288.out); have NB290_288 := Aside0.mk (zgt hg BK288.out); have NB289_290 := Aside0.mk (zlt hg BK289.out); have NB290_289 := Aside0.mk (zgt hg BK289.out); clear BK288 BK289 HB; have BK288 := n0_; have BK289 := n1_; have HB := n2_; clear n0_ n1_ n2_; clear hb hbox hg; have hnb34 := NB288_289.out; have hnc34 := NB289_288.out; have hnb35 := NB288_290.out; have hnc35 := NB290_288.out; have hcz36_0 := zc BK288.out 0; have hcz36_1 := zc BK288.out 1; have hfz36_0 := blk_frozen BK288.out 0; have hfz36_1 := blk_frozen BK288.out 1; have hnb37 := NB289_290.out; have hnc37 := NB290_289.out; have hcz38_0 := zc BK289.out 0; have hcz38_1 := zc BK289.out 1; have hcz38_2 := zc BK289.out 2; have hcz38_3 := zc BK289.out 3; have hfz38_0 := blk_frozen BK289.out 0; have hfz38_1 := blk_frozen BK289.out 1; have hfz38_2 := blk_frozen BK289.out 2; have hfz38_3 := blk_frozen BK289.out 3) | ((with_reducible refine gate_callee (f := 103) rfl ?_); refine zgo (some 15) Try.func103 #[.agg #[.bool a0_0, .int .i64 a0_1], .slice A1 l1.length c1, .agg #[.bool a2_0, .int .i64 a2_1, .int .i64 a2_2, .int .i64 a2_3], .int .i64 a3] ?_; (with_reducible refine (mem_Way.calls a0_0 a0_1 _ _ l1 a2_0 a2_1 a2_2 a2_3 a3 t291 _ ?side1 ?side2 A5.out).mono ?_); (case side1 => repeat (first | exact (Kd.C_below HR1.out HB.out) | (with_reducible refine Kd.C_alloc ?_ _) | (with_reducible refine Kd.C_drewN ?_ _) | (with_reducible refine Kd.C_drew ?_))); (case side2 => exact HC1.out); rintro e w39 ⟨rfl, hb⟩; refine ⟨_, rfl, ?_⟩; have n0_ := Aside0.mk (zbb BK288.out hb); have n1_ := Aside0.mk (zbb BK289.out hb); have n2_ := Aside0.mk (zbb BK290.out hb); have n3_ := Aside0.mk (below_step (zw3 HB.out GE288.out GE289.out GE290.out) hb); clear BK288 BK289 BK290 HB; have BK288 := n0_; have BK289 := n1_; have BK290 := n2_; have HB := n3_; clear n0_ n1_ n2_ n3_; (try clear hb); (try clear hb2); (try clear hk); (try clear hi); have hcz40_0 := zc BK290.out 0; have hcz40_1 := zc BK290.out 1; have hcz40_2 := zc BK290.out 2; have hcz40_3 := zc BK290.out 3; have hfz40_0 := blk_frozen BK290.out 0; have hfz40_1 := blk_frozen BK290.out 1; have hfz40_2 := blk_frozen BK290.out 2; have hfz40_3 := blk_frozen BK290.out 3))
  refine bodyPost_ret (results_ct rfl _ _ gb290 62 #[.bool false, .int .i64 0, .int .i64 0, .int .i64 0] (0, 0) _ rfl (by (with_reducible repeat (first | refine blk_drewN ?_ _ | refine blk_drew ?_ | refine blk_alloc ?_ _)); refine blk_put (cs := #[.bool false, .int .i64 0, .int .i64 0, .int .i64 0]) ?_ 3 _ rfl; (with_reducible repeat (first | refine blk_drewN ?_ _ | refine blk_drew ?_ | refine blk_alloc ?_ _)); refine blk_put (cs := #[.bool false, .int .i64 0, .int .i64 0, .int .i64 0]) ?_ 2 _ rfl; (with_reducible repeat (first | refine blk_drewN ?_ _ | refine blk_drew ?_ | refine blk_alloc ?_ _)); refine blk_put (cs := #[.bool false, .int .i64 0, .int .i64 0, .int .i64 0]) ?_ 1 _ rfl; (with_reducible repeat (first | refine blk_drewN ?_ _ | refine blk_drew ?_ | refine blk_alloc ?_ _)); refine blk_put (cs := #[.bool false, .int .i64 0, .int .i64 0, .int .i64 0]) ?_ 0 _ rfl; (with_reducible repeat (first | refine blk_drewN ?_ _ | refine blk_drew ?_ | refine blk_alloc ?_ _)); exact BK290.out) Try.underlying62 rfl (by kernel_rfl)) rfl ?_
  exact ⟨ze, zw3 HB.out GE288.out GE289.out GE290.out⟩

end Go.Proofs.Ytjoplkillkhiaaa.St
