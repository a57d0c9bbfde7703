-- Written by this session's own edition of the print.
import Derived.Test.YtjoplkillkhiaaaLx0
import Derived.Test.YtjoplkillkhiaaaLx1
import Derived.Test.YtjoplkillkhiaaaLx3
import Derived.Test.YtjoplkillkhiaaaUSq
import Derived.Test.YtjoplkillkhiaaaUSq2
namespace Go.Proofs.Ytjoplkillkhiaaa.L
open Go.RowKit Go.Proofs.Ytjoplkillkhiaaa.Fn Go.Proofs.YtjoplkillkhiaaaW.PrintWords Go.Proofs.YtjoplkillkhiaaaW.PrintLast Go.Proofs.YtjoplkillkhiaaaW.PrintMore
attribute [local go_sem] max2_int min2_int max_two min_two max_three min_three max_four min_four   -- for this text's walks alone
set_option linter.unusedVariables false
set_option linter.unusedSimpArgs false

/-! lay_Check -/
def lay_Check.f (k : Nat) (a0_0 : Bool) (a0_1 : Int) (l1 : List (S31)) : Option (Int) := (lay_places.f k a0_0 a0_1 l1).bind fun bt147 => (if bt147.2 = true then (some 0) else (some 1))
theorem lay_Check.mono : ∀ a0 a1 a2 k, LeO (lay_Check.f k a0 a1 a2) (lay_Check.f (k + 1) a0 a1 a2) := by
 intro a0 a1 a2 k
 unfold lay_Check.f
 repeat' first
   | (with_reducible apply lay_places.mono)
   | (with_reducible apply LeO.refl)
   | (with_reducible apply LeO.none)
   | (with_reducible refine LeO.ite ?_ ?_)
   | (with_reducible refine LeO.bind ?_ (fun _ => ?_))
set_option maxHeartbeats 8000000 in
set_option maxRecDepth 100000 in
theorem lay_Check.calls (k : Nat) (a0_0 : Bool) (a0_1 : Int) (A1 : Option Addr) (c1 : Nat) (l1 : List (S31)) (r : Int) (w : World) (hr1 : Kd.C k31 w A1 l1.length l1) (hc1 : l1.length ≤ c1) (h : lay_Check.f k a0_0 a0_1 l1 = some r) :
  Calls Try.prog 12 #[.agg #[.bool a0_0, .int .i64 a0_1], .slice A1 l1.length c1] w fun e w' => e = .returned (.int .i64 r) ∧ Below w.heap.size w w' := by
 have hu29 := Try.underlying29
 have HR1 := Aside0.mk hr1
 have HC1 := Aside0.mk hc1
 clear hr1 hc1
 have HB := Aside0.mk (Below.refl w.heap.size w)
 have H : ((lay_places.f k a0_0 a0_1 l1).bind fun bt147 => (if bt147.2 = true then (some 0) else (some 1))) = some r := h
 clear h
 replace H := Option.bind_eq_some_iff.mp H
 obtain ⟨⟨t147, t150⟩, A30, H⟩ := H
 replace H : (if t150 = true then (some 0) else (some 1)) = some r := H
 have A3 := Aside0.mk A30
 clear A30
 by_cases c4 : t150 = true
 ·subst c4
  have H1 : (some 0) = some r := by rw [if_pos rfl] at H; exact H
  clear H
  have H := H1
  clear H1
  obtain rfl := Option.some.inj H
  go_enter Try.func12, Try.ntmps12
  go_wp2_with (first | ((with_reducible refine gate_dst (N := 2) rfl ?_); refine zbox (N := 2) (cs := #[.bool a0_0, .int .i64 a0_1]) (t := 29) ?_; intro gb146 hg w5 hbox hb; have n0_ := Aside0.mk (below_step (zw0 HB.out) hb); have BK146 := Aside0.mk (hbox); have GW146 := Aside0.mk (zg hg (below_size (zw0 HB.out))); have GE146 := GW146; clear HB; have HB := n0_; clear n0_; clear hb hbox hg; have hcz6_0 := zc BK146.out 0; have hcz6_1 := zc BK146.out 1; have hfz6_0 := blk_frozen BK146.out 0; have hfz6_1 := blk_frozen BK146.out 1) | ((with_reducible refine gate_callee (f := 51) rfl ?_); refine zgo (some 10) Try.func51 #[.agg #[.bool a0_0, .int .i64 a0_1], .slice A1 l1.length c1] ?_; (with_reducible refine (lay_places.calls k a0_0 a0_1 _ _ l1 t147 true _ ?side1 ?side2 A3.out).mono ?_); (case side1 => repeat (first | exact (Kd.C_below HR1.out HB.out) | (with_reducible refine Kd.C_alloc ?_ _) | (with_reducible refine Kd.C_drewN ?_ _) | (with_reducible refine Kd.C_drew ?_))); (case side2 => exact HC1.out); rintro e w7 ⟨v148, rfl, ho0, hb⟩; refine ⟨_, rfl, ?_⟩; have HO149 := Aside0.mk (Kd.R_lower ho0 (below_size (zw1 HB.out GE146.out))); have n1_ := Aside0.mk (zbb BK146.out hb); have n2_ := Aside0.mk (below_step (zw1 HB.out GE146.out) hb); clear BK146 HB; have BK146 := n1_; have HB := n2_; clear n1_ n2_; (try clear hb); (try clear hb2); (try clear hk); (try clear hi); (try clear ho0)))
  go_ret
  exact ⟨ze, zw1 HB.out GE146.out⟩
 ·replace c4 := Bool.eq_false_iff.mpr c4
  subst c4
  have H1 : (some 1) = some r := by rw [if_neg (show ¬ (false = true) by decide)] at H; exact H
  clear H
  have H := H1
  clear H1
  obtain rfl := Option.some.inj H
  go_enter Try.func12, Try.ntmps12
  go_wp2_with (first | ((with_reducible refine gate_dst (N := 2) rfl ?_); refine zbox (N := 2) (cs := #[.bool a0_0, .int .i64 a0_1]) (t := 29) ?_; intro gb146 hg w8 hbox hb; have n0_ := Aside0.mk (below_step (zw0 HB.out) hb); have BK146 := Aside0.mk (hbox); have GW146 := Aside0.mk (zg hg (below_size (zw0 HB.out))); have GE146 := GW146; clear HB; have HB := n0_; clear n0_; clear hb hbox hg; have hcz9_0 := zc BK146.out 0; have hcz9_1 := zc BK146.out 1; have hfz9_0 := blk_frozen BK146.out 0; have hfz9_1 := blk_frozen BK146.out 1) | ((with_reducible refine gate_callee (f := 51) rfl ?_); refine zgo (some 10) Try.func51 #[.agg #[.bool a0_0, .int .i64 a0_1], .slice A1 l1.length c1] ?_; (with_reducible refine (lay_places.calls k a0_0 a0_1 _ _ l1 t147 false _ ?side1 ?side2 A3.out).mono ?_); (case side1 => repeat (first | exact (Kd.C_below HR1.out HB.out) | (with_reducible refine Kd.C_alloc ?_ _) | (with_reducible refine Kd.C_drewN ?_ _) | (with_reducible refine Kd.C_drew ?_))); (case side2 => exact HC1.out); rintro e w10 ⟨v148, rfl, ho0, hb⟩; refine ⟨_, rfl, ?_⟩; have HO149 := Aside0.mk (Kd.R_lower ho0 (below_size (zw1 HB.out GE146.out))); have n1_ := Aside0.mk (zbb BK146.out hb); have n2_ := Aside0.mk (below_step (zw1 HB.out GE146.out) hb); clear BK146 HB; have BK146 := n1_; have HB := n2_; clear n1_ n2_; (try clear hb); (try clear hb2); (try clear hk); (try clear hi); (try clear ho0)))
  go_ret
  exact ⟨ze, zw1 HB.out GE146.out⟩

/-! lay_asked -/
def lay_asked.f (k : Nat) (a0_0 : Bool) (a0_1 : Int) (l1 : List (S31)) (a2 : Int) : Option ((List (S103)) × Int) := (lay_places.f k a0_0 a0_1 l1).bind fun bt152 => (if bt152.2 = true then (if a2 < 0 then (some (([] : List (S103)), 3)) else (if a2 ≥ (l1.length : Int) then (some (([] : List (S103)), 3)) else (some (bt152.1, 0)))) else (some (([] : List (S103)), 1)))
theorem lay_asked.mono : ∀ a0 a1 a2 a3 k, LeO (lay_asked.f k a0 a1 a2 a3) (lay_asked.f (k + 1) a0 a1 a2 a3) := by
 intro a0 a1 a2 a3 k
 unfold lay_asked.f
 repeat' first
   | (with_reducible apply lay_places.mono)
   | (with_reducible apply LeO.refl)
   | (with_reducible apply LeO.none)
   | (with_reducible refine LeO.ite ?_ ?_)
   | (with_reducible refine LeO.bind ?_ (fun _ => ?_))
set_option maxHeartbeats 8000000 in
set_option maxRecDepth 100000 in
theorem lay_asked.calls (k : Nat) (a0_0 : Bool) (a0_1 : Int) (A1 : Option Addr) (c1 : Nat) (l1 : List (S31)) (a2 : Int) (r1 : List (S103)) (r2 : Int) (w : World) (hr1 : Kd.C k31 w A1 l1.length l1) (hc1 : l1.length ≤ c1) (h : lay_asked.f k a0_0 a0_1 l1 a2 = some (r1, r2)) :
  Calls Try.prog 57 #[.agg #[.bool a0_0, .int .i64 a0_1], .slice A1 l1.length c1, .int .i64 a2] w fun e w' => ∃ v0_ : Value, e = .returned (.tuple #[v0_, .int .i64 r2]) ∧ Kd.R k103 103 w' w.heap.size (fun _ => True) v0_ r1 ∧ Below w.heap.size w w' := by
 have hu29 := Try.underlying29
 have HR1 := Aside0.mk hr1
 have HC1 := Aside0.mk hc1
 clear hr1 hc1
 have HB := Aside0.mk (Below.refl w.heap.size w)
 have H : ((lay_places.f k a0_0 a0_1 l1).bind fun bt152 => (if bt152.2 = true then (if a2 < 0 then (some (([] : List (S103)), 3)) else (if a2 ≥ (l1.length : Int) then (some (([] : List (S103)), 3)) else (some (bt152.1, 0)))) else (some (([] : List (S103)), 1)))) = some (r1, r2) := h
 clear h
 replace H := Option.bind_eq_some_iff.mp H
 obtain ⟨⟨t152, t155⟩, A40, H⟩ := H
 replace H : (if t155 = true then (if a2 < 0 then (some (([] : List (S103)), 3)) else (if a2 ≥ (l1.length : Int) then (some (([] : List (S103)), 3)) else (some (t152, 0)))) else (some (([] : List (S103)), 1))) = some (r1, r2) := H
 have A4 := Aside0.mk A40
 clear A40
 by_cases c5 : t155 = true
 ·subst c5
  have H1 : (if a2 < 0 then (some (([] : List (S103)), 3)) else (if a2 ≥ (l1.length : Int) then (some (([] : List (S103)), 3)) else (some (t152, 0)))) = some (r1, r2) := by rw [if_pos rfl] at H; exact H
  clear H
  have H := H1
  clear H1
  by_cases c6 : a2 < 0
  ·rw [if_pos c6] at H
   have c6b0 : decide (a2 < 0) = true := decide_eq_true c6
   clear c6
   simp only [Option.some.injEq, Prod.mk.injEq] at H
   obtain ⟨rfl, rfl⟩ := H
   go_enter Try.func57, Try.ntmps57
   go_wp2_with (first | ((with_reducible refine gate_dst (N := 3) rfl ?_); (try (refine gate_guard (by rfl) ?_; dsimp only)); refine zbox (N := 3) (cs := #[.bool a0_0, .int .i64 a0_1]) (t := 29) ?_; intro gb151 hg w7 hbox hb; have n0_ := Aside0.mk (below_step (zw0 HB.out) hb); have BK151 := Aside0.mk (hbox); have GW151 := Aside0.mk (zg hg (below_size (zw0 HB.out))); have GE151 := GW151; clear HB; have HB := n0_; clear n0_; clear hb hbox hg; have hcz8_0 := zc BK151.out 0; have hcz8_1 := zc BK151.out 1; have hfz8_0 := blk_frozen BK151.out 0; have hfz8_1 := blk_frozen BK151.out 1) | ((with_reducible refine gate_callee (f := 51) rfl ?_); refine zgo (some 13) Try.func51 #[.agg #[.bool a0_0, .int .i64 a0_1], .slice A1 l1.length c1] ?_; (with_reducible refine (lay_places.calls k a0_0 a0_1 _ _ l1 t152 true _ ?side1 ?side2 A4.out).mono ?_); (case side1 => repeat (first | exact (Kd.C_below HR1.out HB.out) | (with_reducible refine Kd.C_alloc ?_ _) | (with_reducible refine Kd.C_drewN ?_ _) | (with_reducible refine Kd.C_drew ?_))); (case side2 => exact HC1.out); rintro e w9 ⟨v153, rfl, ho0, hb⟩; refine ⟨_, rfl, ?_⟩; have HO154 := Aside0.mk (Kd.R_lower ho0 (below_size (zw1 HB.out GE151.out))); have n1_ := Aside0.mk (zbb BK151.out hb); have n2_ := Aside0.mk (below_step (zw1 HB.out GE151.out) hb); clear BK151 HB; have BK151 := n1_; have HB := n2_; clear n1_ n2_; (try clear hb); (try clear hb2); (try clear hk); (try clear hi); (try clear ho0)))
   go_ret2
   exact ⟨_, ze, by first | exact Kd.R_nil _ _ _ _ _ | exact Kd.N_nil _ _ _ _ _ | exact Kd.V_nil _ _ _ _ _ | exact Kd.Q_nil _ _ _ _ _ | exact Kd.S_nil _ _ _ _ _, zw1 HB.out GE151.out⟩
  rw [if_neg c6] at H
  have c6b0 : decide (a2 < 0) = false := decide_eq_false c6
  clear c6
  by_cases c10 : a2 ≥ (l1.length : Int)
  rotate_left
  ·rw [if_neg c10] at H
   have c10b0 : decide ((l1.length : Int) ≤ a2) = false := decide_eq_false c10
   clear c10
   simp only [Option.some.injEq, Prod.mk.injEq] at H
   obtain ⟨rfl, rfl⟩ := H
   go_enter Try.func57, Try.ntmps57
   go_wp2_with (first | ((with_reducible refine gate_dst (N := 3) rfl ?_); (try (refine gate_guard (by rfl) ?_; dsimp only)); refine zbox (N := 3) (cs := #[.bool a0_0, .int .i64 a0_1]) (t := 29) ?_; intro gb151 hg w14 hbox hb; have n0_ := Aside0.mk (below_step (zw0 HB.out) hb); have BK151 := Aside0.mk (hbox); have GW151 := Aside0.mk (zg hg (below_size (zw0 HB.out))); have GE151 := GW151; clear HB; have HB := n0_; clear n0_; clear hb hbox hg; have hcz15_0 := zc BK151.out 0; have hcz15_1 := zc BK151.out 1; have hfz15_0 := blk_frozen BK151.out 0; have hfz15_1 := blk_frozen BK151.out 1) | ((with_reducible refine gate_callee (f := 51) rfl ?_); refine zgo (some 13) Try.func51 #[.agg #[.bool a0_0, .int .i64 a0_1], .slice A1 l1.length c1] ?_; (with_reducible refine (lay_places.calls k a0_0 a0_1 _ _ l1 t152 true _ ?side1 ?side2 A4.out).mono ?_); (case side1 => repeat (first | exact (Kd.C_below HR1.out HB.out) | (with_reducible refine Kd.C_alloc ?_ _) | (with_reducible refine Kd.C_drewN ?_ _) | (with_reducible refine Kd.C_drew ?_))); (case side2 => exact HC1.out); rintro e w16 ⟨v153, rfl, ho0, hb⟩; refine ⟨_, rfl, ?_⟩; have HO154 := Aside0.mk (Kd.R_lower ho0 (below_size (zw1 HB.out GE151.out))); have n1_ := Aside0.mk (zbb BK151.out hb); have n2_ := Aside0.mk (below_step (zw1 HB.out GE151.out) hb); clear BK151 HB; have BK151 := n1_; have HB := n2_; clear n1_ n2_; (try clear hb); (try clear hb2); (try clear hk); (try clear hi); (try clear ho0)))
   go_ret2
   exact ⟨_, ze, by (with_reducible repeat (first | apply Kd.R_alloc | apply Kd.R_drewN | apply Kd.R_drew)); exact HO154.out, zw1 HB.out GE151.out⟩
  rw [if_pos c10] at H
  have c10b0 : decide ((l1.length : Int) ≤ a2) = true := decide_eq_true c10
  clear c10
  simp only [Option.some.injEq, Prod.mk.injEq] at H
  obtain ⟨rfl, rfl⟩ := H
  go_enter Try.func57, Try.ntmps57
  go_wp2_with (first | ((with_reducible refine gate_dst (N := 3) rfl ?_); (try (refine gate_guard (by rfl) ?_; dsimp only)); refine zbox (N := 3) (cs := #[.bool a0_0, .int .i64 a0_1]) (t := 29) ?_; intro gb151 hg w11 hbox hb; have n0_ := Aside0.mk (below_step (zw0 HB.out) hb); have BK151 := Aside0.mk (hbox); have GW151 := Aside0.mk (zg hg (below_size (zw0 HB.out))); have GE151 := GW151; clear HB; have HB := n0_; clear n0_; clear hb hbox hg; have hcz12_0 := zc BK151.out 0; have hcz12_1 := zc BK151.out 1; have hfz12_0 := blk_frozen BK151.out 0; have hfz12_1 := blk_frozen BK151.out 1) | ((with_reducible refine gate_callee (f := 51) rfl ?_); refine zgo (some 13) Try.func51 #[.agg #[.bool a0_0, .int .i64 a0_1], .slice A1 l1.length c1] ?_; (with_reducible refine (lay_places.calls k a0_0 a0_1 _ _ l1 t152 true _ ?side1 ?side2 A4.out).mono ?_); (case side1 => repeat (first | exact (Kd.C_below HR1.out HB.out) | (with_reducible refine Kd.C_alloc ?_ _) | (with_reducible refine Kd.C_drewN ?_ _) | (with_reducible refine Kd.C_drew ?_))); (case side2 => exact HC1.out); rintro e w13 ⟨v153, rfl, ho0, hb⟩; refine ⟨_, rfl, ?_⟩; have HO154 := Aside0.mk (Kd.R_lower ho0 (below_size (zw1 HB.out GE151.out))); have n1_ := Aside0.mk (zbb BK151.out hb); have n2_ := Aside0.mk (below_step (zw1 HB.out GE151.out) hb); clear BK151 HB; have BK151 := n1_; have HB := n2_; clear n1_ n2_; (try clear hb); (try clear hb2); (try clear hk); (try clear hi); (try clear ho0)))
  go_ret2
  exact ⟨_, ze, by first | exact Kd.R_nil _ _ _ _ _ | exact Kd.N_nil _ _ _ _ _ | exact Kd.V_nil _ _ _ _ _ | exact Kd.Q_nil _ _ _ _ _ | exact Kd.S_nil _ _ _ _ _, zw1 HB.out GE151.out⟩
 ·replace c5 := Bool.eq_false_iff.mpr c5
  subst c5
  have H1 : (some (([] : List (S103)), 1)) = some (r1, r2) := by rw [if_neg (show ¬ (false = true) by decide)] at H; exact H
  clear H
  have H := H1
  clear H1
  simp only [Option.some.injEq, Prod.mk.injEq] at H
  obtain ⟨rfl, rfl⟩ := H
  go_enter Try.func57, Try.ntmps57
  go_wp2_with (first | ((with_reducible refine gate_dst (N := 3) rfl ?_); (try (refine gate_guard (by rfl) ?_; dsimp only)); refine zbox (N := 3) (cs := #[.bool a0_0, .int .i64 a0_1]) (t := 29) ?_; intro gb151 hg w17 hbox hb; have n0_ := Aside0.mk (below_step (zw0 HB.out) hb); have BK151 := Aside0.mk (hbox); have GW151 := Aside0.mk (zg hg (below_size (zw0 HB.out))); have GE151 := GW151; clear HB; have HB := n0_; clear n0_; clear hb hbox hg; have hcz18_0 := zc BK151.out 0; have hcz18_1 := zc BK151.out 1; have hfz18_0 := blk_frozen BK151.out 0; have hfz18_1 := blk_frozen BK151.out 1) | ((with_reducible refine gate_callee (f := 51) rfl ?_); refine zgo (some 13) Try.func51 #[.agg #[.bool a0_0, .int .i64 a0_1], .slice A1 l1.length c1] ?_; (with_reducible refine (lay_places.calls k a0_0 a0_1 _ _ l1 t152 false _ ?side1 ?side2 A4.out).mono ?_); (case side1 => repeat (first | exact (Kd.C_below HR1.out HB.out) | (with_reducible refine Kd.C_alloc ?_ _) | (with_reducible refine Kd.C_drewN ?_ _) | (with_reducible refine Kd.C_drew ?_))); (case side2 => exact HC1.out); rintro e w19 ⟨v153, rfl, ho0, hb⟩; refine ⟨_, rfl, ?_⟩; have HO154 := Aside0.mk (Kd.R_lower ho0 (below_size (zw1 HB.out GE151.out))); have n1_ := Aside0.mk (zbb BK151.out hb); have n2_ := Aside0.mk (below_step (zw1 HB.out GE151.out) hb); clear BK151 HB; have BK151 := n1_; have HB := n2_; clear n1_ n2_; (try clear hb); (try clear hb2); (try clear hk); (try clear hi); (try clear ho0)))
  go_ret2
  exact ⟨_, ze, by first | exact Kd.R_nil _ _ _ _ _ | exact Kd.N_nil _ _ _ _ _ | exact Kd.V_nil _ _ _ _ _ | exact Kd.Q_nil _ _ _ _ _ | exact Kd.S_nil _ _ _ _ _, zw1 HB.out GE151.out⟩

/-! lay_Size -/
def lay_Size.f (k : Nat) (a0_0 : Bool) (a0_1 : Int) (l1 : List (S31)) (a2 : Int) : Option (Int × Int) := (lay_asked.f k a0_0 a0_1 l1 a2).bind fun bt157 => (if bt157.2 = 0 then (if 0 ≤ a2 then (if a2 < (bt157.1.length : Int) then (some ((rd_T103 bt157.1 a2).f0, 0)) else (none)) else (none)) else (some (0, bt157.2)))
theorem lay_Size.mono : ∀ a0 a1 a2 a3 k, LeO (lay_Size.f k a0 a1 a2 a3) (lay_Size.f (k + 1) a0 a1 a2 a3) := by
 intro a0 a1 a2 a3 k
 unfold lay_Size.f
 repeat' first
   | (with_reducible apply lay_asked.mono)
   | (with_reducible apply LeO.refl)
   | (with_reducible apply LeO.none)
   | (with_reducible refine LeO.ite ?_ ?_)
   | (with_reducible refine LeO.bind ?_ (fun _ => ?_))
set_option maxHeartbeats 8000000 in
set_option maxRecDepth 100000 in
theorem lay_Size.calls (k : Nat) (a0_0 : Bool) (a0_1 : Int) (A1 : Option Addr) (c1 : Nat) (l1 : List (S31)) (a2 : Int) (r1 : Int) (r2 : Int) (w : World) (hr1 : Kd.C k31 w A1 l1.length l1) (hc1 : l1.length ≤ c1) (h : lay_Size.f k a0_0 a0_1 l1 a2 = some (r1, r2)) :
  Calls Try.prog 19 #[.agg #[.bool a0_0, .int .i64 a0_1], .slice A1 l1.length c1, .int .i64 a2] w fun e w' => e = .returned (.tuple #[.int .i64 r1, .int .i64 r2]) ∧ Below w.heap.size w w' := by
 have hu29 := Try.underlying29
 have HR1 := Aside0.mk hr1
 have HC1 := Aside0.mk hc1
 clear hr1 hc1
 have HB := Aside0.mk (Below.refl w.heap.size w)
 have H : ((lay_asked.f k a0_0 a0_1 l1 a2).bind fun bt157 => (if bt157.2 = 0 then (if 0 ≤ a2 then (if a2 < (bt157.1.length : Int) then (some ((rd_T103 bt157.1 a2).f0, 0)) else (none)) else (none)) else (some (0, bt157.2)))) = some (r1, r2) := h
 clear h
 replace H := Option.bind_eq_some_iff.mp H
 obtain ⟨⟨t157, t160⟩, A40, H⟩ := H
 replace H : (if t160 = 0 then (if 0 ≤ a2 then (if a2 < (t157.length : Int) then (some ((rd_T103 t157 a2).f0, 0)) else (none)) else (none)) else (some (0, t160))) = some (r1, r2) := H
 have A4 := Aside0.mk A40
 clear A40
 by_cases c5 : t160 = 0
 ·rw [if_pos c5] at H
  have c5b0 : (t160 == 0) = true := beq_iff_eq.mpr c5
  have c5b1 : (t160 != 0) = false := bne_eq_false_iff_eq.mpr c5
  clear c5
  by_cases c6 : 0 ≤ a2
  rotate_left
  ·rw [if_neg c6] at H
   exact absurd H (by simp)
  rw [if_pos c6] at H
  have c6b0 : decide (0 ≤ a2) = true := decide_eq_true c6
  clear c6
  by_cases c7 : a2 < (t157.length : Int)
  rotate_left
  ·rw [if_neg c7] at H
   exact absurd H (by simp)
  rw [if_pos c7] at H
  have c7b0 : decide (a2 < (t157.length : Int)) = true := decide_eq_true c7
  clear c7
  simp only [Option.some.injEq, Prod.mk.injEq] at H
  obtain ⟨rfl, rfl⟩ := H
  go_enter Try.func19, Try.ntmps19
  go_wp2_with (first | ((with_reducible refine gate_dst (N := 3) rfl ?_); refine zbox (N := 3) (cs := #[.bool a0_0, .int .i64 a0_1]) (t := 29) ?_; intro gb156 hg w8 hbox hb; have n0_ := Aside0.mk (below_step (zw0 HB.out) hb); have BK156 := Aside0.mk (hbox); have GW156 := Aside0.mk (zg hg (below_size (zw0 HB.out))); have GE156 := GW156; clear HB; have HB := n0_; clear n0_; clear hb hbox hg; have hcz9_0 := zc BK156.out 0; have hcz9_1 := zc BK156.out 1; have hfz9_0 := blk_frozen BK156.out 0; have hfz9_1 := blk_frozen BK156.out 1) | ((with_reducible refine gate_callee (f := 57) rfl ?_); refine zgo (some 14) Try.func57 #[.agg #[.bool a0_0, .int .i64 a0_1], .slice A1 l1.length c1, .int .i64 a2] ?_; (with_reducible refine (lay_asked.calls k a0_0 a0_1 _ _ l1 a2 t157 t160 _ ?side1 ?side2 A4.out).mono ?_); (case side1 => repeat (first | exact (Kd.C_below HR1.out HB.out) | (with_reducible refine Kd.C_alloc ?_ _) | (with_reducible refine Kd.C_drewN ?_ _) | (with_reducible refine Kd.C_drew ?_))); (case side2 => exact HC1.out); rintro e w10 ⟨v158, rfl, ho0, hb⟩; refine ⟨_, rfl, ?_⟩; have HO159 := Aside0.mk (Kd.R_lower ho0 (below_size (zw1 HB.out GE156.out))); have n1_ := Aside0.mk (zbb BK156.out hb); have n2_ := Aside0.mk (below_step (zw1 HB.out GE156.out) hb); clear BK156 HB; have BK156 := n1_; have HB := n2_; clear n1_ n2_; (try clear hb); (try clear hb2); (try clear hk); (try clear hi); (try clear ho0); obtain ⟨Ao11, co11, eo11⟩ := Kd.R_slice HO159.out; subst eo11; have p161 : 0 ≤ (a2 : Int) := zdec; have q161 : a2 < (t157.length : Int) := zdec; obtain ⟨ad161, e161, hx161_0, hx161_1, hx161_2⟩ := at_T103 (Kd.R_reads' HO159.out).2.2 a2 p161 q161; cases e161; replace p161 := eq_true p161; replace q161 := eq_true q161))
  go_ret2
  exact ⟨ze, zw1 HB.out GE156.out⟩
 ·rw [if_neg c5] at H
  have c5b0 : (t160 == 0) = false := beq_eq_false_iff_ne.mpr c5
  have c5b1 : (t160 != 0) = true := bne_iff_ne.mpr c5
  simp only [Option.some.injEq, Prod.mk.injEq] at H
  obtain ⟨rfl, rfl⟩ := H
  go_enter Try.func19, Try.ntmps19
  go_wp2_with (first | ((with_reducible refine gate_dst (N := 3) rfl ?_); refine zbox (N := 3) (cs := #[.bool a0_0, .int .i64 a0_1]) (t := 29) ?_; intro gb156 hg w12 hbox hb; have n0_ := Aside0.mk (below_step (zw0 HB.out) hb); have BK156 := Aside0.mk (hbox); have GW156 := Aside0.mk (zg hg (below_size (zw0 HB.out))); have GE156 := GW156; clear HB; have HB := n0_; clear n0_; clear hb hbox hg; have hcz13_0 := zc BK156.out 0; have hcz13_1 := zc BK156.out 1; have hfz13_0 := blk_frozen BK156.out 0; have hfz13_1 := blk_frozen BK156.out 1) | ((with_reducible refine gate_callee (f := 57) rfl ?_); refine zgo (some 14) Try.func57 #[.agg #[.bool a0_0, .int .i64 a0_1], .slice A1 l1.length c1, .int .i64 a2] ?_; (with_reducible refine (lay_asked.calls k a0_0 a0_1 _ _ l1 a2 t157 t160 _ ?side1 ?side2 A4.out).mono ?_); (case side1 => repeat (first | exact (Kd.C_below HR1.out HB.out) | (with_reducible refine Kd.C_alloc ?_ _) | (with_reducible refine Kd.C_drewN ?_ _) | (with_reducible refine Kd.C_drew ?_))); (case side2 => exact HC1.out); rintro e w14 ⟨v158, rfl, ho0, hb⟩; refine ⟨_, rfl, ?_⟩; have HO159 := Aside0.mk (Kd.R_lower ho0 (below_size (zw1 HB.out GE156.out))); have n1_ := Aside0.mk (zbb BK156.out hb); have n2_ := Aside0.mk (below_step (zw1 HB.out GE156.out) hb); clear BK156 HB; have BK156 := n1_; have HB := n2_; clear n1_ n2_; (try clear hb); (try clear hb2); (try clear hk); (try clear hi); (try clear ho0)))
  go_ret2
  exact ⟨ze, zw1 HB.out GE156.out⟩

/-! lay_Field -/
def lay_Field.j0 : Nat → List (S31) → Int → ByteArray → List (S103) → Bool → Option (Int × Int × Int)
 | 0, _, _, _, _, _ => none
 | k + 1, x1, x2, x3, x11, x38 => if x38 = true then (some (0, 0, 5)) else (if 0 ≤ x2 then (if x2 < (x1.length : Int) then ((slices_Index_string_string.f k ((rd_T31 x1 x2).f3) x3).bind fun t170 => (if t170 < 0 then (some (0, 0, 6)) else ((lay_offsets.f k ((rd_T31 x1 x2).f0) ((rd_T31 x1 x2).f1) ((rd_T31 x1 x2).f2) ((rd_T31 x1 x2).f3) ((rd_T31 x1 x2).f4) x11).bind fun bt172 => (if 0 ≤ t170 then (if t170 < (bt172.1.length : Int) then (if t170 < (((rd_T31 x1 x2).f4).length : Int) then (some (rd bt172.1 t170, rd ((rd_T31 x1 x2).f4) t170, 0)) else (none)) else (none)) else (none))))) else (none)) else (none))
def lay_Field.f (k : Nat) (a0_0 : Bool) (a0_1 : Int) (l1 : List (S31)) (a2 : Int) (a3 : ByteArray) : Option (Int × Int × Int) := (lay_asked.f k a0_0 a0_1 l1 a2).bind fun bt163 => (if bt163.2 = 0 then (if 0 ≤ a2 then (if a2 < (l1.length : Int) then (if ((rd_T31 l1 a2).f0) = 9 then (lay_Field.j0 k l1 a2 a3 bt163.1 false) else (lay_Field.j0 k l1 a2 a3 bt163.1 (((rd_T31 l1 a2).f0) != 10))) else (none)) else (none)) else (some (0, 0, bt163.2)))
theorem lay_Field.mono_l : ∀ k, (∀ y0 y1 y2 y3 y4, LeO (lay_Field.j0 k y0 y1 y2 y3 y4) (lay_Field.j0 (k + 1) y0 y1 y2 y3 y4))
 | 0 => fun _ _ _ _ _ r h => by simp [lay_Field.j0] at h
 | k + 1 => by
  have ih0 := lay_Field.mono_l k
  ·intro y0 y1 y2 y3 y4
   unfold lay_Field.j0
   repeat' first
   | (with_reducible apply ih0)
   | (with_reducible apply lay_asked.mono)
   | (with_reducible apply lay_offsets.mono)
   | (with_reducible apply slices_Index_string_string.mono)
   | (with_reducible apply LeO.refl)
   | (with_reducible apply LeO.none)
   | (with_reducible refine LeO.ite ?_ ?_)
   | (with_reducible refine LeO.bind ?_ (fun _ => ?_))
theorem lay_Field.mono : ∀ a0 a1 a2 a3 a4 k, LeO (lay_Field.f k a0 a1 a2 a3 a4) (lay_Field.f (k + 1) a0 a1 a2 a3 a4) := by
 intro a0 a1 a2 a3 a4 k
 have ih0 := lay_Field.mono_l k
 unfold lay_Field.f
 repeat' first
   | (with_reducible apply ih0)
   | (with_reducible apply lay_asked.mono)
   | (with_reducible apply lay_offsets.mono)
   | (with_reducible apply slices_Index_string_string.mono)
   | (with_reducible apply LeO.refl)
   | (with_reducible apply LeO.none)
   | (with_reducible refine LeO.ite ?_ ?_)
   | (with_reducible refine LeO.bind ?_ (fun _ => ?_))
set_option maxHeartbeats 8000000 in
set_option maxRecDepth 100000 in
theorem lay_Field.calls (k : Nat) (a0_0 : Bool) (a0_1 : Int) (A1 : Option Addr) (c1 : Nat) (l1 : List (S31)) (a2 : Int) (a3 : ByteArray) (r1 : Int) (r2 : Int) (r3 : Int) (w : World) (hr1 : Kd.C k31 w A1 l1.length l1) (hc1 : l1.length ≤ c1) (h : lay_Field.f k a0_0 a0_1 l1 a2 a3 = some (r1, r2, r3)) :
  Calls Try.prog 21 #[.agg #[.bool a0_0, .int .i64 a0_1], .slice A1 l1.length c1, .int .i64 a2, .string a3] w fun e w' => e = .returned (.tuple #[.int .i64 r1, .int .i64 r2, .int .i64 r3]) ∧ Below w.heap.size w w' := by
 have hu29 := Try.underlying29
 have hu31 := Try.underlying31
 have hu103 := Try.underlying103
 have HR1 := Aside0.mk hr1
 have HC1 := Aside0.mk hc1
 clear hr1 hc1
 have HB := Aside0.mk (Below.refl w.heap.size w)
 have H : ((lay_asked.f k a0_0 a0_1 l1 a2).bind fun bt163 => (if bt163.2 = 0 then (if 0 ≤ a2 then (if a2 < (l1.length : Int) then (if ((rd_T31 l1 a2).f0) = 9 then (lay_Field.j0 k l1 a2 a3 bt163.1 false) else (lay_Field.j0 k l1 a2 a3 bt163.1 (((rd_T31 l1 a2).f0) != 10))) else (none)) else (none)) else (some (0, 0, bt163.2)))) = some (r1, r2, r3) := h
 clear h
 replace H := Option.bind_eq_some_iff.mp H
 obtain ⟨⟨t163, t166⟩, A50, H⟩ := H
 replace H : (if t166 = 0 then (if 0 ≤ a2 then (if a2 < (l1.length : Int) then (if ((rd_T31 l1 a2).f0) = 9 then (lay_Field.j0 k l1 a2 a3 t163 false) else (lay_Field.j0 k l1 a2 a3 t163 (((rd_T31 l1 a2).f0) != 10))) else (none)) else (none)) else (some (0, 0, t166))) = some (r1, r2, r3) := H
 have A5 := Aside0.mk A50
 clear A50
 by_cases c6 : t166 = 0
 ·rw [if_pos c6] at H
  have c6b0 : (t166 == 0) = true := beq_iff_eq.mpr c6
  have c6b1 : (t166 != 0) = false := bne_eq_false_iff_eq.mpr c6
  clear c6
  have HC7 := Aside0.mk H
  clear H
  go_enter Try.func21, Try.ntmps21
  go_upto_region 4 with (first | ((with_reducible refine gate_dst (N := 4) rfl ?_); refine zbox (N := 4) (cs := #[.bool a0_0, .int .i64 a0_1]) (t := 29) ?_; intro gb162 hg w8 hbox hb; have n0_ := Aside0.mk (below_step (zw0 HB.out) hb); have BK162 := Aside0.mk (hbox); have GW162 := Aside0.mk (zg hg (below_size (zw0 HB.out))); have GE162 := GW162; clear HB; have HB := n0_; clear n0_; clear hb hbox hg; have hcz9_0 := zc BK162.out 0; have hcz9_1 := zc BK162.out 1; have hfz9_0 := blk_frozen BK162.out 0; have hfz9_1 := blk_frozen BK162.out 1) | (go_at_call 57; (with_reducible refine (lay_asked.calls k a0_0 a0_1 _ _ l1 a2 t163 t166 _ ?side1 ?side2 A5.out).mono ?_); (case side1 => repeat (first | exact (Kd.C_below HR1.out HB.out) | (with_reducible refine Kd.C_alloc ?_ _) | (with_reducible refine Kd.C_drewN ?_ _) | (with_reducible refine Kd.C_drew ?_))); (case side2 => exact HC1.out); rintro e w10 ⟨v164, rfl, ho0, hb⟩; have HO165 := Aside0.mk (Kd.R_lower ho0 (below_size (zw1 HB.out GE162.out))); have n1_ := Aside0.mk (zbb BK162.out hb); have n2_ := Aside0.mk (below_step (zw1 HB.out GE162.out) hb); clear BK162 HB; have BK162 := n1_; have HB := n2_; clear n1_ n2_; (try clear hb); (try clear hb2); (try clear hk); (try clear hi); (try clear ho0)))
  repeat (go_quiet (first | ((with_reducible refine gate_dst (N := 4) rfl ?_); refine zbox (N := 4) (cs := #[.bool a0_0, .int .i64 a0_1]) (t := 29) ?_; intro gb162 hg w8 hbox hb; have n0_ := Aside0.mk (below_step (zw0 HB.out) hb); have BK162 := Aside0.mk (hbox); have GW162 := Aside0.mk (zg hg (below_size (zw0 HB.out))); have GE162 := GW162; clear HB; have HB := n0_; clear n0_; clear hb hbox hg; have hcz9_0 := zc BK162.out 0; have hcz9_1 := zc BK162.out 1; have hfz9_0 := blk_frozen BK162.out 0; have hfz9_1 := blk_frozen BK162.out 1) | (go_at_call 57; (with_reducible refine (lay_asked.calls k a0_0 a0_1 _ _ l1 a2 t163 t166 _ ?side1 ?side2 A5.out).mono ?_); (case side1 => repeat (first | exact (Kd.C_below HR1.out HB.out) | (with_reducible refine Kd.C_alloc ?_ _) | (with_reducible refine Kd.C_drewN ?_ _) | (with_reducible refine Kd.C_drew ?_))); (case side2 => exact HC1.out); rintro e w10 ⟨v164, rfl, ho0, hb⟩; have HO165 := Aside0.mk (Kd.R_lower ho0 (below_size (zw1 HB.out GE162.out))); have n1_ := Aside0.mk (zbb BK162.out hb); have n2_ := Aside0.mk (below_step (zw1 HB.out GE162.out) hb); clear BK162 HB; have BK162 := n1_; have HB := n2_; clear n1_ n2_; (try clear hb); (try clear hb2); (try clear hk); (try clear hi); (try clear ho0))); go_upto_region 4 with (first | ((with_reducible refine gate_dst (N := 4) rfl ?_); refine zbox (N := 4) (cs := #[.bool a0_0, .int .i64 a0_1]) (t := 29) ?_; intro gb162 hg w8 hbox hb; have n0_ := Aside0.mk (below_step (zw0 HB.out) hb); have BK162 := Aside0.mk (hbox); have GW162 := Aside0.mk (zg hg (below_size (zw0 HB.out))); have GE162 := GW162; clear HB; have HB := n0_; clear n0_; clear hb hbox hg; have hcz9_0 := zc BK162.out 0; have hcz9_1 := zc BK162.out 1; have hfz9_0 := blk_frozen BK162.out 0; have hfz9_1 := blk_frozen BK162.out 1) | (go_at_call 57; (with_reducible refine (lay_asked.calls k a0_0 a0_1 _ _ l1 a2 t163 t166 _ ?side1 ?side2 A5.out).mono ?_); (case side1 => repeat (first | exact (Kd.C_below HR1.out HB.out) | (with_reducible refine Kd.C_alloc ?_ _) | (with_reducible refine Kd.C_drewN ?_ _) | (with_reducible refine Kd.C_drew ?_))); (case side2 => exact HC1.out); rintro e w10 ⟨v164, rfl, ho0, hb⟩; have HO165 := Aside0.mk (Kd.R_lower ho0 (below_size (zw1 HB.out GE162.out))); have n1_ := Aside0.mk (zbb BK162.out hb); have n2_ := Aside0.mk (below_step (zw1 HB.out GE162.out) hb); clear BK162 HB; have BK162 := n1_; have HB := n2_; clear n1_ n2_; (try clear hb); (try clear hb2); (try clear hk); (try clear hi); (try clear ho0))))
  (try simp only [Act.put, List.setIfInBounds_toArray, List.set_cons_zero, List.set_cons_succ])
  go_cut [38] (fun v38 wc => ∃ (kq : Nat) (x38_6 : Bool), v38 = .bool x38_6 ∧ Aside0 (lay_Field.j0 kq l1 a2 a3 t163 x38_6 = some (r1, r2, r3)) ∧ Aside0 (kq ≤ k) ∧ Aside0 (Kd.R k103 103 wc w.heap.size (fun _ => True) v164 t163) ∧ Aside0 (wc.heap[gb162]? = some (.cells #[.bool a0_0, .int .i64 a0_1] 29 (0, 0))) ∧ Aside0 (Below w.heap.size w wc))
  case first =>
   have H := HC7.out
   clear HC7
   by_cases c11 : 0 ≤ a2
   rotate_left
   ·rw [if_neg c11] at H
    exact absurd H (by simp)
   rw [if_pos c11] at H
   have c11b0 : decide (0 ≤ a2) = true := decide_eq_true c11
   clear c11
   (first | rw [c11b0] | (simp only [i64_w, i32_w]; rw [c11b0]) | skip)
   by_cases c12 : a2 < (l1.length : Int)
   rotate_left
   ·rw [if_neg c12] at H
    exact absurd H (by simp)
   rw [if_pos c12] at H
   have c12b0 : decide (a2 < (l1.length : Int)) = true := decide_eq_true c12
   clear c12
   by_cases c13 : ((rd_T31 l1 a2).f0) = 9
   ·rw [if_pos c13] at H
    have c13b0 : (((rd_T31 l1 a2).f0) == 9) = true := beq_iff_eq.mpr c13
    have c13b1 : (((rd_T31 l1 a2).f0) != 9) = false := bne_eq_false_iff_eq.mpr c13
    clear c13
    have H' := Aside0.mk H
    clear H
    have p167 : 0 ≤ (a2 : Int) := zdec
    have q167 : a2 < (l1.length : Int) := zdec
    obtain ⟨ad167, A167_3, c167_3, A167_4, c167_4, e167, hx167_0, hx167_1, hx167_2, hx167_3, hx167_4, hl167_3, hi167_3, hl167_4, hi167_4⟩ := at_T31 HR1.out a2 p167 q167
    cases e167
    replace hx167_0 := zh HB.out hx167_0
    replace hx167_1 := zh HB.out hx167_1
    replace hx167_2 := zh HB.out hx167_2
    replace hx167_3 := zh HB.out hx167_3
    replace hx167_4 := zh HB.out hx167_4
    have HR167_3 := Aside0.mk hi167_3
    have HC167_3 := Aside0.mk hl167_3
    clear hi167_3 hl167_3
    have HR167_4 := Aside0.mk hi167_4
    have HC167_4 := Aside0.mk hl167_4
    clear hi167_4 hl167_4
    replace p167 := eq_true p167
    replace q167 := eq_true q167
    go_wp2
    repeat (go_quiet (fail); try go_wp2)
    go_meet
    case rel => exact ⟨_, (false), (zr), H', ⟨by first | omega | exact Nat.le_refl _⟩, ⟨by (with_reducible repeat (first | apply Kd.R_alloc | apply Kd.R_drewN | apply Kd.R_drew)); exact HO165.out⟩, ⟨zb BK162.out⟩, ⟨zw1 HB.out GE162.out⟩⟩
   rw [if_neg c13] at H
   have c13b0 : (((rd_T31 l1 a2).f0) == 9) = false := beq_eq_false_iff_ne.mpr c13
   have c13b1 : (((rd_T31 l1 a2).f0) != 9) = true := bne_iff_ne.mpr c13
   have H' := Aside0.mk H
   clear H
   have p167 : 0 ≤ (a2 : Int) := zdec
   have q167 : a2 < (l1.length : Int) := zdec
   obtain ⟨ad167, A167_3, c167_3, A167_4, c167_4, e167, hx167_0, hx167_1, hx167_2, hx167_3, hx167_4, hl167_3, hi167_3, hl167_4, hi167_4⟩ := at_T31 HR1.out a2 p167 q167
   cases e167
   replace hx167_0 := zh HB.out hx167_0
   replace hx167_1 := zh HB.out hx167_1
   replace hx167_2 := zh HB.out hx167_2
   replace hx167_3 := zh HB.out hx167_3
   replace hx167_4 := zh HB.out hx167_4
   have HR167_3 := Aside0.mk hi167_3
   have HC167_3 := Aside0.mk hl167_3
   clear hi167_3 hl167_3
   have HR167_4 := Aside0.mk hi167_4
   have HC167_4 := Aside0.mk hl167_4
   clear hi167_4 hl167_4
   replace p167 := eq_true p167
   replace q167 := eq_true q167
   have p168 : 0 ≤ (a2 : Int) := zdec
   have q168 : a2 < (l1.length : Int) := zdec
   obtain ⟨ad168, A168_3, c168_3, A168_4, c168_4, e168, hx168_0, hx168_1, hx168_2, hx168_3, hx168_4, hl168_3, hi168_3, hl168_4, hi168_4⟩ := at_T31 HR1.out a2 p168 q168
   obtain rfl : ad167 = ad168 := (by injection e168)
   replace hx168_0 := zh HB.out hx168_0
   replace hx168_1 := zh HB.out hx168_1
   replace hx168_2 := zh HB.out hx168_2
   replace hx168_3 := zh HB.out hx168_3
   replace hx168_4 := zh HB.out hx168_4
   have HR168_3 := Aside0.mk hi168_3
   have HC168_3 := Aside0.mk hl168_3
   clear hi168_3 hl168_3
   have HR168_4 := Aside0.mk hi168_4
   have HC168_4 := Aside0.mk hl168_4
   clear hi168_4 hl168_4
   replace p168 := eq_true p168
   replace q168 := eq_true q168
   have ea_ := Option.some.inj (hx167_3.symm.trans hx168_3)
   injection ea_ with ea_ en_ ec_
   subst ea_
   subst ec_
   clear en_
   have ea_ := Option.some.inj (hx167_4.symm.trans hx168_4)
   injection ea_ with ea_ en_ ec_
   subst ea_
   subst ec_
   clear en_
   go_wp2
   repeat (go_quiet (fail); try go_wp2)
   go_meet
   case rel => exact ⟨_, ((((rd_T31 l1 a2).f0) != 10)), (zr), H', ⟨by first | omega | exact Nat.le_refl _⟩, ⟨by (with_reducible repeat (first | apply Kd.R_alloc | apply Kd.R_drewN | apply Kd.R_drew)); exact HO165.out⟩, ⟨zb BK162.out⟩, ⟨zw1 HB.out GE162.out⟩⟩
  case rest =>
   clear HC7
   try clear c1; try clear p1; try clear q1; try clear c2; try clear p2; try clear c6; try clear c6b0; try clear c6b1; try clear c11; try clear c11b0; try clear c12; try clear c12b0; try clear c13; try clear c13b0; try clear c13b1; try clear p167; try clear p168; try clear q167; try clear q168
   obtain ⟨kq, x38_6, rfl, HA, HJ6, HO_11, BK162, HB⟩ := hcut
   cases kq with
   | zero => exact absurd HA.out (by simp [lay_Field.j0])
   | succ kj6 =>
    have H := HA.out
    clear HA
    simp only [lay_Field.j0] at H
    by_cases c14 : x38_6 = true
    ·subst c14
     have H1 : (some (0, 0, 5)) = some (r1, r2, r3) := by rw [if_pos rfl] at H; exact H
     clear H
     have H := H1
     clear H1
     simp only [Option.some.injEq, Prod.mk.injEq] at H
     obtain ⟨rfl, rfl, rfl⟩ := H
     go_wp2
     repeat (go_quiet (fail); try go_wp2)
     go_ret3
     exact ⟨ze, zw1 HB.out GE162.out⟩
    replace c14 := Bool.eq_false_iff.mpr c14
    subst c14
    have H1 : (if 0 ≤ a2 then (if a2 < (l1.length : Int) then ((slices_Index_string_string.f kj6 ((rd_T31 l1 a2).f3) a3).bind fun t170 => (if t170 < 0 then (some (0, 0, 6)) else ((lay_offsets.f kj6 ((rd_T31 l1 a2).f0) ((rd_T31 l1 a2).f1) ((rd_T31 l1 a2).f2) ((rd_T31 l1 a2).f3) ((rd_T31 l1 a2).f4) t163).bind fun bt172 => (if 0 ≤ t170 then (if t170 < (bt172.1.length : Int) then (if t170 < (((rd_T31 l1 a2).f4).length : Int) then (some (rd bt172.1 t170, rd ((rd_T31 l1 a2).f4) t170, 0)) else (none)) else (none)) else (none))))) else (none)) else (none)) = some (r1, r2, r3) := by rw [if_neg (show ¬ (false = true) by decide)] at H; exact H
    clear H
    have H := H1
    clear H1
    by_cases c15 : 0 ≤ a2
    rotate_left
    ·rw [if_neg c15] at H
     exact absurd H (by simp)
    rw [if_pos c15] at H
    have c15b0 : decide (0 ≤ a2) = true := decide_eq_true c15
    clear c15
    by_cases c16 : a2 < (l1.length : Int)
    rotate_left
    ·rw [if_neg c16] at H
     exact absurd H (by simp)
    rw [if_pos c16] at H
    have c16b0 : decide (a2 < (l1.length : Int)) = true := decide_eq_true c16
    clear c16
    replace H := Option.bind_eq_some_iff.mp H
    obtain ⟨t170, A170, H⟩ := H
    replace H : (if t170 < 0 then (some (0, 0, 6)) else ((lay_offsets.f kj6 ((rd_T31 l1 a2).f0) ((rd_T31 l1 a2).f1) ((rd_T31 l1 a2).f2) ((rd_T31 l1 a2).f3) ((rd_T31 l1 a2).f4) t163).bind fun bt172 => (if 0 ≤ t170 then (if t170 < (bt172.1.length : Int) then (if t170 < (((rd_T31 l1 a2).f4).length : Int) then (some (rd bt172.1 t170, rd ((rd_T31 l1 a2).f4) t170, 0)) else (none)) else (none)) else (none)))) = some (r1, r2, r3) := H
    have A17 := Aside0.mk A170
    clear A170
    by_cases c18 : t170 < 0
    ·rw [if_pos c18] at H
     have c18b0 : decide (t170 < 0) = true := decide_eq_true c18
     clear c18
     simp only [Option.some.injEq, Prod.mk.injEq] at H
     obtain ⟨rfl, rfl, rfl⟩ := H
     have p169 : 0 ≤ (a2 : Int) := zdec
     have q169 : a2 < (l1.length : Int) := zdec
     obtain ⟨ad169, A169_3, c169_3, A169_4, c169_4, e169, hx169_0, hx169_1, hx169_2, hx169_3, hx169_4, hl169_3, hi169_3, hl169_4, hi169_4⟩ := at_T31 HR1.out a2 p169 q169
     cases e169
     replace hx169_0 := zh HB.out hx169_0
     replace hx169_1 := zh HB.out hx169_1
     replace hx169_2 := zh HB.out hx169_2
     replace hx169_3 := zh HB.out hx169_3
     replace hx169_4 := zh HB.out hx169_4
     have HR169_3 := Aside0.mk hi169_3
     have HC169_3 := Aside0.mk hl169_3
     clear hi169_3 hl169_3
     have HR169_4 := Aside0.mk hi169_4
     have HC169_4 := Aside0.mk hl169_4
     clear hi169_4 hl169_4
     replace p169 := eq_true p169
     replace q169 := eq_true q169
     go_wp2_with (first | (go_at_call 58; (with_reducible refine (slices_Index_string_string.calls kj6 _ _ ((rd_T31 l1 a2).f3) a3 t170 _ ?side1 ?side2 A17.out).mono ?_); (case side1 => repeat (first | exact (Kd.C_below HR169_3.out HB.out) | (with_reducible refine Kd.C_alloc ?_ _) | (with_reducible refine Kd.C_drewN ?_ _) | (with_reducible refine Kd.C_drew ?_))); (case side2 => exact HC169_3.out); rintro e w' ⟨rfl, ⟨nd, rfl⟩⟩; (try first | exact ⟨rfl, _, World.drewN_drewN _ _ _⟩ | exact ⟨rfl, _, Eq.trans (World.drewN_drewN _ _ _) (congrArg (World.drewN _) (Nat.add_assoc _ _ _))⟩)))
     repeat (go_quiet (first | (go_at_call 58; (with_reducible refine (slices_Index_string_string.calls kj6 _ _ ((rd_T31 l1 a2).f3) a3 t170 _ ?side1 ?side2 A17.out).mono ?_); (case side1 => repeat (first | exact (Kd.C_below HR169_3.out HB.out) | (with_reducible refine Kd.C_alloc ?_ _) | (with_reducible refine Kd.C_drewN ?_ _) | (with_reducible refine Kd.C_drew ?_))); (case side2 => exact HC169_3.out); rintro e w' ⟨rfl, ⟨nd, rfl⟩⟩; (try first | exact ⟨rfl, _, World.drewN_drewN _ _ _⟩ | exact ⟨rfl, _, Eq.trans (World.drewN_drewN _ _ _) (congrArg (World.drewN _) (Nat.add_assoc _ _ _))⟩))); try go_wp2_with (first | (go_at_call 58; (with_reducible refine (slices_Index_string_string.calls kj6 _ _ ((rd_T31 l1 a2).f3) a3 t170 _ ?side1 ?side2 A17.out).mono ?_); (case side1 => repeat (first | exact (Kd.C_below HR169_3.out HB.out) | (with_reducible refine Kd.C_alloc ?_ _) | (with_reducible refine Kd.C_drewN ?_ _) | (with_reducible refine Kd.C_drew ?_))); (case side2 => exact HC169_3.out); rintro e w' ⟨rfl, ⟨nd, rfl⟩⟩; (try first | exact ⟨rfl, _, World.drewN_drewN _ _ _⟩ | exact ⟨rfl, _, Eq.trans (World.drewN_drewN _ _ _) (congrArg (World.drewN _) (Nat.add_assoc _ _ _))⟩))))
     go_ret3
     exact ⟨ze, zw1 HB.out GE162.out⟩
    rw [if_neg c18] at H
    have c18b0 : decide (t170 < 0) = false := decide_eq_false c18
    clear c18
    replace H := Option.bind_eq_some_iff.mp H
    obtain ⟨⟨t172, t175, t176, t177⟩, A190, H⟩ := H
    replace H : (if 0 ≤ t170 then (if t170 < (t172.length : Int) then (if t170 < (((rd_T31 l1 a2).f4).length : Int) then (some (rd t172 t170, rd ((rd_T31 l1 a2).f4) t170, 0)) else (none)) else (none)) else (none)) = some (r1, r2, r3) := H
    have A19 := Aside0.mk A190
    clear A190
    by_cases c20 : 0 ≤ t170
    rotate_left
    ·rw [if_neg c20] at H
     exact absurd H (by simp)
    rw [if_pos c20] at H
    have c20b0 : decide (0 ≤ t170) = true := decide_eq_true c20
    clear c20
    by_cases c21 : t170 < (t172.length : Int)
    rotate_left
    ·rw [if_neg c21] at H
     exact absurd H (by simp)
    rw [if_pos c21] at H
    have c21b0 : decide (t170 < (t172.length : Int)) = true := decide_eq_true c21
    clear c21
    by_cases c22 : t170 < (((rd_T31 l1 a2).f4).length : Int)
    rotate_left
    ·rw [if_neg c22] at H
     exact absurd H (by simp)
    rw [if_pos c22] at H
    have c22b0 : decide (t170 < (((rd_T31 l1 a2).f4).length : Int)) = true := decide_eq_true c22
    clear c22
    simp only [Option.some.injEq, Prod.mk.injEq] at H
    obtain ⟨rfl, rfl, rfl⟩ := H
    have p169 : 0 ≤ (a2 : Int) := zdec
    have q169 : a2 < (l1.length : Int) := zdec
    obtain ⟨ad169, A169_3, c169_3, A169_4, c169_4, e169, hx169_0, hx169_1, hx169_2, hx169_3, hx169_4, hl169_3, hi169_3, hl169_4, hi169_4⟩ := at_T31 HR1.out a2 p169 q169
    cases e169
    replace hx169_0 := zh HB.out hx169_0
    replace hx169_1 := zh HB.out hx169_1
    replace hx169_2 := zh HB.out hx169_2
    replace hx169_3 := zh HB.out hx169_3
    replace hx169_4 := zh HB.out hx169_4
    have HR169_3 := Aside0.mk hi169_3
    have HC169_3 := Aside0.mk hl169_3
    clear hi169_3 hl169_3
    have HR169_4 := Aside0.mk hi169_4
    have HC169_4 := Aside0.mk hl169_4
    clear hi169_4 hl169_4
    replace p169 := eq_true p169
    replace q169 := eq_true q169
    go_wp2_with (first | (go_at_call 58; (with_reducible refine (slices_Index_string_string.calls kj6 _ _ ((rd_T31 l1 a2).f3) a3 t170 _ ?side1 ?side2 A17.out).mono ?_); (case side1 => repeat (first | exact (Kd.C_below HR169_3.out HB.out) | (with_reducible refine Kd.C_alloc ?_ _) | (with_reducible refine Kd.C_drewN ?_ _) | (with_reducible refine Kd.C_drew ?_))); (case side2 => exact HC169_3.out); rintro e w' ⟨rfl, ⟨nd, rfl⟩⟩; (try first | exact ⟨rfl, _, World.drewN_drewN _ _ _⟩ | exact ⟨rfl, _, Eq.trans (World.drewN_drewN _ _ _) (congrArg (World.drewN _) (Nat.add_assoc _ _ _))⟩); have p171 : 0 ≤ (a2 : Int) := zdec; have q171 : a2 < (l1.length : Int) := zdec; obtain ⟨ad171, A171_3, c171_3, A171_4, c171_4, e171, hx171_0, hx171_1, hx171_2, hx171_3, hx171_4, hl171_3, hi171_3, hl171_4, hi171_4⟩ := at_T31 HR1.out a2 p171 q171; obtain rfl : ad169 = ad171 := (by injection e171); replace hx171_0 := zh HB.out hx171_0; replace hx171_1 := zh HB.out hx171_1; replace hx171_2 := zh HB.out hx171_2; replace hx171_3 := zh HB.out hx171_3; replace hx171_4 := zh HB.out hx171_4; have HR171_3 := Aside0.mk hi171_3; have HC171_3 := Aside0.mk hl171_3; clear hi171_3 hl171_3; have HR171_4 := Aside0.mk hi171_4; have HC171_4 := Aside0.mk hl171_4; clear hi171_4 hl171_4; replace p171 := eq_true p171; replace q171 := eq_true q171; have ea_ := Option.some.inj (hx169_3.symm.trans hx171_3); injection ea_ with ea_ en_ ec_; subst ea_; subst ec_; clear en_; have ea_ := Option.some.inj (hx169_4.symm.trans hx171_4); injection ea_ with ea_ en_ ec_; subst ea_; subst ec_; clear en_; obtain ⟨Ao23, co23, eo23⟩ := Kd.R_slice HO_11.out; subst eo23) | (go_at_call 59; (with_reducible refine (lay_offsets.calls kj6 ((rd_T31 l1 a2).f0) ((rd_T31 l1 a2).f1) ((rd_T31 l1 a2).f2) _ _ ((rd_T31 l1 a2).f3) _ _ ((rd_T31 l1 a2).f4) _ _ t163 t172 t175 t176 t177 _ ?side1 ?side2 ?side3 ?side4 ?side5 ?side6 A19.out).mono ?_); (case side1 => repeat (first | exact (Kd.C_below HR171_3.out (zw1 HB.out GE162.out)) | (with_reducible refine Kd.C_alloc ?_ _) | (with_reducible refine Kd.C_drewN ?_ _) | (with_reducible refine Kd.C_drew ?_))); (case side2 => exact HC171_3.out); (case side3 => repeat (first | exact (Kd.C_below HR171_4.out (zw1 HB.out GE162.out)) | (with_reducible refine Kd.C_alloc ?_ _) | (with_reducible refine Kd.C_drewN ?_ _) | (with_reducible refine Kd.C_drew ?_))); (case side4 => exact HC171_4.out); (case side5 => repeat (first | exact (Kd.R_reads' HO_11.out).2.2 | (with_reducible refine Kd.C_alloc ?_ _) | (with_reducible refine Kd.C_drewN ?_ _) | (with_reducible refine Kd.C_drew ?_))); (case side6 => exact (Kd.R_reads' HO_11.out).2.1); rintro e w24 ⟨v173, rfl, ho0, hb⟩; have n0_ := Aside0.mk (Kd.R_below (by (with_reducible repeat (first | apply Kd.R_alloc | apply Kd.R_drewN | apply Kd.R_drew)); exact HO_11.out) hb); have HO174 := Aside0.mk (Kd.R_lower ho0 (below_size (zw1 HB.out GE162.out))); have n2_ := Aside0.mk (zbb BK162.out hb); have n3_ := Aside0.mk (below_step (zw1 HB.out GE162.out) hb); clear HO_11 BK162 HB; have HO_11 := n0_; have BK162 := n2_; have HB := n3_; clear n0_ n2_ n3_; (try clear hb); (try clear hb2); (try clear hk); (try clear hi); (try clear ho0)) | ((with_reducible refine gate_dst (N := 14) rfl ?_); refine zbox (N := 14) (cs := #[.int .i64 0, .int .i64 0, .int .i64 0]) (t := 103) ?_; intro gb178 hg w25 hbox hb; have n0_ := Aside0.mk (Kd.R_below (Kd.R_elderB (by (with_reducible repeat (first | apply Kd.R_alloc | apply Kd.R_drewN | apply Kd.R_drew)); exact HO_11.out) gb178 (Nat.le_of_eq hg.symm)) hb); have n1_ := Aside0.mk (Kd.R_below (by (with_reducible repeat (first | apply Kd.R_alloc | apply Kd.R_drewN | apply Kd.R_drew)); exact HO174.out) hb); have n2_ := Aside0.mk (zbb BK162.out hb); have n3_ := Aside0.mk (below_step (zw1 HB.out GE162.out) hb); have BK178 := Aside0.mk (hbox); have GW178 := Aside0.mk (zg hg (below_size (zw1 HB.out GE162.out))); have GE178 := GW178; have NB162_178 := Aside0.mk (zlt hg BK162.out); have NB178_162 := Aside0.mk (zgt hg BK162.out); clear HO_11 HO174 BK162 HB; have HO_11 := n0_; have HO174 := n1_; have BK162 := n2_; have HB := n3_; clear n0_ n1_ n2_ n3_; clear hb hbox hg; have hnb26 := NB178_162.out; have hnc26 := NB162_178.out; have hcz27_0 := zc BK178.out 0; have hcz27_1 := zc BK178.out 1; have hcz27_2 := zc BK178.out 2; have hfz27_0 := blk_frozen BK178.out 0; have hfz27_1 := blk_frozen BK178.out 1; have hfz27_2 := blk_frozen BK178.out 2; obtain ⟨Ao28, co28, eo28⟩ := Kd.R_slice HO174.out; subst eo28; have p179 : 0 ≤ (t170 : Int) := zdec; have q179 : t170 < (t172.length : Int) := zdec; obtain ⟨ad179, e179, hx179_0⟩ := Kd.at_int (Kd.R_reads' HO174.out).2.2 t170 p179 q179; cases e179; have hn179_0 : ad179.block ≠ gb178 := Kd.own_blk (Kd.R_ne HO174.out BK178.out (by decide)); have hn179_1 : ad179.block ≠ gb178 := Kd.own_blk (Kd.R_ne HO174.out BK178.out (by decide)); have hn179_2 : ad179.block ≠ gb178 := Kd.own_blk (Kd.R_ne HO174.out BK178.out (by decide)); replace hx179_0 := (cell_far (p := ⟨gb178, 0, none⟩) (zy hn179_0) (.int .i64 t175)).trans hx179_0; replace hx179_0 := (cell_far (p := ⟨gb178, 1, none⟩) (zy hn179_1) (.int .i64 t176)).trans hx179_0; replace hx179_0 := (cell_far (p := ⟨gb178, 2, none⟩) (zy hn179_2) (.int .i64 t177)).trans hx179_0; (try have hy179_0 := fun (n_ : Nat) => (show (((((w25.drewN n_).setCell ⟨gb178, 0, none⟩ (.int .i64 t175)).setCell ⟨gb178, 1, none⟩ (.int .i64 t176)).setCell ⟨gb178, 2, none⟩ (.int .i64 t177))).cell? _ = some _ from hx179_0)); clear hn179_0; clear hn179_1; clear hn179_2; replace p179 := eq_true p179; replace q179 := eq_true q179; have p180 : 0 ≤ (a2 : Int) := zdec; have q180 : a2 < (l1.length : Int) := zdec; obtain ⟨ad180, A180_3, c180_3, A180_4, c180_4, e180, hx180_0, hx180_1, hx180_2, hx180_3, hx180_4, hl180_3, hi180_3, hl180_4, hi180_4⟩ := at_T31 HR1.out a2 p180 q180; obtain rfl : ad169 = ad180 := (by injection e180); have hn180_0 : ad169.block ≠ gb178 := zx (zfar hx180_0 GW178.out); have hn180_1 : ad169.block ≠ gb178 := zx (zfar hx180_0 GW178.out); have hn180_2 : ad169.block ≠ gb178 := zx (zfar hx180_0 GW178.out); replace hx180_0 := zh HB.out hx180_0; replace hx180_1 := zh HB.out hx180_1; replace hx180_2 := zh HB.out hx180_2; replace hx180_3 := zh HB.out hx180_3; replace hx180_4 := zh HB.out hx180_4; have HR180_3 := Aside0.mk hi180_3; have HC180_3 := Aside0.mk hl180_3; clear hi180_3 hl180_3; have HR180_4 := Aside0.mk hi180_4; have HC180_4 := Aside0.mk hl180_4; clear hi180_4 hl180_4; replace hx180_0 := (cell_far (p := ⟨gb178, 0, none⟩) (zy hn180_0) (.int .i64 t175)).trans hx180_0; replace hx180_1 := (cell_far (p := ⟨gb178, 0, none⟩) (zy hn180_0) (.int .i64 t175)).trans hx180_1; replace hx180_2 := (cell_far (p := ⟨gb178, 0, none⟩) (zy hn180_0) (.int .i64 t175)).trans hx180_2; replace hx180_3 := (cell_far (p := ⟨gb178, 0, none⟩) (zy hn180_0) (.int .i64 t175)).trans hx180_3; replace hx180_4 := (cell_far (p := ⟨gb178, 0, none⟩) (zy hn180_0) (.int .i64 t175)).trans hx180_4; replace hx180_0 := (cell_far (p := ⟨gb178, 1, none⟩) (zy hn180_1) (.int .i64 t176)).trans hx180_0; replace hx180_1 := (cell_far (p := ⟨gb178, 1, none⟩) (zy hn180_1) (.int .i64 t176)).trans hx180_1; replace hx180_2 := (cell_far (p := ⟨gb178, 1, none⟩) (zy hn180_1) (.int .i64 t176)).trans hx180_2; replace hx180_3 := (cell_far (p := ⟨gb178, 1, none⟩) (zy hn180_1) (.int .i64 t176)).trans hx180_3; replace hx180_4 := (cell_far (p := ⟨gb178, 1, none⟩) (zy hn180_1) (.int .i64 t176)).trans hx180_4; replace hx180_0 := (cell_far (p := ⟨gb178, 2, none⟩) (zy hn180_2) (.int .i64 t177)).trans hx180_0; replace hx180_1 := (cell_far (p := ⟨gb178, 2, none⟩) (zy hn180_2) (.int .i64 t177)).trans hx180_1; replace hx180_2 := (cell_far (p := ⟨gb178, 2, none⟩) (zy hn180_2) (.int .i64 t177)).trans hx180_2; replace hx180_3 := (cell_far (p := ⟨gb178, 2, none⟩) (zy hn180_2) (.int .i64 t177)).trans hx180_3; replace hx180_4 := (cell_far (p := ⟨gb178, 2, none⟩) (zy hn180_2) (.int .i64 t177)).trans hx180_4; (try have hy180_0 := fun (n_ : Nat) => (show (((((w25.drewN n_).setCell ⟨gb178, 0, none⟩ (.int .i64 t175)).setCell ⟨gb178, 1, none⟩ (.int .i64 t176)).setCell ⟨gb178, 2, none⟩ (.int .i64 t177))).cell? _ = some _ from hx180_0)); (try have hy180_1 := fun (n_ : Nat) => (show (((((w25.drewN n_).setCell ⟨gb178, 0, none⟩ (.int .i64 t175)).setCell ⟨gb178, 1, none⟩ (.int .i64 t176)).setCell ⟨gb178, 2, none⟩ (.int .i64 t177))).cell? _ = some _ from hx180_1)); (try have hy180_2 := fun (n_ : Nat) => (show (((((w25.drewN n_).setCell ⟨gb178, 0, none⟩ (.int .i64 t175)).setCell ⟨gb178, 1, none⟩ (.int .i64 t176)).setCell ⟨gb178, 2, none⟩ (.int .i64 t177))).cell? _ = some _ from hx180_2)); (try have hy180_3 := fun (n_ : Nat) => (show (((((w25.drewN n_).setCell ⟨gb178, 0, none⟩ (.int .i64 t175)).setCell ⟨gb178, 1, none⟩ (.int .i64 t176)).setCell ⟨gb178, 2, none⟩ (.int .i64 t177))).cell? _ = some _ from hx180_3)); (try have hy180_4 := fun (n_ : Nat) => (show (((((w25.drewN n_).setCell ⟨gb178, 0, none⟩ (.int .i64 t175)).setCell ⟨gb178, 1, none⟩ (.int .i64 t176)).setCell ⟨gb178, 2, none⟩ (.int .i64 t177))).cell? _ = some _ from hx180_4)); clear hn180_0; clear hn180_1; clear hn180_2; replace p180 := eq_true p180; replace q180 := eq_true q180; have p181 : 0 ≤ (t170 : Int) := zdec; have q181 : t170 < (((rd_T31 l1 a2).f4).length : Int) := zdec; obtain ⟨ad181, e181, hx181_0⟩ := Kd.at_int HR180_4.out t170 p181 q181; cases e181; have hn181_0 : ad181.block ≠ gb178 := zx (zfar hx181_0 GW178.out); have hn181_1 : ad181.block ≠ gb178 := zx (zfar hx181_0 GW178.out); have hn181_2 : ad181.block ≠ gb178 := zx (zfar hx181_0 GW178.out); replace hx181_0 := zh HB.out hx181_0; replace hx181_0 := (cell_far (p := ⟨gb178, 0, none⟩) (zy hn181_0) (.int .i64 t175)).trans hx181_0; replace hx181_0 := (cell_far (p := ⟨gb178, 1, none⟩) (zy hn181_1) (.int .i64 t176)).trans hx181_0; replace hx181_0 := (cell_far (p := ⟨gb178, 2, none⟩) (zy hn181_2) (.int .i64 t177)).trans hx181_0; (try have hy181_0 := fun (n_ : Nat) => (show (((((w25.drewN n_).setCell ⟨gb178, 0, none⟩ (.int .i64 t175)).setCell ⟨gb178, 1, none⟩ (.int .i64 t176)).setCell ⟨gb178, 2, none⟩ (.int .i64 t177))).cell? _ = some _ from hx181_0)); clear hn181_0; clear hn181_1; clear hn181_2; replace p181 := eq_true p181; replace q181 := eq_true q181))
    repeat (go_quiet (first | (go_at_call 58; (with_reducible refine (slices_Index_string_string.calls kj6 _ _ ((rd_T31 l1 a2).f3) a3 t170 _ ?side1 ?side2 A17.out).mono ?_); (case side1 => repeat (first | exact (Kd.C_below HR169_3.out HB.out) | (with_reducible refine Kd.C_alloc ?_ _) | (with_reducible refine Kd.C_drewN ?_ _) | (with_reducible refine Kd.C_drew ?_))); (case side2 => exact HC169_3.out); rintro e w' ⟨rfl, ⟨nd, rfl⟩⟩; (try first | exact ⟨rfl, _, World.drewN_drewN _ _ _⟩ | exact ⟨rfl, _, Eq.trans (World.drewN_drewN _ _ _) (congrArg (World.drewN _) (Nat.add_assoc _ _ _))⟩); have p171 : 0 ≤ (a2 : Int) := zdec; have q171 : a2 < (l1.length : Int) := zdec; obtain ⟨ad171, A171_3, c171_3, A171_4, c171_4, e171, hx171_0, hx171_1, hx171_2, hx171_3, hx171_4, hl171_3, hi171_3, hl171_4, hi171_4⟩ := at_T31 HR1.out a2 p171 q171; obtain rfl : ad169 = ad171 := (by injection e171); replace hx171_0 := zh HB.out hx171_0; replace hx171_1 := zh HB.out hx171_1; replace hx171_2 := zh HB.out hx171_2; replace hx171_3 := zh HB.out hx171_3; replace hx171_4 := zh HB.out hx171_4; have HR171_3 := Aside0.mk hi171_3; have HC171_3 := Aside0.mk hl171_3; clear hi171_3 hl171_3; have HR171_4 := Aside0.mk hi171_4; have HC171_4 := Aside0.mk hl171_4; clear hi171_4 hl171_4; replace p171 := eq_true p171; replace q171 := eq_true q171; have ea_ := Option.some.inj (hx169_3.symm.trans hx171_3); injection ea_ with ea_ en_ ec_; subst ea_; subst ec_; clear en_; have ea_ := Option.some.inj (hx169_4.symm.trans hx171_4); injection ea_ with ea_ en_ ec_; subst ea_; subst ec_; clear en_; obtain ⟨Ao23, co23, eo23⟩ := Kd.R_slice HO_11.out; subst eo23) | (go_at_call 59; (with_reducible refine (lay_offsets.calls kj6 ((rd_T31 l1 a2).f0) ((rd_T31 l1 a2).f1) ((rd_T31 l1 a2).f2) _ _ ((rd_T31 l1 a2).f3) _ _ ((rd_T31 l1 a2).f4) _ _ t163 t172 t175 t176 t177 _ ?side1 ?side2 ?side3 ?side4 ?side5 ?side6 A19.out).mono ?_); (case side1 => repeat (first | exact (Kd.C_below HR171_3.out (zw1 HB.out GE162.out)) | (with_reducible refine Kd.C_alloc ?_ _) | (with_reducible refine Kd.C_drewN ?_ _) | (with_reducible refine Kd.C_drew ?_))); (case side2 => exact HC171_3.out); (case side3 => repeat (first | exact (Kd.C_below HR171_4.out (zw1 HB.out GE162.out)) | (with_reducible refine Kd.C_alloc ?_ _) | (with_reducible refine Kd.C_drewN ?_ _) | (with_reducible refine Kd.C_drew ?_))); (case side4 => exact HC171_4.out); (case side5 => repeat (first | exact (Kd.R_reads' HO_11.out).2.2 | (with_reducible refine Kd.C_alloc ?_ _) | (with_reducible refine Kd.C_drewN ?_ _) | (with_reducible refine Kd.C_drew ?_))); (case side6 => exact (Kd.R_reads' HO_11.out).2.1); rintro e w24 ⟨v173, rfl, ho0, hb⟩; have n0_ := Aside0.mk (Kd.R_below (by (with_reducible repeat (first | apply Kd.R_alloc | apply Kd.R_drewN | apply Kd.R_drew)); exact HO_11.out) hb); have HO174 := Aside0.mk (Kd.R_lower ho0 (below_size (zw1 HB.out GE162.out))); have n2_ := Aside0.mk (zbb BK162.out hb); have n3_ := Aside0.mk (below_step (zw1 HB.out GE162.out) hb); clear HO_11 BK162 HB; have HO_11 := n0_; have BK162 := n2_; have HB := n3_; clear n0_ n2_ n3_; (try clear hb); (try clear hb2); (try clear hk); (try clear hi); (try clear ho0)) | ((with_reducible refine gate_dst (N := 14) rfl ?_); refine zbox (N := 14) (cs := #[.int .i64 0, .int .i64 0, .int .i64 0]) (t := 103) ?_; intro gb178 hg w25 hbox hb; have n0_ := Aside0.mk (Kd.R_below (Kd.R_elderB (by (with_reducible repeat (first | apply Kd.R_alloc | apply Kd.R_drewN | apply Kd.R_drew)); exact HO_11.out) gb178 (Nat.le_of_eq hg.symm)) hb); have n1_ := Aside0.mk (Kd.R_below (by (with_reducible repeat (first | apply Kd.R_alloc | apply Kd.R_drewN | apply Kd.R_drew)); exact HO174.out) hb); have n2_ := Aside0.mk (zbb BK162.out hb); have n3_ := Aside0.mk (below_step (zw1 HB.out GE162.out) hb); have BK178 := Aside0.mk (hbox); have GW178 := Aside0.mk (zg hg (below_size (zw1 HB.out GE162.out))); have GE178 := GW178; have NB162_178 := Aside0.mk (zlt hg BK162.out); have NB178_162 := Aside0.mk (zgt hg BK162.out); clear HO_11 HO174 BK162 HB; have HO_11 := n0_; have HO174 := n1_; have BK162 := n2_; have HB := n3_; clear n0_ n1_ n2_ n3_; clear hb hbox hg; have hnb26 := NB178_162.out; have hnc26 := NB162_178.out; have hcz27_0 := zc BK178.out 0; have hcz27_1 := zc BK178.out 1; have hcz27_2 := zc BK178.out 2; have hfz27_0 := blk_frozen BK178.out 0; have hfz27_1 := blk_frozen BK178.out 1; have hfz27_2 := blk_frozen BK178.out 2; obtain ⟨Ao28, co28, eo28⟩ := Kd.R_slice HO174.out; subst eo28; have p179 : 0 ≤ (t170 : Int) := zdec; have q179 : t170 < (t172.length : Int) := zdec; obtain ⟨ad179, e179, hx179_0⟩ := Kd.at_int (Kd.R_reads' HO174.out).2.2 t170 p179 q179; cases e179; have hn179_0 : ad179.block ≠ gb178 := Kd.own_blk (Kd.R_ne HO174.out BK178.out (by decide)); have hn179_1 : ad179.block ≠ gb178 := Kd.own_blk (Kd.R_ne HO174.out BK178.out (by decide)); have hn179_2 : ad179.block ≠ gb178 := Kd.own_blk (Kd.R_ne HO174.out BK178.out (by decide)); replace hx179_0 := (cell_far (p := ⟨gb178, 0, none⟩) (zy hn179_0) (.int .i64 t175)).trans hx179_0; replace hx179_0 := (cell_far (p := ⟨gb178, 1, none⟩) (zy hn179_1) (.int .i64 t176)).trans hx179_0; replace hx179_0 := (cell_far (p := ⟨gb178, 2, none⟩) (zy hn179_2) (.int .i64 t177)).trans hx179_0; (try have hy179_0 := fun (n_ : Nat) => (show (((((w25.drewN n_).setCell ⟨gb178, 0, none⟩ (.int .i64 t175)).setCell ⟨gb178, 1, none⟩ (.int .i64 t176)).setCell ⟨gb178, 2, none⟩ (.int .i64 t177))).cell? _ = some _ from hx179_0)); clear hn179_0; clear hn179_1; clear hn179_2; replace p179 := eq_true p179; replace q179 := eq_true q179; have p180 : 0 ≤ (a2 : Int) := zdec; have q180 : a2 < (l1.length : Int) := zdec; obtain ⟨ad180, A180_3, c180_3, A180_4, c180_4, e180, hx180_0, hx180_1, hx180_2, hx180_3, hx180_4, hl180_3, hi180_3, hl180_4, hi180_4⟩ := at_T31 HR1.out a2 p180 q180; obtain rfl : ad169 = ad180 := (by injection e180); have hn180_0 : ad169.block ≠ gb178 := zx (zfar hx180_0 GW178.out); have hn180_1 : ad169.block ≠ gb178 := zx (zfar hx180_0 GW178.out); have hn180_2 : ad169.block ≠ gb178 := zx (zfar hx180_0 GW178.out); replace hx180_0 := zh HB.out hx180_0; replace hx180_1 := zh HB.out hx180_1; replace hx180_2 := zh HB.out hx180_2; replace hx180_3 := zh HB.out hx180_3; replace hx180_4 := zh HB.out hx180_4; have HR180_3 := Aside0.mk hi180_3; have HC180_3 := Aside0.mk hl180_3; clear hi180_3 hl180_3; have HR180_4 := Aside0.mk hi180_4; have HC180_4 := Aside0.mk hl180_4; clear hi180_4 hl180_4; replace hx180_0 := (cell_far (p := ⟨gb178, 0, none⟩) (zy hn180_0) (.int .i64 t175)).trans hx180_0; replace hx180_1 := (cell_far (p := ⟨gb178, 0, none⟩) (zy hn180_0) (.int .i64 t175)).trans hx180_1; replace hx180_2 := (cell_far (p := ⟨gb178, 0, none⟩) (zy hn180_0) (.int .i64 t175)).trans hx180_2; replace hx180_3 := (cell_far (p := ⟨gb178, 0, none⟩) (zy hn180_0) (.int .i64 t175)).trans hx180_3; replace hx180_4 := (cell_far (p := ⟨gb178, 0, none⟩) (zy hn180_0) (.int .i64 t175)).trans hx180_4; replace hx180_0 := (cell_far (p := ⟨gb178, 1, none⟩) (zy hn180_1) (.int .i64 t176)).trans hx180_0; replace hx180_1 := (cell_far (p := ⟨gb178, 1, none⟩) (zy hn180_1) (.int .i64 t176)).trans hx180_1; replace hx180_2 := (cell_far (p := ⟨gb178, 1, none⟩) (zy hn180_1) (.int .i64 t176)).trans hx180_2; replace hx180_3 := (cell_far (p := ⟨gb178, 1, none⟩) (zy hn180_1) (.int .i64 t176)).trans hx180_3; replace hx180_4 := (cell_far (p := ⟨gb178, 1, none⟩) (zy hn180_1) (.int .i64 t176)).trans hx180_4; replace hx180_0 := (cell_far (p := ⟨gb178, 2, none⟩) (zy hn180_2) (.int .i64 t177)).trans hx180_0; replace hx180_1 := (cell_far (p := ⟨gb178, 2, none⟩) (zy hn180_2) (.int .i64 t177)).trans hx180_1; replace hx180_2 := (cell_far (p := ⟨gb178, 2, none⟩) (zy hn180_2) (.int .i64 t177)).trans hx180_2; replace hx180_3 := (cell_far (p := ⟨gb178, 2, none⟩) (zy hn180_2) (.int .i64 t177)).trans hx180_3; replace hx180_4 := (cell_far (p := ⟨gb178, 2, none⟩) (zy hn180_2) (.int .i64 t177)).trans hx180_4; (try have hy180_0 := fun (n_ : Nat) => (show (((((w25.drewN n_).setCell ⟨gb178, 0, none⟩ (.int .i64 t175)).setCell ⟨gb178, 1, none⟩ (.int .i64 t176)).setCell ⟨gb178, 2, none⟩ (.int .i64 t177))).cell? _ = some _ from hx180_0)); (try have hy180_1 := fun (n_ : Nat) => (show (((((w25.drewN n_).setCell ⟨gb178, 0, none⟩ (.int .i64 t175)).setCell ⟨gb178, 1, none⟩ (.int .i64 t176)).setCell ⟨gb178, 2, none⟩ (.int .i64 t177))).cell? _ = some _ from hx180_1)); (try have hy180_2 := fun (n_ : Nat) => (show (((((w25.drewN n_).setCell ⟨gb178, 0, none⟩ (.int .i64 t175)).setCell ⟨gb178, 1, none⟩ (.int .i64 t176)).setCell ⟨gb178, 2, none⟩ (.int .i64 t177))).cell? _ = some _ from hx180_2)); (try have hy180_3 := fun (n_ : Nat) => (show (((((w25.drewN n_).setCell ⟨gb178, 0, none⟩ (.int .i64 t175)).setCell ⟨gb178, 1, none⟩ (.int .i64 t176)).setCell ⟨gb178, 2, none⟩ (.int .i64 t177))).cell? _ = some _ from hx180_3)); (try have hy180_4 := fun (n_ : Nat) => (show (((((w25.drewN n_).setCell ⟨gb178, 0, none⟩ (.int .i64 t175)).setCell ⟨gb178, 1, none⟩ (.int .i64 t176)).setCell ⟨gb178, 2, none⟩ (.int .i64 t177))).cell? _ = some _ from hx180_4)); clear hn180_0; clear hn180_1; clear hn180_2; replace p180 := eq_true p180; replace q180 := eq_true q180; have p181 : 0 ≤ (t170 : Int) := zdec; have q181 : t170 < (((rd_T31 l1 a2).f4).length : Int) := zdec; obtain ⟨ad181, e181, hx181_0⟩ := Kd.at_int HR180_4.out t170 p181 q181; cases e181; have hn181_0 : ad181.block ≠ gb178 := zx (zfar hx181_0 GW178.out); have hn181_1 : ad181.block ≠ gb178 := zx (zfar hx181_0 GW178.out); have hn181_2 : ad181.block ≠ gb178 := zx (zfar hx181_0 GW178.out); replace hx181_0 := zh HB.out hx181_0; replace hx181_0 := (cell_far (p := ⟨gb178, 0, none⟩) (zy hn181_0) (.int .i64 t175)).trans hx181_0; replace hx181_0 := (cell_far (p := ⟨gb178, 1, none⟩) (zy hn181_1) (.int .i64 t176)).trans hx181_0; replace hx181_0 := (cell_far (p := ⟨gb178, 2, none⟩) (zy hn181_2) (.int .i64 t177)).trans hx181_0; (try have hy181_0 := fun (n_ : Nat) => (show (((((w25.drewN n_).setCell ⟨gb178, 0, none⟩ (.int .i64 t175)).setCell ⟨gb178, 1, none⟩ (.int .i64 t176)).setCell ⟨gb178, 2, none⟩ (.int .i64 t177))).cell? _ = some _ from hx181_0)); clear hn181_0; clear hn181_1; clear hn181_2; replace p181 := eq_true p181; replace q181 := eq_true q181)); try go_wp2_with (first | (go_at_call 58; (with_reducible refine (slices_Index_string_string.calls kj6 _ _ ((rd_T31 l1 a2).f3) a3 t170 _ ?side1 ?side2 A17.out).mono ?_); (case side1 => repeat (first | exact (Kd.C_below HR169_3.out HB.out) | (with_reducible refine Kd.C_alloc ?_ _) | (with_reducible refine Kd.C_drewN ?_ _) | (with_reducible refine Kd.C_drew ?_))); (case side2 => exact HC169_3.out); rintro e w' ⟨rfl, ⟨nd, rfl⟩⟩; (try first | exact ⟨rfl, _, World.drewN_drewN _ _ _⟩ | exact ⟨rfl, _, Eq.trans (World.drewN_drewN _ _ _) (congrArg (World.drewN _) (Nat.add_assoc _ _ _))⟩); have p171 : 0 ≤ (a2 : Int) := zdec; have q171 : a2 < (l1.length : Int) := zdec; obtain ⟨ad171, A171_3, c171_3, A171_4, c171_4, e171, hx171_0, hx171_1, hx171_2, hx171_3, hx171_4, hl171_3, hi171_3, hl171_4, hi171_4⟩ := at_T31 HR1.out a2 p171 q171; obtain rfl : ad169 = ad171 := (by injection e171); replace hx171_0 := zh HB.out hx171_0; replace hx171_1 := zh HB.out hx171_1; replace hx171_2 := zh HB.out hx171_2; replace hx171_3 := zh HB.out hx171_3; replace hx171_4 := zh HB.out hx171_4; have HR171_3 := Aside0.mk hi171_3; have HC171_3 := Aside0.mk hl171_3; clear hi171_3 hl171_3; have HR171_4 := Aside0.mk hi171_4; have HC171_4 := Aside0.mk hl171_4; clear hi171_4 hl171_4; replace p171 := eq_true p171; replace q171 := eq_true q171; have ea_ := Option.some.inj (hx169_3.symm.trans hx171_3); injection ea_ with ea_ en_ ec_; subst ea_; subst ec_; clear en_; have ea_ := Option.some.inj (hx169_4.symm.trans hx171_4); injection ea_ with ea_ en_ ec_; subst ea_; subst ec_; clear en_; obtain ⟨Ao23, co23, eo23⟩ := Kd.R_slice HO_11.out; subst eo23) | (go_at_call 59; (with_reducible refine (lay_offsets.calls kj6 ((rd_T31 l1 a2).f0) ((rd_T31 l1 a2).f1) ((rd_T31 l1 a2).f2) _ _ ((rd_T31 l1 a2).f3) _ _ ((rd_T31 l1 a2).f4) _ _ t163 t172 t175 t176 t177 _ ?side1 ?side2 ?side3 ?side4 ?side5 ?side6 A19.out).mono ?_); (case side1 => repeat (first | exact (Kd.C_below HR171_3.out (zw1 HB.out GE162.out)) | (with_reducible refine Kd.C_alloc ?_ _) | (with_reducible refine Kd.C_drewN ?_ _) | (with_reducible refine Kd.C_drew ?_))); (case side2 => exact HC171_3.out); (case side3 => repeat (first | exact (Kd.C_below HR171_4.out (zw1 HB.out GE162.out)) | (with_reducible refine Kd.C_alloc ?_ _) | (with_reducible refine Kd.C_drewN ?_ _) | (with_reducible refine Kd.C_drew ?_))); (case side4 => exact HC171_4.out); (case side5 => repeat (first | exact (Kd.R_reads' HO_11.out).2.2 | (with_reducible refine Kd.C_alloc ?_ _) | (with_reducible refine Kd.C_drewN ?_ _) | (with_reducible refine Kd.C_drew ?_))); (case side6 => exact (Kd.R_reads' HO_11.out).2.1); rintro e w24 ⟨v173, rfl, ho0, hb⟩; have n0_ := Aside0.mk (Kd.R_below (by (with_reducible repeat (first | apply Kd.R_alloc | apply Kd.R_drewN | apply Kd.R_drew)); exact HO_11.out) hb); have HO174 := Aside0.mk (Kd.R_lower ho0 (below_size (zw1 HB.out GE162.out))); have n2_ := Aside0.mk (zbb BK162.out hb); have n3_ := Aside0.mk (below_step (zw1 HB.out GE162.out) hb); clear HO_11 BK162 HB; have HO_11 := n0_; have BK162 := n2_; have HB := n3_; clear n0_ n2_ n3_; (try clear hb); (try clear hb2); (try clear hk); (try clear hi); (try clear ho0)) | ((with_reducible refine gate_dst (N := 14) rfl ?_); refine zbox (N := 14) (cs := #[.int .i64 0, .int .i64 0, .int .i64 0]) (t := 103) ?_; intro gb178 hg w25 hbox hb; have n0_ := Aside0.mk (Kd.R_below (Kd.R_elderB (by (with_reducible repeat (first | apply Kd.R_alloc | apply Kd.R_drewN | apply Kd.R_drew)); exact HO_11.out) gb178 (Nat.le_of_eq hg.symm)) hb); have n1_ := Aside0.mk (Kd.R_below (by (with_reducible repeat (first | apply Kd.R_alloc | apply Kd.R_drewN | apply Kd.R_drew)); exact HO174.out) hb); have n2_ := Aside0.mk (zbb BK162.out hb); have n3_ := Aside0.mk (below_step (zw1 HB.out GE162.out) hb); have BK178 := Aside0.mk (hbox); have GW178 := Aside0.mk (zg hg (below_size (zw1 HB.out GE162.out))); have GE178 := GW178; have NB162_178 := Aside0.mk (zlt hg BK162.out); have NB178_162 := Aside0.mk (zgt hg BK162.out); clear HO_11 HO174 BK162 HB; have HO_11 := n0_; have HO174 := n1_; have BK162 := n2_; have HB := n3_; clear n0_ n1_ n2_ n3_; clear hb hbox hg; have hnb26 := NB178_162.out; have hnc26 := NB162_178.out; have hcz27_0 := zc BK178.out 0; have hcz27_1 := zc BK178.out 1; have hcz27_2 := zc BK178.out 2; have hfz27_0 := blk_frozen BK178.out 0; have hfz27_1 := blk_frozen BK178.out 1; have hfz27_2 := blk_frozen BK178.out 2; obtain ⟨Ao28, co28, eo28⟩ := Kd.R_slice HO174.out; subst eo28; have p179 : 0 ≤ (t170 : Int) := zdec; have q179 : t170 < (t172.length : Int) := zdec; obtain ⟨ad179, e179, hx179_0⟩ := Kd.at_int (Kd.R_reads' HO174.out).2.2 t170 p179 q179; cases e179; have hn179_0 : ad179.block ≠ gb178 := Kd.own_blk (Kd.R_ne HO174.out BK178.out (by decide)); have hn179_1 : ad179.block ≠ gb178 := Kd.own_blk (Kd.R_ne HO174.out BK178.out (by decide)); have hn179_2 : ad179.block ≠ gb178 := Kd.own_blk (Kd.R_ne HO174.out BK178.out (by decide)); replace hx179_0 := (cell_far (p := ⟨gb178, 0, none⟩) (zy hn179_0) (.int .i64 t175)).trans hx179_0; replace hx179_0 := (cell_far (p := ⟨gb178, 1, none⟩) (zy hn179_1) (.int .i64 t176)).trans hx179_0; replace hx179_0 := (cell_far (p := ⟨gb178, 2, none⟩) (zy hn179_2) (.int .i64 t177)).trans hx179_0; (try have hy179_0 := fun (n_ : Nat) => (show (((((w25.drewN n_).setCell ⟨gb178, 0, none⟩ (.int .i64 t175)).setCell ⟨gb178, 1, none⟩ (.int .i64 t176)).setCell ⟨gb178, 2, none⟩ (.int .i64 t177))).cell? _ = some _ from hx179_0)); clear hn179_0; clear hn179_1; clear hn179_2; replace p179 := eq_true p179; replace q179 := eq_true q179; have p180 : 0 ≤ (a2 : Int) := zdec; have q180 : a2 < (l1.length : Int) := zdec; obtain ⟨ad180, A180_3, c180_3, A180_4, c180_4, e180, hx180_0, hx180_1, hx180_2, hx180_3, hx180_4, hl180_3, hi180_3, hl180_4, hi180_4⟩ := at_T31 HR1.out a2 p180 q180; obtain rfl : ad169 = ad180 := (by injection e180); have hn180_0 : ad169.block ≠ gb178 := zx (zfar hx180_0 GW178.out); have hn180_1 : ad169.block ≠ gb178 := zx (zfar hx180_0 GW178.out); have hn180_2 : ad169.block ≠ gb178 := zx (zfar hx180_0 GW178.out); replace hx180_0 := zh HB.out hx180_0; replace hx180_1 := zh HB.out hx180_1; replace hx180_2 := zh HB.out hx180_2; replace hx180_3 := zh HB.out hx180_3; replace hx180_4 := zh HB.out hx180_4; have HR180_3 := Aside0.mk hi180_3; have HC180_3 := Aside0.mk hl180_3; clear hi180_3 hl180_3; have HR180_4 := Aside0.mk hi180_4; have HC180_4 := Aside0.mk hl180_4; clear hi180_4 hl180_4; replace hx180_0 := (cell_far (p := ⟨gb178, 0, none⟩) (zy hn180_0) (.int .i64 t175)).trans hx180_0; replace hx180_1 := (cell_far (p := ⟨gb178, 0, none⟩) (zy hn180_0) (.int .i64 t175)).trans hx180_1; replace hx180_2 := (cell_far (p := ⟨gb178, 0, none⟩) (zy hn180_0) (.int .i64 t175)).trans hx180_2; replace hx180_3 := (cell_far (p := ⟨gb178, 0, none⟩) (zy hn180_0) (.int .i64 t175)).trans hx180_3; replace hx180_4 := (cell_far (p := ⟨gb178, 0, none⟩) (zy hn180_0) (.int .i64 t175)).trans hx180_4; replace hx180_0 := (cell_far (p := ⟨gb178, 1, none⟩) (zy hn180_1) (.int .i64 t176)).trans hx180_0; replace hx180_1 := (cell_far (p := ⟨gb178, 1, none⟩) (zy hn180_1) (.int .i64 t176)).trans hx180_1; replace hx180_2 := (cell_far (p := ⟨gb178, 1, none⟩) (zy hn180_1) (.int .i64 t176)).trans hx180_2; replace hx180_3 := (cell_far (p := ⟨gb178, 1, none⟩) (zy hn180_1) (.int .i64 t176)).trans hx180_3; replace hx180_4 := (cell_far (p := ⟨gb178, 1, none⟩) (zy hn180_1) (.int .i64 t176)).trans hx180_4; replace hx180_0 := (cell_far (p := ⟨gb178, 2, none⟩) (zy hn180_2) (.int .i64 t177)).trans hx180_0; replace hx180_1 := (cell_far (p := ⟨gb178, 2, none⟩) (zy hn180_2) (.int .i64 t177)).trans hx180_1; replace hx180_2 := (cell_far (p := ⟨gb178, 2, none⟩) (zy hn180_2) (.int .i64 t177)).trans hx180_2; replace hx180_3 := (cell_far (p := ⟨gb178, 2, none⟩) (zy hn180_2) (.int .i64 t177)).trans hx180_3; replace hx180_4 := (cell_far (p := ⟨gb178, 2, none⟩) (zy hn180_2) (.int .i64 t177)).trans hx180_4; (try have hy180_0 := fun (n_ : Nat) => (show (((((w25.drewN n_).setCell ⟨gb178, 0, none⟩ (.int .i64 t175)).setCell ⟨gb178, 1, none⟩ (.int .i64 t176)).setCell ⟨gb178, 2, none⟩ (.int .i64 t177))).cell? _ = some _ from hx180_0)); (try have hy180_1 := fun (n_ : Nat) => (show (((((w25.drewN n_).setCell ⟨gb178, 0, none⟩ (.int .i64 t175)).setCell ⟨gb178, 1, none⟩ (.int .i64 t176)).setCell ⟨gb178, 2, none⟩ (.int .i64 t177))).cell? _ = some _ from hx180_1)); (try have hy180_2 := fun (n_ : Nat) => (show (((((w25.drewN n_).setCell ⟨gb178, 0, none⟩ (.int .i64 t175)).setCell ⟨gb178, 1, none⟩ (.int .i64 t176)).setCell ⟨gb178, 2, none⟩ (.int .i64 t177))).cell? _ = some _ from hx180_2)); (try have hy180_3 := fun (n_ : Nat) => (show (((((w25.drewN n_).setCell ⟨gb178, 0, none⟩ (.int .i64 t175)).setCell ⟨gb178, 1, none⟩ (.int .i64 t176)).setCell ⟨gb178, 2, none⟩ (.int .i64 t177))).cell? _ = some _ from hx180_3)); (try have hy180_4 := fun (n_ : Nat) => (show (((((w25.drewN n_).setCell ⟨gb178, 0, none⟩ (.int .i64 t175)).setCell ⟨gb178, 1, none⟩ (.int .i64 t176)).setCell ⟨gb178, 2, none⟩ (.int .i64 t177))).cell? _ = some _ from hx180_4)); clear hn180_0; clear hn180_1; clear hn180_2; replace p180 := eq_true p180; replace q180 := eq_true q180; have p181 : 0 ≤ (t170 : Int) := zdec; have q181 : t170 < (((rd_T31 l1 a2).f4).length : Int) := zdec; obtain ⟨ad181, e181, hx181_0⟩ := Kd.at_int HR180_4.out t170 p181 q181; cases e181; have hn181_0 : ad181.block ≠ gb178 := zx (zfar hx181_0 GW178.out); have hn181_1 : ad181.block ≠ gb178 := zx (zfar hx181_0 GW178.out); have hn181_2 : ad181.block ≠ gb178 := zx (zfar hx181_0 GW178.out); replace hx181_0 := zh HB.out hx181_0; replace hx181_0 := (cell_far (p := ⟨gb178, 0, none⟩) (zy hn181_0) (.int .i64 t175)).trans hx181_0; replace hx181_0 := (cell_far (p := ⟨gb178, 1, none⟩) (zy hn181_1) (.int .i64 t176)).trans hx181_0; replace hx181_0 := (cell_far (p := ⟨gb178, 2, none⟩) (zy hn181_2) (.int .i64 t177)).trans hx181_0; (try have hy181_0 := fun (n_ : Nat) => (show (((((w25.drewN n_).setCell ⟨gb178, 0, none⟩ (.int .i64 t175)).setCell ⟨gb178, 1, none⟩ (.int .i64 t176)).setCell ⟨gb178, 2, none⟩ (.int .i64 t177))).cell? _ = some _ from hx181_0)); clear hn181_0; clear hn181_1; clear hn181_2; replace p181 := eq_true p181; replace q181 := eq_true q181)))
    go_ret3
    exact ⟨ze, zw2 HB.out GE162.out GE178.out⟩
 ·rw [if_neg c6] at H
  have c6b0 : (t166 == 0) = false := beq_eq_false_iff_ne.mpr c6
  have c6b1 : (t166 != 0) = true := bne_iff_ne.mpr c6
  simp only [Option.some.injEq, Prod.mk.injEq] at H
  obtain ⟨rfl, rfl, rfl⟩ := H
  go_enter Try.func21, Try.ntmps21
  go_wp2_with (first | ((with_reducible refine gate_dst (N := 4) rfl ?_); refine zbox (N := 4) (cs := #[.bool a0_0, .int .i64 a0_1]) (t := 29) ?_; intro gb162 hg w29 hbox hb; have n0_ := Aside0.mk (below_step (zw0 HB.out) hb); have BK162 := Aside0.mk (hbox); have GW162 := Aside0.mk (zg hg (below_size (zw0 HB.out))); have GE162 := GW162; clear HB; have HB := n0_; clear n0_; clear hb hbox hg; have hcz30_0 := zc BK162.out 0; have hcz30_1 := zc BK162.out 1; have hfz30_0 := blk_frozen BK162.out 0; have hfz30_1 := blk_frozen BK162.out 1) | (go_at_call 57; (with_reducible refine (lay_asked.calls k a0_0 a0_1 _ _ l1 a2 t163 t166 _ ?side1 ?side2 A5.out).mono ?_); (case side1 => repeat (first | exact (Kd.C_below HR1.out HB.out) | (with_reducible refine Kd.C_alloc ?_ _) | (with_reducible refine Kd.C_drewN ?_ _) | (with_reducible refine Kd.C_drew ?_))); (case side2 => exact HC1.out); rintro e w31 ⟨v164, rfl, ho0, hb⟩; have HO165 := Aside0.mk (Kd.R_lower ho0 (below_size (zw1 HB.out GE162.out))); have n1_ := Aside0.mk (zbb BK162.out hb); have n2_ := Aside0.mk (below_step (zw1 HB.out GE162.out) hb); clear BK162 HB; have BK162 := n1_; have HB := n2_; clear n1_ n2_; (try clear hb); (try clear hb2); (try clear hk); (try clear hi); (try clear ho0)))
  repeat (go_quiet (first | ((with_reducible refine gate_dst (N := 4) rfl ?_); refine zbox (N := 4) (cs := #[.bool a0_0, .int .i64 a0_1]) (t := 29) ?_; intro gb162 hg w29 hbox hb; have n0_ := Aside0.mk (below_step (zw0 HB.out) hb); have BK162 := Aside0.mk (hbox); have GW162 := Aside0.mk (zg hg (below_size (zw0 HB.out))); have GE162 := GW162; clear HB; have HB := n0_; clear n0_; clear hb hbox hg; have hcz30_0 := zc BK162.out 0; have hcz30_1 := zc BK162.out 1; have hfz30_0 := blk_frozen BK162.out 0; have hfz30_1 := blk_frozen BK162.out 1) | (go_at_call 57; (with_reducible refine (lay_asked.calls k a0_0 a0_1 _ _ l1 a2 t163 t166 _ ?side1 ?side2 A5.out).mono ?_); (case side1 => repeat (first | exact (Kd.C_below HR1.out HB.out) | (with_reducible refine Kd.C_alloc ?_ _) | (with_reducible refine Kd.C_drewN ?_ _) | (with_reducible refine Kd.C_drew ?_))); (case side2 => exact HC1.out); rintro e w31 ⟨v164, rfl, ho0, hb⟩; have HO165 := Aside0.mk (Kd.R_lower ho0 (below_size (zw1 HB.out GE162.out))); have n1_ := Aside0.mk (zbb BK162.out hb); have n2_ := Aside0.mk (below_step (zw1 HB.out GE162.out) hb); clear BK162 HB; have BK162 := n1_; have HB := n2_; clear n1_ n2_; (try clear hb); (try clear hb2); (try clear hk); (try clear hi); (try clear ho0))); try go_wp2_with (first | ((with_reducible refine gate_dst (N := 4) rfl ?_); refine zbox (N := 4) (cs := #[.bool a0_0, .int .i64 a0_1]) (t := 29) ?_; intro gb162 hg w29 hbox hb; have n0_ := Aside0.mk (below_step (zw0 HB.out) hb); have BK162 := Aside0.mk (hbox); have GW162 := Aside0.mk (zg hg (below_size (zw0 HB.out))); have GE162 := GW162; clear HB; have HB := n0_; clear n0_; clear hb hbox hg; have hcz30_0 := zc BK162.out 0; have hcz30_1 := zc BK162.out 1; have hfz30_0 := blk_frozen BK162.out 0; have hfz30_1 := blk_frozen BK162.out 1) | (go_at_call 57; (with_reducible refine (lay_asked.calls k a0_0 a0_1 _ _ l1 a2 t163 t166 _ ?side1 ?side2 A5.out).mono ?_); (case side1 => repeat (first | exact (Kd.C_below HR1.out HB.out) | (with_reducible refine Kd.C_alloc ?_ _) | (with_reducible refine Kd.C_drewN ?_ _) | (with_reducible refine Kd.C_drew ?_))); (case side2 => exact HC1.out); rintro e w31 ⟨v164, rfl, ho0, hb⟩; have HO165 := Aside0.mk (Kd.R_lower ho0 (below_size (zw1 HB.out GE162.out))); have n1_ := Aside0.mk (zbb BK162.out hb); have n2_ := Aside0.mk (below_step (zw1 HB.out GE162.out) hb); clear BK162 HB; have BK162 := n1_; have HB := n2_; clear n1_ n2_; (try clear hb); (try clear hb2); (try clear hk); (try clear hi); (try clear ho0))))
  go_ret3
  exact ⟨ze, zw1 HB.out GE162.out⟩

/-! cellarlaw7_wakes -/
def cellarlaw7_wakes.f (k : Nat)  : Option (Bool) := (some (([(⟨1, 0, 0, ([] : List ByteArray), ([] : List Int)⟩ : S31), (⟨3, 0, 0, ([] : List ByteArray), ([] : List Int)⟩ : S31), (⟨9, 0, 0, (([(⟨#[97]⟩ : ByteArray), (⟨#[98]⟩ : ByteArray)] : List ByteArray)), (([0, 1] : List Int))⟩ : S31)] : List (S31)) : List (S31))).bind fun y188 => ((lay_Size.f k false 4 y188 2).bind fun bt191 => ((lay_Field.f k false 4 y188 2 (⟨#[98]⟩ : ByteArray)).bind fun bt193 => ((cellarlaw7_num.f bt191.2).bind fun t196 => (if t196 = 0 then ((cellarlaw7_num.f bt193.2.2).bind fun t197 => (if t197 = 0 then (if bt191.1 = 4 then (if bt193.1 = 2 then (some (bt193.2.1 == 1)) else (some false)) else (some false)) else (some false))) else (some false)))))
theorem cellarlaw7_wakes.mono : ∀ k, LeO (cellarlaw7_wakes.f k ) (cellarlaw7_wakes.f (k + 1) ) := by
 intro  k
 unfold cellarlaw7_wakes.f
 repeat' first
   | (with_reducible apply lay_Field.mono)
   | (with_reducible apply lay_Size.mono)
   | (with_reducible apply LeO.refl)
   | (with_reducible apply LeO.none)
   | (with_reducible refine LeO.ite ?_ ?_)
   | (with_reducible refine LeO.bind ?_ (fun _ => ?_))
set_option maxHeartbeats 8000000 in
set_option maxRecDepth 100000 in
theorem cellarlaw7_wakes.calls (k : Nat)  (r : Bool) (w : World) (h : cellarlaw7_wakes.f k  = some r) :
  Calls Try.prog 13 #[] w fun e w' => e = .returned (.bool r) ∧ Below w.heap.size w w' := by
 have hu31 := Try.underlying31
 have hu29 := Try.underlying29
 have HB := Aside0.mk (Below.refl w.heap.size w)
 have H : ((some (([(⟨1, 0, 0, ([] : List ByteArray), ([] : List Int)⟩ : S31), (⟨3, 0, 0, ([] : List ByteArray), ([] : List Int)⟩ : S31), (⟨9, 0, 0, (([(⟨#[97]⟩ : ByteArray), (⟨#[98]⟩ : ByteArray)] : List ByteArray)), (([0, 1] : List Int))⟩ : S31)] : List (S31)) : List (S31))).bind fun y188 => ((lay_Size.f k false 4 y188 2).bind fun bt191 => ((lay_Field.f k false 4 y188 2 (⟨#[98]⟩ : ByteArray)).bind fun bt193 => ((cellarlaw7_num.f bt191.2).bind fun t196 => (if t196 = 0 then ((cellarlaw7_num.f bt193.2.2).bind fun t197 => (if t197 = 0 then (if bt191.1 = 4 then (if bt193.1 = 2 then (some (bt193.2.1 == 1)) else (some false)) else (some false)) else (some false))) else (some false)))))) = some r := h
 clear h
 obtain ⟨y182, hy182⟩ : ∃ y_ : List ByteArray, y_ = (([(⟨#[97]⟩ : ByteArray), (⟨#[98]⟩ : ByteArray)] : List ByteArray)) := ⟨_, rfl⟩
 replace H : ((some (([(⟨1, 0, 0, ([] : List ByteArray), ([] : List Int)⟩ : S31), (⟨3, 0, 0, ([] : List ByteArray), ([] : List Int)⟩ : S31), (⟨9, 0, 0, y182, (([0, 1] : List Int))⟩ : S31)] : List (S31)) : List (S31))).bind fun y188 => ((lay_Size.f k false 4 y188 2).bind fun bt191 => ((lay_Field.f k false 4 y188 2 (⟨#[98]⟩ : ByteArray)).bind fun bt193 => ((cellarlaw7_num.f bt191.2).bind fun t196 => (if t196 = 0 then ((cellarlaw7_num.f bt193.2.2).bind fun t197 => (if t197 = 0 then (if bt191.1 = 4 then (if bt193.1 = 2 then (some (bt193.2.1 == 1)) else (some false)) else (some false)) else (some false))) else (some false)))))) = some r := by first | (rw [hy182]; with_reducible exact H) | (have H2_ := (Option.bind_some _ _).symm.trans H; rw [hy182]; with_reducible exact H2_) | (have H2_ := (Option.bind_some _ _).symm.trans H; with_reducible exact H2_) | with_reducible exact H | (rw [hy182]; exact H) | exact H
 have Ny182 := Aside0.mk hy182
 clear hy182
 obtain ⟨y185, hy185⟩ : ∃ y_ : List Int, y_ = (([0, 1] : List Int)) := ⟨_, rfl⟩
 replace H : ((some (([(⟨1, 0, 0, ([] : List ByteArray), ([] : List Int)⟩ : S31), (⟨3, 0, 0, ([] : List ByteArray), ([] : List Int)⟩ : S31), (⟨9, 0, 0, y182, y185⟩ : S31)] : List (S31)) : List (S31))).bind fun y188 => ((lay_Size.f k false 4 y188 2).bind fun bt191 => ((lay_Field.f k false 4 y188 2 (⟨#[98]⟩ : ByteArray)).bind fun bt193 => ((cellarlaw7_num.f bt191.2).bind fun t196 => (if t196 = 0 then ((cellarlaw7_num.f bt193.2.2).bind fun t197 => (if t197 = 0 then (if bt191.1 = 4 then (if bt193.1 = 2 then (some (bt193.2.1 == 1)) else (some false)) else (some false)) else (some false))) else (some false)))))) = some r := by first | (rw [hy185]; with_reducible exact H) | (have H2_ := (Option.bind_some _ _).symm.trans H; rw [hy185]; with_reducible exact H2_) | (have H2_ := (Option.bind_some _ _).symm.trans H; with_reducible exact H2_) | with_reducible exact H | (rw [hy185]; exact H) | exact H
 have Ny185 := Aside0.mk hy185
 clear hy185
 obtain ⟨y188, hy188⟩ : ∃ y_ : List (S31), y_ = (([(⟨1, 0, 0, ([] : List ByteArray), ([] : List Int)⟩ : S31), (⟨3, 0, 0, ([] : List ByteArray), ([] : List Int)⟩ : S31), (⟨9, 0, 0, y182, y185⟩ : S31)] : List (S31))) := ⟨_, rfl⟩
 replace H : ((lay_Size.f k false 4 y188 2).bind fun bt191 => ((lay_Field.f k false 4 y188 2 (⟨#[98]⟩ : ByteArray)).bind fun bt193 => ((cellarlaw7_num.f bt191.2).bind fun t196 => (if t196 = 0 then ((cellarlaw7_num.f bt193.2.2).bind fun t197 => (if t197 = 0 then (if bt191.1 = 4 then (if bt193.1 = 2 then (some (bt193.2.1 == 1)) else (some false)) else (some false)) else (some false))) else (some false))))) = some r := by first | (rw [hy188]; with_reducible exact H) | (have H2_ := (Option.bind_some _ _).symm.trans H; rw [hy188]; with_reducible exact H2_) | (have H2_ := (Option.bind_some _ _).symm.trans H; with_reducible exact H2_) | with_reducible exact H | (rw [hy188]; exact H) | exact H
 have Ny188 := Aside0.mk hy188
 clear hy188
 replace H := Option.bind_eq_some_iff.mp H
 obtain ⟨⟨t191, t192⟩, A10, H⟩ := H
 replace H : ((lay_Field.f k false 4 y188 2 (⟨#[98]⟩ : ByteArray)).bind fun bt193 => ((cellarlaw7_num.f t192).bind fun t196 => (if t196 = 0 then ((cellarlaw7_num.f bt193.2.2).bind fun t197 => (if t197 = 0 then (if t191 = 4 then (if bt193.1 = 2 then (some (bt193.2.1 == 1)) else (some false)) else (some false)) else (some false))) else (some false)))) = some r := H
 have A1 := Aside0.mk A10
 clear A10
 replace H := Option.bind_eq_some_iff.mp H
 obtain ⟨⟨t193, t194, t195⟩, A20, H⟩ := H
 replace H : ((cellarlaw7_num.f t192).bind fun t196 => (if t196 = 0 then ((cellarlaw7_num.f t195).bind fun t197 => (if t197 = 0 then (if t191 = 4 then (if t193 = 2 then (some (t194 == 1)) else (some false)) else (some false)) else (some false))) else (some false))) = some r := H
 have A2 := Aside0.mk A20
 clear A20
 replace H := Option.bind_eq_some_iff.mp H
 obtain ⟨t196, A30, H⟩ := H
 replace H : (if t196 = 0 then ((cellarlaw7_num.f t195).bind fun t197 => (if t197 = 0 then (if t191 = 4 then (if t193 = 2 then (some (t194 == 1)) else (some false)) else (some false)) else (some false))) else (some false)) = some r := H
 have A3 := Aside0.mk A30
 clear A30
 by_cases c4 : t196 = 0
 ·rw [if_pos c4] at H
  have c4b0 : (t196 == 0) = true := beq_iff_eq.mpr c4
  have c4b1 : (t196 != 0) = false := bne_eq_false_iff_eq.mpr c4
  clear c4
  replace H := Option.bind_eq_some_iff.mp H
  obtain ⟨t197, A50, H⟩ := H
  replace H : (if t197 = 0 then (if t191 = 4 then (if t193 = 2 then (some (t194 == 1)) else (some false)) else (some false)) else (some false)) = some r := H
  have A5 := Aside0.mk A50
  clear A50
  by_cases c6 : t197 = 0
  rotate_left
  ·rw [if_neg c6] at H
   have c6b0 : (t197 == 0) = false := beq_eq_false_iff_ne.mpr c6
   have c6b1 : (t197 != 0) = true := bne_iff_ne.mpr c6
   obtain rfl := Option.some.inj H
   go_enter Try.func13, Try.ntmps13
   go_wp2_with (first | ((with_reducible refine gate_dst (N := 9) rfl ?_); refine Kd.R_lit Kd.string _ 9 ?hg (N := 9) ?hd (xs := ([(⟨#[97]⟩ : ByteArray), (⟨#[98]⟩ : ByteArray)] : List ByteArray)) (inner := [.string (⟨#[97]⟩ : ByteArray), .string (⟨#[98]⟩ : ByteArray)]) (ok := fun _ => True) (okp := fun _ => True) ?hr ?hp (fun _ hk => hk) trivial (Below.refl _ _) (Nat.le_refl _) (by simp) ?_; (case hd => rfl); (case hg => rfl); (case hr => first | (go_simp; done) | (go_simp; rfl)); (case hp => exact (Reps.one (show Kd.M Kd.string _ _ _ (⟨#[97]⟩ : ByteArray) [.string (⟨#[97]⟩ : ByteArray)] from rfl) (Reps.one (show Kd.M Kd.string _ _ _ (⟨#[98]⟩ : ByteArray) [.string (⟨#[98]⟩ : ByteArray)] from rfl) (Reps.none _ _)))); intro v183 w42 ho43 hb hg_ hnew_; clear hg_ hnew_; (first | rw [← Ny182.out] at ho43 | (simp only [Int.reduceToNat] at ho43; rw [← Ny182.out] at ho43)); have HO184 := Aside0.mk (Kd.R_lower ho43 (below_size (zw0 HB.out))); have n1_ := Aside0.mk (below_step (zw0 HB.out) hb); clear HB; have HB := n1_; clear n1_; clear hb ho43) | ((with_reducible refine gate_dst (N := 10) rfl ?_); refine Kd.R_lit (Kd.int .i64) _ 3 ?hg (N := 10) ?hd (xs := ([0, 1] : List Int)) (inner := [.int .i64 0, .int .i64 1]) (ok := fun _ => True) (okp := fun _ => True) ?hr ?hp (fun _ hk => hk) trivial (Below.refl _ _) (Nat.le_refl _) (by simp) ?_; (case hd => rfl); (case hg => rfl); (case hr => first | (go_simp; done) | (go_simp; rfl)); (case hp => exact (Reps.one (show Kd.M (Kd.int .i64) _ _ _ 0 [.int .i64 0] from rfl) (Reps.one (show Kd.M (Kd.int .i64) _ _ _ 1 [.int .i64 1] from rfl) (Reps.none _ _)))); intro v186 w44 ho45 hb hg_ hnew_; clear hg_ hnew_; (first | rw [← Ny185.out] at ho45 | (simp only [Int.reduceToNat] at ho45; rw [← Ny185.out] at ho45)); have n0_ := Aside0.mk (Kd.R_below (by (with_reducible repeat (first | apply Kd.R_alloc | apply Kd.R_drewN | apply Kd.R_drew)); exact HO184.out) hb); have HO187 := Aside0.mk (Kd.R_lower ho45 (below_size (zw0 HB.out))); have n2_ := Aside0.mk (below_step (zw0 HB.out) hb); clear HO184 HB; have HO184 := n0_; have HB := n2_; clear n0_ n2_; clear hb ho45; obtain ⟨Ao46, co46, eo46⟩ := Kd.R_slice HO187.out; subst eo46; obtain ⟨Ao47, co47, eo47⟩ := Kd.R_slice HO184.out; subst eo47) | ((with_reducible refine gate_dst (N := 12) rfl ?_); refine Kd.N_lit k31 _ 31 ?hg (N' := 12) ?hd (xs := ([(⟨1, 0, 0, ([] : List ByteArray), ([] : List Int)⟩ : S31), (⟨3, 0, 0, ([] : List ByteArray), ([] : List Int)⟩ : S31), (⟨9, 0, 0, y182, y185⟩ : S31)] : List (S31))) (inner := [.int .i64 1, .int .i64 0, .int .i64 0, .slice none 0 0, .slice none 0 0, .int .i64 3, .int .i64 0, .int .i64 0, .slice none 0 0, .slice none 0 0, .int .i64 9, .int .i64 0, .int .i64 0, .slice Ao47 y182.length co47, .slice Ao46 y185.length co46]) (ok := (fun _ => True)) (okp := (fun _ => True)) ?hr ?hp (fun _ hk => hk) ((show ∀ k_, w44.heap.size ≤ k_ → (fun _ => True) k_ from fun k_ hk => trivial) _ (Nat.le_refl _)) (Below.refl _ _) (Nat.le_refl _) (by simp) ?_; (case hd => rfl); (case hg => rfl); (case hr => first | (go_simp; done) | (go_simp; rfl)); (case hp => exact (Reps.c5 (show Kd.FK k31 _ _ (⟨1, 0, 0, ([] : List ByteArray), ([] : List Int)⟩ : S31) [.int .i64 1, .int .i64 0, .int .i64 0, .slice none 0 0, .slice none 0 0] from (k31_mkF _ _ (⟨1, 0, 0, ([] : List ByteArray), ([] : List Int)⟩ : S31) (Nat.le_refl _) (Kd.F_nil _ _ _) (Nat.le_refl _) (Kd.F_nil _ _ _))) (Reps.c5 (show Kd.FK k31 _ _ (⟨3, 0, 0, ([] : List ByteArray), ([] : List Int)⟩ : S31) [.int .i64 3, .int .i64 0, .int .i64 0, .slice none 0 0, .slice none 0 0] from (k31_mkF _ _ (⟨3, 0, 0, ([] : List ByteArray), ([] : List Int)⟩ : S31) (Nat.le_refl _) (Kd.F_nil _ _ _) (Nat.le_refl _) (Kd.F_nil _ _ _))) (Reps.c5 (show Kd.FK k31 _ _ (⟨9, 0, 0, y182, y185⟩ : S31) [.int .i64 9, .int .i64 0, .int .i64 0, .slice Ao47 y182.length co47, .slice Ao46 y185.length co46] from (k31_mkF _ _ (⟨9, 0, 0, y182, y185⟩ : S31) (Kd.R_reads' (Kd.R_mono (ok' := (fun _ => True)) (HO184.out) (fun k_ hk => trivial))).2.1 (Kd.R_F (Kd.R_mono (ok' := (fun _ => True)) (HO184.out) (fun k_ hk => trivial))) (Kd.R_reads' (Kd.R_mono (ok' := (fun _ => True)) (HO187.out) (fun k_ hk => trivial))).2.1 (Kd.R_F (Kd.R_mono (ok' := (fun _ => True)) (HO187.out) (fun k_ hk => trivial))))) (Reps.none _ _))))); intro v189 w48 ho49 hb hg_ hnew_; clear hg_ hnew_; (first | rw [← Ny188.out] at ho49 | (simp only [Int.reduceToNat] at ho49; rw [← Ny188.out] at ho49)); have HO190 := Aside0.mk (Kd.N_lower ho49 (below_size (zw0 HB.out))); have n1_ := Aside0.mk (below_step (zw0 HB.out) hb); clear HB HO184 HO187; have HB := n1_; clear n1_; clear hb ho49; obtain ⟨Ao50, co50, eo50⟩ := Kd.N_slice HO190.out; subst eo50) | ((with_reducible refine gate_callee (f := 19) rfl ?_); refine zgo (some 16) Try.func19 #[.agg #[.bool false, .int .i64 4], .slice Ao50 y188.length co50, .int .i64 2] ?_; (with_reducible refine (lay_Size.calls k false 4 _ _ y188 2 t191 t192 _ ?side1 ?side2 A1.out).mono ?_); (case side1 => repeat (first | exact (Kd.N_reads' HO190.out).2.2 | (with_reducible refine Kd.C_alloc ?_ _) | (with_reducible refine Kd.C_drewN ?_ _) | (with_reducible refine Kd.C_drew ?_))); (case side2 => exact (Kd.N_reads' HO190.out).2.1); rintro e w51 ⟨rfl, hb⟩; refine ⟨_, rfl, ?_⟩; have n0_ := Aside0.mk (Kd.N_below (by (with_reducible repeat (first | apply Kd.N_alloc | apply Kd.N_drewN | apply Kd.N_drew)); exact HO190.out) hb); have n1_ := Aside0.mk (below_step (zw0 HB.out) hb); clear HO190 HB; have HO190 := n0_; have HB := n1_; clear n0_ n1_; (try clear hb); (try clear hb2); (try clear hk); (try clear hi)) | ((with_reducible refine gate_callee (f := 21) rfl ?_); refine zgo (some 22) Try.func21 #[.agg #[.bool false, .int .i64 4], .slice Ao50 y188.length co50, .int .i64 2, .string (⟨#[98]⟩ : ByteArray)] ?_; (with_reducible refine (lay_Field.calls k false 4 _ _ y188 2 (⟨#[98]⟩ : ByteArray) t193 t194 t195 _ ?side1 ?side2 A2.out).mono ?_); (case side1 => repeat (first | exact (Kd.N_reads' HO190.out).2.2 | (with_reducible refine Kd.C_alloc ?_ _) | (with_reducible refine Kd.C_drewN ?_ _) | (with_reducible refine Kd.C_drew ?_))); (case side2 => exact (Kd.N_reads' HO190.out).2.1); rintro e w52 ⟨rfl, hb⟩; refine ⟨_, rfl, ?_⟩; have n0_ := Aside0.mk (Kd.N_below (by (with_reducible repeat (first | apply Kd.N_alloc | apply Kd.N_drewN | apply Kd.N_drew)); exact HO190.out) hb); have n1_ := Aside0.mk (below_step (zw0 HB.out) hb); clear HO190 HB; have HO190 := n0_; have HB := n1_; clear n0_ n1_; (try clear hb); (try clear hb2); (try clear hk); (try clear hi)) | ((with_reducible refine gate_callee (f := 11) rfl ?_); refine zgo (some 27) Try.func11 #[.int .i64 t192] ?_; (with_reducible refine (cellarlaw7_num.calls t192 t196 _ A3.out).mono ?_); rintro e w' ⟨rfl, ⟨nd, rfl⟩⟩; refine ⟨_, rfl, ?_⟩) | (go_at_call 11; (with_reducible refine (cellarlaw7_num.calls t195 t197 _ A5.out).mono ?_); rintro e w' ⟨rfl, ⟨nd, rfl⟩⟩))
   go_ret
   exact ⟨ze, zw0 HB.out⟩
  rw [if_pos c6] at H
  have c6b0 : (t197 == 0) = true := beq_iff_eq.mpr c6
  have c6b1 : (t197 != 0) = false := bne_eq_false_iff_eq.mpr c6
  clear c6
  by_cases c7 : t191 = 4
  rotate_left
  ·rw [if_neg c7] at H
   have c7b0 : (t191 == 4) = false := beq_eq_false_iff_ne.mpr c7
   have c7b1 : (t191 != 4) = true := bne_iff_ne.mpr c7
   obtain rfl := Option.some.inj H
   go_enter Try.func13, Try.ntmps13
   go_wp2_with (first | ((with_reducible refine gate_dst (N := 9) rfl ?_); refine Kd.R_lit Kd.string _ 9 ?hg (N := 9) ?hd (xs := ([(⟨#[97]⟩ : ByteArray), (⟨#[98]⟩ : ByteArray)] : List ByteArray)) (inner := [.string (⟨#[97]⟩ : ByteArray), .string (⟨#[98]⟩ : ByteArray)]) (ok := fun _ => True) (okp := fun _ => True) ?hr ?hp (fun _ hk => hk) trivial (Below.refl _ _) (Nat.le_refl _) (by simp) ?_; (case hd => rfl); (case hg => rfl); (case hr => first | (go_simp; done) | (go_simp; rfl)); (case hp => exact (Reps.one (show Kd.M Kd.string _ _ _ (⟨#[97]⟩ : ByteArray) [.string (⟨#[97]⟩ : ByteArray)] from rfl) (Reps.one (show Kd.M Kd.string _ _ _ (⟨#[98]⟩ : ByteArray) [.string (⟨#[98]⟩ : ByteArray)] from rfl) (Reps.none _ _)))); intro v183 w31 ho32 hb hg_ hnew_; clear hg_ hnew_; (first | rw [← Ny182.out] at ho32 | (simp only [Int.reduceToNat] at ho32; rw [← Ny182.out] at ho32)); have HO184 := Aside0.mk (Kd.R_lower ho32 (below_size (zw0 HB.out))); have n1_ := Aside0.mk (below_step (zw0 HB.out) hb); clear HB; have HB := n1_; clear n1_; clear hb ho32) | ((with_reducible refine gate_dst (N := 10) rfl ?_); refine Kd.R_lit (Kd.int .i64) _ 3 ?hg (N := 10) ?hd (xs := ([0, 1] : List Int)) (inner := [.int .i64 0, .int .i64 1]) (ok := fun _ => True) (okp := fun _ => True) ?hr ?hp (fun _ hk => hk) trivial (Below.refl _ _) (Nat.le_refl _) (by simp) ?_; (case hd => rfl); (case hg => rfl); (case hr => first | (go_simp; done) | (go_simp; rfl)); (case hp => exact (Reps.one (show Kd.M (Kd.int .i64) _ _ _ 0 [.int .i64 0] from rfl) (Reps.one (show Kd.M (Kd.int .i64) _ _ _ 1 [.int .i64 1] from rfl) (Reps.none _ _)))); intro v186 w33 ho34 hb hg_ hnew_; clear hg_ hnew_; (first | rw [← Ny185.out] at ho34 | (simp only [Int.reduceToNat] at ho34; rw [← Ny185.out] at ho34)); have n0_ := Aside0.mk (Kd.R_below (by (with_reducible repeat (first | apply Kd.R_alloc | apply Kd.R_drewN | apply Kd.R_drew)); exact HO184.out) hb); have HO187 := Aside0.mk (Kd.R_lower ho34 (below_size (zw0 HB.out))); have n2_ := Aside0.mk (below_step (zw0 HB.out) hb); clear HO184 HB; have HO184 := n0_; have HB := n2_; clear n0_ n2_; clear hb ho34; obtain ⟨Ao35, co35, eo35⟩ := Kd.R_slice HO187.out; subst eo35; obtain ⟨Ao36, co36, eo36⟩ := Kd.R_slice HO184.out; subst eo36) | ((with_reducible refine gate_dst (N := 12) rfl ?_); refine Kd.N_lit k31 _ 31 ?hg (N' := 12) ?hd (xs := ([(⟨1, 0, 0, ([] : List ByteArray), ([] : List Int)⟩ : S31), (⟨3, 0, 0, ([] : List ByteArray), ([] : List Int)⟩ : S31), (⟨9, 0, 0, y182, y185⟩ : S31)] : List (S31))) (inner := [.int .i64 1, .int .i64 0, .int .i64 0, .slice none 0 0, .slice none 0 0, .int .i64 3, .int .i64 0, .int .i64 0, .slice none 0 0, .slice none 0 0, .int .i64 9, .int .i64 0, .int .i64 0, .slice Ao36 y182.length co36, .slice Ao35 y185.length co35]) (ok := (fun _ => True)) (okp := (fun _ => True)) ?hr ?hp (fun _ hk => hk) ((show ∀ k_, w33.heap.size ≤ k_ → (fun _ => True) k_ from fun k_ hk => trivial) _ (Nat.le_refl _)) (Below.refl _ _) (Nat.le_refl _) (by simp) ?_; (case hd => rfl); (case hg => rfl); (case hr => first | (go_simp; done) | (go_simp; rfl)); (case hp => exact (Reps.c5 (show Kd.FK k31 _ _ (⟨1, 0, 0, ([] : List ByteArray), ([] : List Int)⟩ : S31) [.int .i64 1, .int .i64 0, .int .i64 0, .slice none 0 0, .slice none 0 0] from (k31_mkF _ _ (⟨1, 0, 0, ([] : List ByteArray), ([] : List Int)⟩ : S31) (Nat.le_refl _) (Kd.F_nil _ _ _) (Nat.le_refl _) (Kd.F_nil _ _ _))) (Reps.c5 (show Kd.FK k31 _ _ (⟨3, 0, 0, ([] : List ByteArray), ([] : List Int)⟩ : S31) [.int .i64 3, .int .i64 0, .int .i64 0, .slice none 0 0, .slice none 0 0] from (k31_mkF _ _ (⟨3, 0, 0, ([] : List ByteArray), ([] : List Int)⟩ : S31) (Nat.le_refl _) (Kd.F_nil _ _ _) (Nat.le_refl _) (Kd.F_nil _ _ _))) (Reps.c5 (show Kd.FK k31 _ _ (⟨9, 0, 0, y182, y185⟩ : S31) [.int .i64 9, .int .i64 0, .int .i64 0, .slice Ao36 y182.length co36, .slice Ao35 y185.length co35] from (k31_mkF _ _ (⟨9, 0, 0, y182, y185⟩ : S31) (Kd.R_reads' (Kd.R_mono (ok' := (fun _ => True)) (HO184.out) (fun k_ hk => trivial))).2.1 (Kd.R_F (Kd.R_mono (ok' := (fun _ => True)) (HO184.out) (fun k_ hk => trivial))) (Kd.R_reads' (Kd.R_mono (ok' := (fun _ => True)) (HO187.out) (fun k_ hk => trivial))).2.1 (Kd.R_F (Kd.R_mono (ok' := (fun _ => True)) (HO187.out) (fun k_ hk => trivial))))) (Reps.none _ _))))); intro v189 w37 ho38 hb hg_ hnew_; clear hg_ hnew_; (first | rw [← Ny188.out] at ho38 | (simp only [Int.reduceToNat] at ho38; rw [← Ny188.out] at ho38)); have HO190 := Aside0.mk (Kd.N_lower ho38 (below_size (zw0 HB.out))); have n1_ := Aside0.mk (below_step (zw0 HB.out) hb); clear HB HO184 HO187; have HB := n1_; clear n1_; clear hb ho38; obtain ⟨Ao39, co39, eo39⟩ := Kd.N_slice HO190.out; subst eo39) | ((with_reducible refine gate_callee (f := 19) rfl ?_); refine zgo (some 16) Try.func19 #[.agg #[.bool false, .int .i64 4], .slice Ao39 y188.length co39, .int .i64 2] ?_; (with_reducible refine (lay_Size.calls k false 4 _ _ y188 2 t191 t192 _ ?side1 ?side2 A1.out).mono ?_); (case side1 => repeat (first | exact (Kd.N_reads' HO190.out).2.2 | (with_reducible refine Kd.C_alloc ?_ _) | (with_reducible refine Kd.C_drewN ?_ _) | (with_reducible refine Kd.C_drew ?_))); (case side2 => exact (Kd.N_reads' HO190.out).2.1); rintro e w40 ⟨rfl, hb⟩; refine ⟨_, rfl, ?_⟩; have n0_ := Aside0.mk (Kd.N_below (by (with_reducible repeat (first | apply Kd.N_alloc | apply Kd.N_drewN | apply Kd.N_drew)); exact HO190.out) hb); have n1_ := Aside0.mk (below_step (zw0 HB.out) hb); clear HO190 HB; have HO190 := n0_; have HB := n1_; clear n0_ n1_; (try clear hb); (try clear hb2); (try clear hk); (try clear hi)) | ((with_reducible refine gate_callee (f := 21) rfl ?_); refine zgo (some 22) Try.func21 #[.agg #[.bool false, .int .i64 4], .slice Ao39 y188.length co39, .int .i64 2, .string (⟨#[98]⟩ : ByteArray)] ?_; (with_reducible refine (lay_Field.calls k false 4 _ _ y188 2 (⟨#[98]⟩ : ByteArray) t193 t194 t195 _ ?side1 ?side2 A2.out).mono ?_); (case side1 => repeat (first | exact (Kd.N_reads' HO190.out).2.2 | (with_reducible refine Kd.C_alloc ?_ _) | (with_reducible refine Kd.C_drewN ?_ _) | (with_reducible refine Kd.C_drew ?_))); (case side2 => exact (Kd.N_reads' HO190.out).2.1); rintro e w41 ⟨rfl, hb⟩; refine ⟨_, rfl, ?_⟩; have n0_ := Aside0.mk (Kd.N_below (by (with_reducible repeat (first | apply Kd.N_alloc | apply Kd.N_drewN | apply Kd.N_drew)); exact HO190.out) hb); have n1_ := Aside0.mk (below_step (zw0 HB.out) hb); clear HO190 HB; have HO190 := n0_; have HB := n1_; clear n0_ n1_; (try clear hb); (try clear hb2); (try clear hk); (try clear hi)) | ((with_reducible refine gate_callee (f := 11) rfl ?_); refine zgo (some 27) Try.func11 #[.int .i64 t192] ?_; (with_reducible refine (cellarlaw7_num.calls t192 t196 _ A3.out).mono ?_); rintro e w' ⟨rfl, ⟨nd, rfl⟩⟩; refine ⟨_, rfl, ?_⟩) | (go_at_call 11; (with_reducible refine (cellarlaw7_num.calls t195 t197 _ A5.out).mono ?_); rintro e w' ⟨rfl, ⟨nd, rfl⟩⟩))
   go_ret
   exact ⟨ze, zw0 HB.out⟩
  rw [if_pos c7] at H
  have c7b0 : (t191 == 4) = true := beq_iff_eq.mpr c7
  have c7b1 : (t191 != 4) = false := bne_eq_false_iff_eq.mpr c7
  clear c7
  by_cases c8 : t193 = 2
  rotate_left
  ·rw [if_neg c8] at H
   have c8b0 : (t193 == 2) = false := beq_eq_false_iff_ne.mpr c8
   have c8b1 : (t193 != 2) = true := bne_iff_ne.mpr c8
   obtain rfl := Option.some.inj H
   go_enter Try.func13, Try.ntmps13
   go_wp2_with (first | ((with_reducible refine gate_dst (N := 9) rfl ?_); refine Kd.R_lit Kd.string _ 9 ?hg (N := 9) ?hd (xs := ([(⟨#[97]⟩ : ByteArray), (⟨#[98]⟩ : ByteArray)] : List ByteArray)) (inner := [.string (⟨#[97]⟩ : ByteArray), .string (⟨#[98]⟩ : ByteArray)]) (ok := fun _ => True) (okp := fun _ => True) ?hr ?hp (fun _ hk => hk) trivial (Below.refl _ _) (Nat.le_refl _) (by simp) ?_; (case hd => rfl); (case hg => rfl); (case hr => first | (go_simp; done) | (go_simp; rfl)); (case hp => exact (Reps.one (show Kd.M Kd.string _ _ _ (⟨#[97]⟩ : ByteArray) [.string (⟨#[97]⟩ : ByteArray)] from rfl) (Reps.one (show Kd.M Kd.string _ _ _ (⟨#[98]⟩ : ByteArray) [.string (⟨#[98]⟩ : ByteArray)] from rfl) (Reps.none _ _)))); intro v183 w20 ho21 hb hg_ hnew_; clear hg_ hnew_; (first | rw [← Ny182.out] at ho21 | (simp only [Int.reduceToNat] at ho21; rw [← Ny182.out] at ho21)); have HO184 := Aside0.mk (Kd.R_lower ho21 (below_size (zw0 HB.out))); have n1_ := Aside0.mk (below_step (zw0 HB.out) hb); clear HB; have HB := n1_; clear n1_; clear hb ho21) | ((with_reducible refine gate_dst (N := 10) rfl ?_); refine Kd.R_lit (Kd.int .i64) _ 3 ?hg (N := 10) ?hd (xs := ([0, 1] : List Int)) (inner := [.int .i64 0, .int .i64 1]) (ok := fun _ => True) (okp := fun _ => True) ?hr ?hp (fun _ hk => hk) trivial (Below.refl _ _) (Nat.le_refl _) (by simp) ?_; (case hd => rfl); (case hg => rfl); (case hr => first | (go_simp; done) | (go_simp; rfl)); (case hp => exact (Reps.one (show Kd.M (Kd.int .i64) _ _ _ 0 [.int .i64 0] from rfl) (Reps.one (show Kd.M (Kd.int .i64) _ _ _ 1 [.int .i64 1] from rfl) (Reps.none _ _)))); intro v186 w22 ho23 hb hg_ hnew_; clear hg_ hnew_; (first | rw [← Ny185.out] at ho23 | (simp only [Int.reduceToNat] at ho23; rw [← Ny185.out] at ho23)); have n0_ := Aside0.mk (Kd.R_below (by (with_reducible repeat (first | apply Kd.R_alloc | apply Kd.R_drewN | apply Kd.R_drew)); exact HO184.out) hb); have HO187 := Aside0.mk (Kd.R_lower ho23 (below_size (zw0 HB.out))); have n2_ := Aside0.mk (below_step (zw0 HB.out) hb); clear HO184 HB; have HO184 := n0_; have HB := n2_; clear n0_ n2_; clear hb ho23; obtain ⟨Ao24, co24, eo24⟩ := Kd.R_slice HO187.out; subst eo24; obtain ⟨Ao25, co25, eo25⟩ := Kd.R_slice HO184.out; subst eo25) | ((with_reducible refine gate_dst (N := 12) rfl ?_); refine Kd.N_lit k31 _ 31 ?hg (N' := 12) ?hd (xs := ([(⟨1, 0, 0, ([] : List ByteArray), ([] : List Int)⟩ : S31), (⟨3, 0, 0, ([] : List ByteArray), ([] : List Int)⟩ : S31), (⟨9, 0, 0, y182, y185⟩ : S31)] : List (S31))) (inner := [.int .i64 1, .int .i64 0, .int .i64 0, .slice none 0 0, .slice none 0 0, .int .i64 3, .int .i64 0, .int .i64 0, .slice none 0 0, .slice none 0 0, .int .i64 9, .int .i64 0, .int .i64 0, .slice Ao25 y182.length co25, .slice Ao24 y185.length co24]) (ok := (fun _ => True)) (okp := (fun _ => True)) ?hr ?hp (fun _ hk => hk) ((show ∀ k_, w22.heap.size ≤ k_ → (fun _ => True) k_ from fun k_ hk => trivial) _ (Nat.le_refl _)) (Below.refl _ _) (Nat.le_refl _) (by simp) ?_; (case hd => rfl); (case hg => rfl); (case hr => first | (go_simp; done) | (go_simp; rfl)); (case hp => exact (Reps.c5 (show Kd.FK k31 _ _ (⟨1, 0, 0, ([] : List ByteArray), ([] : List Int)⟩ : S31) [.int .i64 1, .int .i64 0, .int .i64 0, .slice none 0 0, .slice none 0 0] from (k31_mkF _ _ (⟨1, 0, 0, ([] : List ByteArray), ([] : List Int)⟩ : S31) (Nat.le_refl _) (Kd.F_nil _ _ _) (Nat.le_refl _) (Kd.F_nil _ _ _))) (Reps.c5 (show Kd.FK k31 _ _ (⟨3, 0, 0, ([] : List ByteArray), ([] : List Int)⟩ : S31) [.int .i64 3, .int .i64 0, .int .i64 0, .slice none 0 0, .slice none 0 0] from (k31_mkF _ _ (⟨3, 0, 0, ([] : List ByteArray), ([] : List Int)⟩ : S31) (Nat.le_refl _) (Kd.F_nil _ _ _) (Nat.le_refl _) (Kd.F_nil _ _ _))) (Reps.c5 (show Kd.FK k31 _ _ (⟨9, 0, 0, y182, y185⟩ : S31) [.int .i64 9, .int .i64 0, .int .i64 0, .slice Ao25 y182.length co25, .slice Ao24 y185.length co24] from (k31_mkF _ _ (⟨9, 0, 0, y182, y185⟩ : S31) (Kd.R_reads' (Kd.R_mono (ok' := (fun _ => True)) (HO184.out) (fun k_ hk => trivial))).2.1 (Kd.R_F (Kd.R_mono (ok' := (fun _ => True)) (HO184.out) (fun k_ hk => trivial))) (Kd.R_reads' (Kd.R_mono (ok' := (fun _ => True)) (HO187.out) (fun k_ hk => trivial))).2.1 (Kd.R_F (Kd.R_mono (ok' := (fun _ => True)) (HO187.out) (fun k_ hk => trivial))))) (Reps.none _ _))))); intro v189 w26 ho27 hb hg_ hnew_; clear hg_ hnew_; (first | rw [← Ny188.out] at ho27 | (simp only [Int.reduceToNat] at ho27; rw [← Ny188.out] at ho27)); have HO190 := Aside0.mk (Kd.N_lower ho27 (below_size (zw0 HB.out))); have n1_ := Aside0.mk (below_step (zw0 HB.out) hb); clear HB HO184 HO187; have HB := n1_; clear n1_; clear hb ho27; obtain ⟨Ao28, co28, eo28⟩ := Kd.N_slice HO190.out; subst eo28) | ((with_reducible refine gate_callee (f := 19) rfl ?_); refine zgo (some 16) Try.func19 #[.agg #[.bool false, .int .i64 4], .slice Ao28 y188.length co28, .int .i64 2] ?_; (with_reducible refine (lay_Size.calls k false 4 _ _ y188 2 t191 t192 _ ?side1 ?side2 A1.out).mono ?_); (case side1 => repeat (first | exact (Kd.N_reads' HO190.out).2.2 | (with_reducible refine Kd.C_alloc ?_ _) | (with_reducible refine Kd.C_drewN ?_ _) | (with_reducible refine Kd.C_drew ?_))); (case side2 => exact (Kd.N_reads' HO190.out).2.1); rintro e w29 ⟨rfl, hb⟩; refine ⟨_, rfl, ?_⟩; have n0_ := Aside0.mk (Kd.N_below (by (with_reducible repeat (first | apply Kd.N_alloc | apply Kd.N_drewN | apply Kd.N_drew)); exact HO190.out) hb); have n1_ := Aside0.mk (below_step (zw0 HB.out) hb); clear HO190 HB; have HO190 := n0_; have HB := n1_; clear n0_ n1_; (try clear hb); (try clear hb2); (try clear hk); (try clear hi)) | ((with_reducible refine gate_callee (f := 21) rfl ?_); refine zgo (some 22) Try.func21 #[.agg #[.bool false, .int .i64 4], .slice Ao28 y188.length co28, .int .i64 2, .string (⟨#[98]⟩ : ByteArray)] ?_; (with_reducible refine (lay_Field.calls k false 4 _ _ y188 2 (⟨#[98]⟩ : ByteArray) t193 t194 t195 _ ?side1 ?side2 A2.out).mono ?_); (case side1 => repeat (first | exact (Kd.N_reads' HO190.out).2.2 | (with_reducible refine Kd.C_alloc ?_ _) | (with_reducible refine Kd.C_drewN ?_ _) | (with_reducible refine Kd.C_drew ?_))); (case side2 => exact (Kd.N_reads' HO190.out).2.1); rintro e w30 ⟨rfl, hb⟩; refine ⟨_, rfl, ?_⟩; have n0_ := Aside0.mk (Kd.N_below (by (with_reducible repeat (first | apply Kd.N_alloc | apply Kd.N_drewN | apply Kd.N_drew)); exact HO190.out) hb); have n1_ := Aside0.mk (below_step (zw0 HB.out) hb); clear HO190 HB; have HO190 := n0_; have HB := n1_; clear n0_ n1_; (try clear hb); (try clear hb2); (try clear hk); (try clear hi)) | ((with_reducible refine gate_callee (f := 11) rfl ?_); refine zgo (some 27) Try.func11 #[.int .i64 t192] ?_; (with_reducible refine (cellarlaw7_num.calls t192 t196 _ A3.out).mono ?_); rintro e w' ⟨rfl, ⟨nd, rfl⟩⟩; refine ⟨_, rfl, ?_⟩) | (go_at_call 11; (with_reducible refine (cellarlaw7_num.calls t195 t197 _ A5.out).mono ?_); rintro e w' ⟨rfl, ⟨nd, rfl⟩⟩))
   go_ret
   exact ⟨ze, zw0 HB.out⟩
  rw [if_pos c8] at H
  have c8b0 : (t193 == 2) = true := beq_iff_eq.mpr c8
  have c8b1 : (t193 != 2) = false := bne_eq_false_iff_eq.mpr c8
  clear c8
  obtain rfl := Option.some.inj H
  go_enter Try.func13, Try.ntmps13
  go_wp2_with (first | ((with_reducible refine gate_dst (N := 9) rfl ?_); refine Kd.R_lit Kd.string _ 9 ?hg (N := 9) ?hd (xs := ([(⟨#[97]⟩ : ByteArray), (⟨#[98]⟩ : ByteArray)] : List ByteArray)) (inner := [.string (⟨#[97]⟩ : ByteArray), .string (⟨#[98]⟩ : ByteArray)]) (ok := fun _ => True) (okp := fun _ => True) ?hr ?hp (fun _ hk => hk) trivial (Below.refl _ _) (Nat.le_refl _) (by simp) ?_; (case hd => rfl); (case hg => rfl); (case hr => first | (go_simp; done) | (go_simp; rfl)); (case hp => exact (Reps.one (show Kd.M Kd.string _ _ _ (⟨#[97]⟩ : ByteArray) [.string (⟨#[97]⟩ : ByteArray)] from rfl) (Reps.one (show Kd.M Kd.string _ _ _ (⟨#[98]⟩ : ByteArray) [.string (⟨#[98]⟩ : ByteArray)] from rfl) (Reps.none _ _)))); intro v183 w9 ho10 hb hg_ hnew_; clear hg_ hnew_; (first | rw [← Ny182.out] at ho10 | (simp only [Int.reduceToNat] at ho10; rw [← Ny182.out] at ho10)); have HO184 := Aside0.mk (Kd.R_lower ho10 (below_size (zw0 HB.out))); have n1_ := Aside0.mk (below_step (zw0 HB.out) hb); clear HB; have HB := n1_; clear n1_; clear hb ho10) | ((with_reducible refine gate_dst (N := 10) rfl ?_); refine Kd.R_lit (Kd.int .i64) _ 3 ?hg (N := 10) ?hd (xs := ([0, 1] : List Int)) (inner := [.int .i64 0, .int .i64 1]) (ok := fun _ => True) (okp := fun _ => True) ?hr ?hp (fun _ hk => hk) trivial (Below.refl _ _) (Nat.le_refl _) (by simp) ?_; (case hd => rfl); (case hg => rfl); (case hr => first | (go_simp; done) | (go_simp; rfl)); (case hp => exact (Reps.one (show Kd.M (Kd.int .i64) _ _ _ 0 [.int .i64 0] from rfl) (Reps.one (show Kd.M (Kd.int .i64) _ _ _ 1 [.int .i64 1] from rfl) (Reps.none _ _)))); intro v186 w11 ho12 hb hg_ hnew_; clear hg_ hnew_; (first | rw [← Ny185.out] at ho12 | (simp only [Int.reduceToNat] at ho12; rw [← Ny185.out] at ho12)); have n0_ := Aside0.mk (Kd.R_below (by (with_reducible repeat (first | apply Kd.R_alloc | apply Kd.R_drewN | apply Kd.R_drew)); exact HO184.out) hb); have HO187 := Aside0.mk (Kd.R_lower ho12 (below_size (zw0 HB.out))); have n2_ := Aside0.mk (below_step (zw0 HB.out) hb); clear HO184 HB; have HO184 := n0_; have HB := n2_; clear n0_ n2_; clear hb ho12; obtain ⟨Ao13, co13, eo13⟩ := Kd.R_slice HO187.out; subst eo13; obtain ⟨Ao14, co14, eo14⟩ := Kd.R_slice HO184.out; subst eo14) | ((with_reducible refine gate_dst (N := 12) rfl ?_); refine Kd.N_lit k31 _ 31 ?hg (N' := 12) ?hd (xs := ([(⟨1, 0, 0, ([] : List ByteArray), ([] : List Int)⟩ : S31), (⟨3, 0, 0, ([] : List ByteArray), ([] : List Int)⟩ : S31), (⟨9, 0, 0, y182, y185⟩ : S31)] : List (S31))) (inner := [.int .i64 1, .int .i64 0, .int .i64 0, .slice none 0 0, .slice none 0 0, .int .i64 3, .int .i64 0, .int .i64 0, .slice none 0 0, .slice none 0 0, .int .i64 9, .int .i64 0, .int .i64 0, .slice Ao14 y182.length co14, .slice Ao13 y185.length co13]) (ok := (fun _ => True)) (okp := (fun _ => True)) ?hr ?hp (fun _ hk => hk) ((show ∀ k_, w11.heap.size ≤ k_ → (fun _ => True) k_ from fun k_ hk => trivial) _ (Nat.le_refl _)) (Below.refl _ _) (Nat.le_refl _) (by simp) ?_; (case hd => rfl); (case hg => rfl); (case hr => first | (go_simp; done) | (go_simp; rfl)); (case hp => exact (Reps.c5 (show Kd.FK k31 _ _ (⟨1, 0, 0, ([] : List ByteArray), ([] : List Int)⟩ : S31) [.int .i64 1, .int .i64 0, .int .i64 0, .slice none 0 0, .slice none 0 0] from (k31_mkF _ _ (⟨1, 0, 0, ([] : List ByteArray), ([] : List Int)⟩ : S31) (Nat.le_refl _) (Kd.F_nil _ _ _) (Nat.le_refl _) (Kd.F_nil _ _ _))) (Reps.c5 (show Kd.FK k31 _ _ (⟨3, 0, 0, ([] : List ByteArray), ([] : List Int)⟩ : S31) [.int .i64 3, .int .i64 0, .int .i64 0, .slice none 0 0, .slice none 0 0] from (k31_mkF _ _ (⟨3, 0, 0, ([] : List ByteArray), ([] : List Int)⟩ : S31) (Nat.le_refl _) (Kd.F_nil _ _ _) (Nat.le_refl _) (Kd.F_nil _ _ _))) (Reps.c5 (show Kd.FK k31 _ _ (⟨9, 0, 0, y182, y185⟩ : S31) [.int .i64 9, .int .i64 0, .int .i64 0, .slice Ao14 y182.length co14, .slice Ao13 y185.length co13] from (k31_mkF _ _ (⟨9, 0, 0, y182, y185⟩ : S31) (Kd.R_reads' (Kd.R_mono (ok' := (fun _ => True)) (HO184.out) (fun k_ hk => trivial))).2.1 (Kd.R_F (Kd.R_mono (ok' := (fun _ => True)) (HO184.out) (fun k_ hk => trivial))) (Kd.R_reads' (Kd.R_mono (ok' := (fun _ => True)) (HO187.out) (fun k_ hk => trivial))).2.1 (Kd.R_F (Kd.R_mono (ok' := (fun _ => True)) (HO187.out) (fun k_ hk => trivial))))) (Reps.none _ _))))); intro v189 w15 ho16 hb hg_ hnew_; clear hg_ hnew_; (first | rw [← Ny188.out] at ho16 | (simp only [Int.reduceToNat] at ho16; rw [← Ny188.out] at ho16)); have HO190 := Aside0.mk (Kd.N_lower ho16 (below_size (zw0 HB.out))); have n1_ := Aside0.mk (below_step (zw0 HB.out) hb); clear HB HO184 HO187; have HB := n1_; clear n1_; clear hb ho16; obtain ⟨Ao17, co17, eo17⟩ := Kd.N_slice HO190.out; subst eo17) | ((with_reducible refine gate_callee (f := 19) rfl ?_); refine zgo (some 16) Try.func19 #[.agg #[.bool false, .int .i64 4], .slice Ao17 y188.length co17, .int .i64 2] ?_; (with_reducible refine (lay_Size.calls k false 4 _ _ y188 2 t191 t192 _ ?side1 ?side2 A1.out).mono ?_); (case side1 => repeat (first | exact (Kd.N_reads' HO190.out).2.2 | (with_reducible refine Kd.C_alloc ?_ _) | (with_reducible refine Kd.C_drewN ?_ _) | (with_reducible refine Kd.C_drew ?_))); (case side2 => exact (Kd.N_reads' HO190.out).2.1); rintro e w18 ⟨rfl, hb⟩; refine ⟨_, rfl, ?_⟩; have n0_ := Aside0.mk (Kd.N_below (by (with_reducible repeat (first | apply Kd.N_alloc | apply Kd.N_drewN | apply Kd.N_drew)); exact HO190.out) hb); have n1_ := Aside0.mk (below_step (zw0 HB.out) hb); clear HO190 HB; have HO190 := n0_; have HB := n1_; clear n0_ n1_; (try clear hb); (try clear hb2); (try clear hk); (try clear hi)) | ((with_reducible refine gate_callee (f := 21) rfl ?_); refine zgo (some 22) Try.func21 #[.agg #[.bool false, .int .i64 4], .slice Ao17 y188.length co17, .int .i64 2, .string (⟨#[98]⟩ : ByteArray)] ?_; (with_reducible refine (lay_Field.calls k false 4 _ _ y188 2 (⟨#[98]⟩ : ByteArray) t193 t194 t195 _ ?side1 ?side2 A2.out).mono ?_); (case side1 => repeat (first | exact (Kd.N_reads' HO190.out).2.2 | (with_reducible refine Kd.C_alloc ?_ _) | (with_reducible refine Kd.C_drewN ?_ _) | (with_reducible refine Kd.C_drew ?_))); (case side2 => exact (Kd.N_reads' HO190.out).2.1); rintro e w19 ⟨rfl, hb⟩; refine ⟨_, rfl, ?_⟩; have n0_ := Aside0.mk (Kd.N_below (by (with_reducible repeat (first | apply Kd.N_alloc | apply Kd.N_drewN | apply Kd.N_drew)); exact HO190.out) hb); have n1_ := Aside0.mk (below_step (zw0 HB.out) hb); clear HO190 HB; have HO190 := n0_; have HB := n1_; clear n0_ n1_; (try clear hb); (try clear hb2); (try clear hk); (try clear hi)) | ((with_reducible refine gate_callee (f := 11) rfl ?_); refine zgo (some 27) Try.func11 #[.int .i64 t192] ?_; (with_reducible refine (cellarlaw7_num.calls t192 t196 _ A3.out).mono ?_); rintro e w' ⟨rfl, ⟨nd, rfl⟩⟩; refine ⟨_, rfl, ?_⟩) | (go_at_call 11; (with_reducible refine (cellarlaw7_num.calls t195 t197 _ A5.out).mono ?_); rintro e w' ⟨rfl, ⟨nd, rfl⟩⟩))
  go_ret
  exact ⟨ze, zw0 HB.out⟩
 ·rw [if_neg c4] at H
  have c4b0 : (t196 == 0) = false := beq_eq_false_iff_ne.mpr c4
  have c4b1 : (t196 != 0) = true := bne_iff_ne.mpr c4
  obtain rfl := Option.some.inj H
  go_enter Try.func13, Try.ntmps13
  go_wp2_with (first | ((with_reducible refine gate_dst (N := 9) rfl ?_); refine Kd.R_lit Kd.string _ 9 ?hg (N := 9) ?hd (xs := ([(⟨#[97]⟩ : ByteArray), (⟨#[98]⟩ : ByteArray)] : List ByteArray)) (inner := [.string (⟨#[97]⟩ : ByteArray), .string (⟨#[98]⟩ : ByteArray)]) (ok := fun _ => True) (okp := fun _ => True) ?hr ?hp (fun _ hk => hk) trivial (Below.refl _ _) (Nat.le_refl _) (by simp) ?_; (case hd => rfl); (case hg => rfl); (case hr => first | (go_simp; done) | (go_simp; rfl)); (case hp => exact (Reps.one (show Kd.M Kd.string _ _ _ (⟨#[97]⟩ : ByteArray) [.string (⟨#[97]⟩ : ByteArray)] from rfl) (Reps.one (show Kd.M Kd.string _ _ _ (⟨#[98]⟩ : ByteArray) [.string (⟨#[98]⟩ : ByteArray)] from rfl) (Reps.none _ _)))); intro v183 w53 ho54 hb hg_ hnew_; clear hg_ hnew_; (first | rw [← Ny182.out] at ho54 | (simp only [Int.reduceToNat] at ho54; rw [← Ny182.out] at ho54)); have HO184 := Aside0.mk (Kd.R_lower ho54 (below_size (zw0 HB.out))); have n1_ := Aside0.mk (below_step (zw0 HB.out) hb); clear HB; have HB := n1_; clear n1_; clear hb ho54) | ((with_reducible refine gate_dst (N := 10) rfl ?_); refine Kd.R_lit (Kd.int .i64) _ 3 ?hg (N := 10) ?hd (xs := ([0, 1] : List Int)) (inner := [.int .i64 0, .int .i64 1]) (ok := fun _ => True) (okp := fun _ => True) ?hr ?hp (fun _ hk => hk) trivial (Below.refl _ _) (Nat.le_refl _) (by simp) ?_; (case hd => rfl); (case hg => rfl); (case hr => first | (go_simp; done) | (go_simp; rfl)); (case hp => exact (Reps.one (show Kd.M (Kd.int .i64) _ _ _ 0 [.int .i64 0] from rfl) (Reps.one (show Kd.M (Kd.int .i64) _ _ _ 1 [.int .i64 1] from rfl) (Reps.none _ _)))); intro v186 w55 ho56 hb hg_ hnew_; clear hg_ hnew_; (first | rw [← Ny185.out] at ho56 | (simp only [Int.reduceToNat] at ho56; rw [← Ny185.out] at ho56)); have n0_ := Aside0.mk (Kd.R_below (by (with_reducible repeat (first | apply Kd.R_alloc | apply Kd.R_drewN | apply Kd.R_drew)); exact HO184.out) hb); have HO187 := Aside0.mk (Kd.R_lower ho56 (below_size (zw0 HB.out))); have n2_ := Aside0.mk (below_step (zw0 HB.out) hb); clear HO184 HB; have HO184 := n0_; have HB := n2_; clear n0_ n2_; clear hb ho56; obtain ⟨Ao57, co57, eo57⟩ := Kd.R_slice HO187.out; subst eo57; obtain ⟨Ao58, co58, eo58⟩ := Kd.R_slice HO184.out; subst eo58) | ((with_reducible refine gate_dst (N := 12) rfl ?_); refine Kd.N_lit k31 _ 31 ?hg (N' := 12) ?hd (xs := ([(⟨1, 0, 0, ([] : List ByteArray), ([] : List Int)⟩ : S31), (⟨3, 0, 0, ([] : List ByteArray), ([] : List Int)⟩ : S31), (⟨9, 0, 0, y182, y185⟩ : S31)] : List (S31))) (inner := [.int .i64 1, .int .i64 0, .int .i64 0, .slice none 0 0, .slice none 0 0, .int .i64 3, .int .i64 0, .int .i64 0, .slice none 0 0, .slice none 0 0, .int .i64 9, .int .i64 0, .int .i64 0, .slice Ao58 y182.length co58, .slice Ao57 y185.length co57]) (ok := (fun _ => True)) (okp := (fun _ => True)) ?hr ?hp (fun _ hk => hk) ((show ∀ k_, w55.heap.size ≤ k_ → (fun _ => True) k_ from fun k_ hk => trivial) _ (Nat.le_refl _)) (Below.refl _ _) (Nat.le_refl _) (by simp) ?_; (case hd => rfl); (case hg => rfl); (case hr => first | (go_simp; done) | (go_simp; rfl)); (case hp => exact (Reps.c5 (show Kd.FK k31 _ _ (⟨1, 0, 0, ([] : List ByteArray), ([] : List Int)⟩ : S31) [.int .i64 1, .int .i64 0, .int .i64 0, .slice none 0 0, .slice none 0 0] from (k31_mkF _ _ (⟨1, 0, 0, ([] : List ByteArray), ([] : List Int)⟩ : S31) (Nat.le_refl _) (Kd.F_nil _ _ _) (Nat.le_refl _) (Kd.F_nil _ _ _))) (Reps.c5 (show Kd.FK k31 _ _ (⟨3, 0, 0, ([] : List ByteArray), ([] : List Int)⟩ : S31) [.int .i64 3, .int .i64 0, .int .i64 0, .slice none 0 0, .slice none 0 0] from (k31_mkF _ _ (⟨3, 0, 0, ([] : List ByteArray), ([] : List Int)⟩ : S31) (Nat.le_refl _) (Kd.F_nil _ _ _) (Nat.le_refl _) (Kd.F_nil _ _ _))) (Reps.c5 (show Kd.FK k31 _ _ (⟨9, 0, 0, y182, y185⟩ : S31) [.int .i64 9, .int .i64 0, .int .i64 0, .slice Ao58 y182.length co58, .slice Ao57 y185.length co57] from (k31_mkF _ _ (⟨9, 0, 0, y182, y185⟩ : S31) (Kd.R_reads' (Kd.R_mono (ok' := (fun _ => True)) (HO184.out) (fun k_ hk => trivial))).2.1 (Kd.R_F (Kd.R_mono (ok' := (fun _ => True)) (HO184.out) (fun k_ hk => trivial))) (Kd.R_reads' (Kd.R_mono (ok' := (fun _ => True)) (HO187.out) (fun k_ hk => trivial))).2.1 (Kd.R_F (Kd.R_mono (ok' := (fun _ => True)) (HO187.out) (fun k_ hk => trivial))))) (Reps.none _ _))))); intro v189 w59 ho60 hb hg_ hnew_; clear hg_ hnew_; (first | rw [← Ny188.out] at ho60 | (simp only [Int.reduceToNat] at ho60; rw [← Ny188.out] at ho60)); have HO190 := Aside0.mk (Kd.N_lower ho60 (below_size (zw0 HB.out))); have n1_ := Aside0.mk (below_step (zw0 HB.out) hb); clear HB HO184 HO187; have HB := n1_; clear n1_; clear hb ho60; obtain ⟨Ao61, co61, eo61⟩ := Kd.N_slice HO190.out; subst eo61) | ((with_reducible refine gate_callee (f := 19) rfl ?_); refine zgo (some 16) Try.func19 #[.agg #[.bool false, .int .i64 4], .slice Ao61 y188.length co61, .int .i64 2] ?_; (with_reducible refine (lay_Size.calls k false 4 _ _ y188 2 t191 t192 _ ?side1 ?side2 A1.out).mono ?_); (case side1 => repeat (first | exact (Kd.N_reads' HO190.out).2.2 | (with_reducible refine Kd.C_alloc ?_ _) | (with_reducible refine Kd.C_drewN ?_ _) | (with_reducible refine Kd.C_drew ?_))); (case side2 => exact (Kd.N_reads' HO190.out).2.1); rintro e w62 ⟨rfl, hb⟩; refine ⟨_, rfl, ?_⟩; have n0_ := Aside0.mk (Kd.N_below (by (with_reducible repeat (first | apply Kd.N_alloc | apply Kd.N_drewN | apply Kd.N_drew)); exact HO190.out) hb); have n1_ := Aside0.mk (below_step (zw0 HB.out) hb); clear HO190 HB; have HO190 := n0_; have HB := n1_; clear n0_ n1_; (try clear hb); (try clear hb2); (try clear hk); (try clear hi)) | ((with_reducible refine gate_callee (f := 21) rfl ?_); refine zgo (some 22) Try.func21 #[.agg #[.bool false, .int .i64 4], .slice Ao61 y188.length co61, .int .i64 2, .string (⟨#[98]⟩ : ByteArray)] ?_; (with_reducible refine (lay_Field.calls k false 4 _ _ y188 2 (⟨#[98]⟩ : ByteArray) t193 t194 t195 _ ?side1 ?side2 A2.out).mono ?_); (case side1 => repeat (first | exact (Kd.N_reads' HO190.out).2.2 | (with_reducible refine Kd.C_alloc ?_ _) | (with_reducible refine Kd.C_drewN ?_ _) | (with_reducible refine Kd.C_drew ?_))); (case side2 => exact (Kd.N_reads' HO190.out).2.1); rintro e w63 ⟨rfl, hb⟩; refine ⟨_, rfl, ?_⟩; have n0_ := Aside0.mk (Kd.N_below (by (with_reducible repeat (first | apply Kd.N_alloc | apply Kd.N_drewN | apply Kd.N_drew)); exact HO190.out) hb); have n1_ := Aside0.mk (below_step (zw0 HB.out) hb); clear HO190 HB; have HO190 := n0_; have HB := n1_; clear n0_ n1_; (try clear hb); (try clear hb2); (try clear hk); (try clear hi)) | ((with_reducible refine gate_callee (f := 11) rfl ?_); refine zgo (some 27) Try.func11 #[.int .i64 t192] ?_; (with_reducible refine (cellarlaw7_num.calls t192 t196 _ A3.out).mono ?_); rintro e w' ⟨rfl, ⟨nd, rfl⟩⟩; refine ⟨_, rfl, ?_⟩))
  go_ret
  exact ⟨ze, zw0 HB.out⟩

/-! cellarlaw0_Texts -/
def cellarlaw0_Texts.l0 : Nat → List ByteArray → Int → Int → Option (Int)
 | 0, _, _, _ => none
 | k + 1, x0, x3, x4 => if x4 < (x0.length : Int) then (if x3 < 1048576 then (if 0 ≤ x4 then (cellarlaw0_Texts.l0 k x0 (wrap64 (x3 + ((rdOf ByteArray.empty x0 x4).size : Int))) (wrap64 (x4 + 1))) else (none)) else (some x3)) else (some x3)
def cellarlaw0_Texts.f (k : Nat) (l0 : List ByteArray) : Option (Int) := cellarlaw0_Texts.l0 k l0 (l0.length : Int) 0
theorem cellarlaw0_Texts.mono_l : ∀ k, (∀ y0 y1 y2, LeO (cellarlaw0_Texts.l0 k y0 y1 y2) (cellarlaw0_Texts.l0 (k + 1) y0 y1 y2))
 | 0 => fun _ _ _ r h => by simp [cellarlaw0_Texts.l0] at h
 | k + 1 => by
  have ih0 := cellarlaw0_Texts.mono_l k
  ·intro y0 y1 y2
   unfold cellarlaw0_Texts.l0
   repeat' first
   | (with_reducible apply ih0)
   | (with_reducible apply LeO.refl)
   | (with_reducible apply LeO.none)
   | (with_reducible refine LeO.ite ?_ ?_)
   | (with_reducible refine LeO.bind ?_ (fun _ => ?_))
theorem cellarlaw0_Texts.mono : ∀ a0 k, LeO (cellarlaw0_Texts.f k a0) (cellarlaw0_Texts.f (k + 1) a0) := by
 intro a0 k
 have ih0 := cellarlaw0_Texts.mono_l k
 unfold cellarlaw0_Texts.f
 repeat' first
   | (with_reducible apply ih0)
   | (with_reducible apply LeO.refl)
   | (with_reducible apply LeO.none)
   | (with_reducible refine LeO.ite ?_ ?_)
   | (with_reducible refine LeO.bind ?_ (fun _ => ?_))
set_option maxHeartbeats 8000000 in
set_option maxRecDepth 100000 in
theorem cellarlaw0_Texts.calls (k : Nat) (A0 : Option Addr) (c0 : Nat) (l0 : List ByteArray) (r : Int) (w : World) (hr0 : Kd.C Kd.string w A0 l0.length l0) (hc0 : l0.length ≤ c0) (h : cellarlaw0_Texts.f k l0 = some r) :
  Calls Try.prog 52 #[.slice A0 l0.length c0] w fun e w' => e = .returned (.int .i64 r) ∧ Drawn0 w w' := by
 have HR0 := Aside0.mk hr0
 have HC0 := Aside0.mk hc0
 clear hr0 hc0
 have H : (cellarlaw0_Texts.l0 k l0 (l0.length : Int) 0) = some r := h
 clear h
 have H' := Aside0.mk H
 clear H
 go_enter Try.func52, Try.ntmps52
 go_wp2
 go_loopg [3, 4] k (fun kq v3 v4 w' => ∃ (x3_1 : Int) (x4_1 : Int), v3 = .int .i64 x3_1 ∧ v4 = .int .i64 x4_1 ∧ Aside0 (cellarlaw0_Texts.l0 kq l0 x3_1 x4_1 = some r) ∧ Aside0 (kq ≤ k) ∧ Drawn0 w w')
 case atStart => exact ⟨((l0.length : Int)), (0), (zr), (zr), H', ⟨Nat.le_refl _⟩, by repeat (first | exact Drawn0.refl _ | apply Drawn0.step)⟩
 case round =>
  clear H'
  obtain ⟨x3_1, x4_1, rfl, rfl, HA, HK1, ⟨m1, rfl⟩⟩ := hrel
  cases gk with
  | zero => exact absurd HA.out (by simp [cellarlaw0_Texts.l0])
  | succ k1 =>
   have H := HA.out
   clear HA
   simp only [cellarlaw0_Texts.l0] at H
   by_cases c2 : x4_1 < (l0.length : Int)
   ·rw [if_pos c2] at H
    have c2b0 : decide (x4_1 < (l0.length : Int)) = true := decide_eq_true c2
    clear c2
    by_cases c3 : x3_1 < 1048576
    rotate_left
    ·rw [if_neg c3] at H
     have c3b0 : decide (x3_1 < 1048576) = false := decide_eq_false c3
     clear c3
     obtain rfl := Option.some.inj H
     go_wp2
     go_ret
     exact ⟨zr, by repeat (first | exact Drawn0.refl _ | apply Drawn0.step)⟩
    rw [if_pos c3] at H
    have c3b0 : decide (x3_1 < 1048576) = true := decide_eq_true c3
    clear c3
    by_cases c4 : 0 ≤ x4_1
    rotate_left
    ·rw [if_neg c4] at H
     exact absurd H (by simp)
    rw [if_pos c4] at H
    have c4b0 : decide (0 ≤ x4_1) = true := decide_eq_true c4
    clear c4
    have H' := Aside0.mk H
    clear H
    have p198 : 0 ≤ (x4_1 : Int) := zdec
    have q198 : x4_1 < (l0.length : Int) := zdec
    obtain ⟨ad198, e198, hx198_0⟩ := Kd.at_string HR0.out x4_1 p198 q198
    cases e198
    replace p198 := eq_true p198
    replace q198 := eq_true q198
    go_wp2
    go_roundg k1
    case measure => have := HK1.out; omega
    case rel => exact ⟨(wrap64 (x3_1 + ((rdOf ByteArray.empty l0 x4_1).size : Int))), (wrap64 (x4_1 + 1)), (zr), (zr), H', ⟨by have := HK1.out; omega⟩, by repeat (first | exact Drawn0.refl _ | apply Drawn0.step)⟩
   ·rw [if_neg c2] at H
    have c2b0 : decide (x4_1 < (l0.length : Int)) = false := decide_eq_false c2
    clear c2
    obtain rfl := Option.some.inj H
    go_wp2
    go_ret
    exact ⟨zr, by repeat (first | exact Drawn0.refl _ | apply Drawn0.step)⟩

/-! cellarlaw0_TypesWeight -/
def cellarlaw0_TypesWeight.l0 : Nat → List (S31) → Int → Int → Option (Int)
 | 0, _, _, _ => none
 | k + 1, x0, x3, x4 => if x4 < (x0.length : Int) then (if x3 < 1048576 then (if 0 ≤ x4 then (cellarlaw0_TypesWeight.l0 k x0 (wrap64 ((wrap64 (x3 + (((rd_T31 x0 x4).f3).length : Int))) + (((rd_T31 x0 x4).f4).length : Int))) (wrap64 (x4 + 1))) else (none)) else (some x3)) else (some x3)
def cellarlaw0_TypesWeight.f (k : Nat) (l0 : List (S31)) : Option (Int) := cellarlaw0_TypesWeight.l0 k l0 (l0.length : Int) 0
theorem cellarlaw0_TypesWeight.mono_l : ∀ k, (∀ y0 y1 y2, LeO (cellarlaw0_TypesWeight.l0 k y0 y1 y2) (cellarlaw0_TypesWeight.l0 (k + 1) y0 y1 y2))
 | 0 => fun _ _ _ r h => by simp [cellarlaw0_TypesWeight.l0] at h
 | k + 1 => by
  have ih0 := cellarlaw0_TypesWeight.mono_l k
  ·intro y0 y1 y2
   unfold cellarlaw0_TypesWeight.l0
   repeat' first
   | (with_reducible apply ih0)
   | (with_reducible apply LeO.refl)
   | (with_reducible apply LeO.none)
   | (with_reducible refine LeO.ite ?_ ?_)
   | (with_reducible refine LeO.bind ?_ (fun _ => ?_))
theorem cellarlaw0_TypesWeight.mono : ∀ a0 k, LeO (cellarlaw0_TypesWeight.f k a0) (cellarlaw0_TypesWeight.f (k + 1) a0) := by
 intro a0 k
 have ih0 := cellarlaw0_TypesWeight.mono_l k
 unfold cellarlaw0_TypesWeight.f
 repeat' first
   | (with_reducible apply ih0)
   | (with_reducible apply LeO.refl)
   | (with_reducible apply LeO.none)
   | (with_reducible refine LeO.ite ?_ ?_)
   | (with_reducible refine LeO.bind ?_ (fun _ => ?_))
set_option maxHeartbeats 8000000 in
set_option maxRecDepth 100000 in
theorem cellarlaw0_TypesWeight.calls (k : Nat) (A0 : Option Addr) (c0 : Nat) (l0 : List (S31)) (r : Int) (w : World) (hr0 : Kd.C k31 w A0 l0.length l0) (hc0 : l0.length ≤ c0) (h : cellarlaw0_TypesWeight.f k l0 = some r) :
  Calls Try.prog 53 #[.slice A0 l0.length c0] w fun e w' => e = .returned (.int .i64 r) ∧ Drawn0 w w' := by
 have HR0 := Aside0.mk hr0
 have HC0 := Aside0.mk hc0
 clear hr0 hc0
 have H : (cellarlaw0_TypesWeight.l0 k l0 (l0.length : Int) 0) = some r := h
 clear h
 have H' := Aside0.mk H
 clear H
 go_enter Try.func53, Try.ntmps53
 go_wp2
 repeat (go_quiet (fail); try go_wp2)
 go_loopg [3, 4] k (fun kq v3 v4 w' => ∃ (x3_1 : Int) (x4_1 : Int), v3 = .int .i64 x3_1 ∧ v4 = .int .i64 x4_1 ∧ Aside0 (cellarlaw0_TypesWeight.l0 kq l0 x3_1 x4_1 = some r) ∧ Aside0 (kq ≤ k) ∧ Drawn0 w w')
 case atStart => exact ⟨((l0.length : Int)), (0), (zr), (zr), H', ⟨Nat.le_refl _⟩, by repeat (first | exact Drawn0.refl _ | apply Drawn0.step)⟩
 case round =>
  clear H'
  obtain ⟨x3_1, x4_1, rfl, rfl, HA, HK1, ⟨m1, rfl⟩⟩ := hrel
  cases gk with
  | zero => exact absurd HA.out (by simp [cellarlaw0_TypesWeight.l0])
  | succ k1 =>
   have H := HA.out
   clear HA
   simp only [cellarlaw0_TypesWeight.l0] at H
   by_cases c2 : x4_1 < (l0.length : Int)
   ·rw [if_pos c2] at H
    have c2b0 : decide (x4_1 < (l0.length : Int)) = true := decide_eq_true c2
    clear c2
    by_cases c3 : x3_1 < 1048576
    rotate_left
    ·rw [if_neg c3] at H
     have c3b0 : decide (x3_1 < 1048576) = false := decide_eq_false c3
     clear c3
     obtain rfl := Option.some.inj H
     go_wp2
     repeat (go_quiet (fail); try go_wp2)
     go_ret
     exact ⟨zr, by repeat (first | exact Drawn0.refl _ | apply Drawn0.step)⟩
    rw [if_pos c3] at H
    have c3b0 : decide (x3_1 < 1048576) = true := decide_eq_true c3
    clear c3
    by_cases c4 : 0 ≤ x4_1
    rotate_left
    ·rw [if_neg c4] at H
     exact absurd H (by simp)
    rw [if_pos c4] at H
    have c4b0 : decide (0 ≤ x4_1) = true := decide_eq_true c4
    clear c4
    have H' := Aside0.mk H
    clear H
    have p199 : 0 ≤ (x4_1 : Int) := zdec
    have q199 : x4_1 < (l0.length : Int) := zdec
    obtain ⟨ad199, A199_3, c199_3, A199_4, c199_4, e199, hx199_0, hx199_1, hx199_2, hx199_3, hx199_4, hl199_3, hi199_3, hl199_4, hi199_4⟩ := at_T31 HR0.out x4_1 p199 q199
    cases e199
    have HR199_3 := Aside0.mk hi199_3
    have HC199_3 := Aside0.mk hl199_3
    clear hi199_3 hl199_3
    have HR199_4 := Aside0.mk hi199_4
    have HC199_4 := Aside0.mk hl199_4
    clear hi199_4 hl199_4
    replace p199 := eq_true p199
    replace q199 := eq_true q199
    have p200 : 0 ≤ (x4_1 : Int) := zdec
    have q200 : x4_1 < (l0.length : Int) := zdec
    obtain ⟨ad200, A200_3, c200_3, A200_4, c200_4, e200, hx200_0, hx200_1, hx200_2, hx200_3, hx200_4, hl200_3, hi200_3, hl200_4, hi200_4⟩ := at_T31 HR0.out x4_1 p200 q200
    obtain rfl : ad199 = ad200 := (by injection e200)
    have HR200_3 := Aside0.mk hi200_3
    have HC200_3 := Aside0.mk hl200_3
    clear hi200_3 hl200_3
    have HR200_4 := Aside0.mk hi200_4
    have HC200_4 := Aside0.mk hl200_4
    clear hi200_4 hl200_4
    replace p200 := eq_true p200
    replace q200 := eq_true q200
    have ea_ := Option.some.inj (hx199_3.symm.trans hx200_3)
    injection ea_ with ea_ en_ ec_
    subst ea_
    subst ec_
    clear en_
    have ea_ := Option.some.inj (hx199_4.symm.trans hx200_4)
    injection ea_ with ea_ en_ ec_
    subst ea_
    subst ec_
    clear en_
    go_wp2
    repeat (go_quiet (fail); try go_wp2)
    go_roundg k1
    case measure => have := HK1.out; omega
    case rel => exact ⟨(wrap64 ((wrap64 (x3_1 + (((rd_T31 l0 x4_1).f3).length : Int))) + (((rd_T31 l0 x4_1).f4).length : Int))), (wrap64 (x4_1 + 1)), (zr), (zr), H', ⟨by have := HK1.out; omega⟩, by repeat (first | exact Drawn0.refl _ | apply Drawn0.step)⟩
   ·rw [if_neg c2] at H
    have c2b0 : decide (x4_1 < (l0.length : Int)) = false := decide_eq_false c2
    clear c2
    obtain rfl := Option.some.inj H
    go_wp2
    repeat (go_quiet (fail); try go_wp2)
    go_ret
    exact ⟨zr, by repeat (first | exact Drawn0.refl _ | apply Drawn0.step)⟩

end Go.Proofs.Ytjoplkillkhiaaa.L
