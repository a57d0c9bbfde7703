-- Written by this session's own edition of the print.
import Derived.Test.YtjoplkillkhiaaaLx0
import Derived.Test.YtjoplkillkhiaaaLx1
import Derived.Test.YtjoplkillkhiaaaUSq
import Derived.Test.YtjoplkillkhiaaaUSq2
namespace Go.Proofs.Ytjoplkillkhiaaa.L
open Go.RowKit Go.Proofs.Ytjoplkillkhiaaa.Fn Go.Proofs.YtjoplkillkhiaaaW.PrintWords Go.Proofs.YtjoplkillkhiaaaW.PrintLast Go.Proofs.YtjoplkillkhiaaaW.PrintMore
attribute [local go_sem] max2_int min2_int max_two min_two max_three min_three max_four min_four   -- for this text's walks alone
set_option linter.unusedVariables false
set_option linter.unusedSimpArgs false

/-! word_IsScalar -/
def word_IsScalar.f (a0 : Int) : Option (Bool) := if a0 ≥ 1 then (some (decide (a0 ≤ 7))) else (some false)
set_option maxHeartbeats 8000000 in
set_option maxRecDepth 100000 in
theorem word_IsScalar.calls (a0 : Int) (r : Bool) (w : World) (h : word_IsScalar.f a0 = some r) :
  Calls Try.prog 97 #[.int .i64 a0] w fun e w' => e = .returned (.bool r) ∧ Drawn0 w w' := by
 have H : (if a0 ≥ 1 then (some (decide (a0 ≤ 7))) else (some false)) = some r := h
 clear h
 by_cases c2 : a0 ≥ 1
 ·rw [if_pos c2] at H
  have c2b0 : decide (1 ≤ a0) = true := decide_eq_true c2
  clear c2
  obtain rfl := Option.some.inj H
  go_enter Try.func97, Try.ntmps97
  go_wp2
  go_ret
  exact ⟨zr, by repeat (first | exact Drawn0.refl _ | apply Drawn0.step)⟩
 ·rw [if_neg c2] at H
  have c2b0 : decide (1 ≤ a0) = false := decide_eq_false c2
  clear c2
  obtain rfl := Option.some.inj H
  go_enter Try.func97, Try.ntmps97
  go_wp2
  go_ret
  exact ⟨zr, by repeat (first | exact Drawn0.refl _ | apply Drawn0.step)⟩

/-! lay_scalar -/
def lay_scalar.f (a0_0 : Int) (a0_1 : Int) (a0_2 : Int) (l0_3 : List ByteArray) (l0_4 : List Int) : Option (Bool) := (word_IsScalar.f a0_0).bind fun t118 => (if t118 = true then (if a0_1 = 0 then (if a0_2 = 0 then (some ((wrap64 ((l0_3.length : Int) + (l0_4.length : Int))) == 0)) else (some false)) else (some false)) else (some false))
set_option maxHeartbeats 8000000 in
set_option maxRecDepth 100000 in
theorem lay_scalar.calls (a0_0 : Int) (a0_1 : Int) (a0_2 : Int) (A0_3 : Option Addr) (c0_3 : Nat) (l0_3 : List ByteArray) (A0_4 : Option Addr) (c0_4 : Nat) (l0_4 : List Int) (r : Bool) (w : World) (hr0_3 : Kd.C Kd.string w A0_3 l0_3.length l0_3) (hc0_3 : l0_3.length ≤ c0_3) (hr0_4 : Kd.C (Kd.int .i64) w A0_4 l0_4.length l0_4) (hc0_4 : l0_4.length ≤ c0_4) (h : lay_scalar.f a0_0 a0_1 a0_2 l0_3 l0_4 = some r) :
  Calls Try.prog 117 #[.agg #[.int .i64 a0_0, .int .i64 a0_1, .int .i64 a0_2, .slice A0_3 l0_3.length c0_3, .slice A0_4 l0_4.length c0_4]] w fun e w' => e = .returned (.bool r) ∧ Below w.heap.size w w' := by
 have hu31 := Try.underlying31
 have HR0_3 := Aside0.mk hr0_3
 have HC0_3 := Aside0.mk hc0_3
 clear hr0_3 hc0_3
 have HR0_4 := Aside0.mk hr0_4
 have HC0_4 := Aside0.mk hc0_4
 clear hr0_4 hc0_4
 have HB := Aside0.mk (Below.refl w.heap.size w)
 have H : ((word_IsScalar.f a0_0).bind fun t118 => (if t118 = true then (if a0_1 = 0 then (if a0_2 = 0 then (some ((wrap64 ((l0_3.length : Int) + (l0_4.length : Int))) == 0)) else (some false)) else (some false)) else (some false))) = some r := h
 clear h
 replace H := Option.bind_eq_some_iff.mp H
 obtain ⟨t118, A20, H⟩ := H
 replace H : (if t118 = true then (if a0_1 = 0 then (if a0_2 = 0 then (some ((wrap64 ((l0_3.length : Int) + (l0_4.length : Int))) == 0)) else (some false)) else (some false)) else (some false)) = some r := H
 have A2 := Aside0.mk A20
 clear A20
 by_cases c3 : t118 = true
 ·subst c3
  have H1 : (if a0_1 = 0 then (if a0_2 = 0 then (some ((wrap64 ((l0_3.length : Int) + (l0_4.length : Int))) == 0)) else (some false)) else (some false)) = some r := by rw [if_pos rfl] at H; exact H
  clear H
  have H := H1
  clear H1
  by_cases c4 : a0_1 = 0
  rotate_left
  ·rw [if_neg c4] at H
   have c4b0 : (a0_1 == 0) = false := beq_eq_false_iff_ne.mpr c4
   have c4b1 : (a0_1 != 0) = true := bne_iff_ne.mpr c4
   obtain rfl := Option.some.inj H
   go_enter Try.func117, Try.ntmps117
   go_wp2_with (first | ((with_reducible refine gate_dst (N := 1) rfl ?_); (try (refine gate_guard (by rfl) ?_; dsimp only)); refine zbox (N := 1) (cs := #[.int .i64 a0_0, .int .i64 a0_1, .int .i64 a0_2, .slice A0_3 l0_3.length c0_3, .slice A0_4 l0_4.length c0_4]) (t := 31) ?_; intro gb117 hg w10 hbox hb; have n0_ := Aside0.mk (below_step (zw0 HB.out) hb); have BK117 := Aside0.mk (hbox); have GW117 := Aside0.mk (zg hg (below_size (zw0 HB.out))); have GE117 := GW117; clear HB; have HB := n0_; clear n0_; clear hb hbox hg; have hcz11_0 := zc BK117.out 0; have hcz11_1 := zc BK117.out 1; have hcz11_2 := zc BK117.out 2; have hcz11_3 := zc BK117.out 3; have hcz11_4 := zc BK117.out 4; have hfz11_0 := blk_frozen BK117.out 0; have hfz11_1 := blk_frozen BK117.out 1; have hfz11_2 := blk_frozen BK117.out 2; have hfz11_3 := blk_frozen BK117.out 3; have hfz11_4 := blk_frozen BK117.out 4) | ((with_reducible refine gate_callee (f := 97) rfl ?_); refine zgo (some 5) Try.func97 #[.int .i64 a0_0] ?_; (with_reducible refine (word_IsScalar.calls a0_0 true _ A2.out).mono ?_); rintro e w' ⟨rfl, ⟨nd, rfl⟩⟩; refine ⟨_, rfl, ?_⟩))
   go_ret
   exact ⟨ze, zw1 HB.out GE117.out⟩
  rw [if_pos c4] at H
  have c4b0 : (a0_1 == 0) = true := beq_iff_eq.mpr c4
  have c4b1 : (a0_1 != 0) = false := bne_eq_false_iff_eq.mpr c4
  clear c4
  by_cases c5 : a0_2 = 0
  rotate_left
  ·rw [if_neg c5] at H
   have c5b0 : (a0_2 == 0) = false := beq_eq_false_iff_ne.mpr c5
   have c5b1 : (a0_2 != 0) = true := bne_iff_ne.mpr c5
   obtain rfl := Option.some.inj H
   go_enter Try.func117, Try.ntmps117
   go_wp2_with (first | ((with_reducible refine gate_dst (N := 1) rfl ?_); (try (refine gate_guard (by rfl) ?_; dsimp only)); refine zbox (N := 1) (cs := #[.int .i64 a0_0, .int .i64 a0_1, .int .i64 a0_2, .slice A0_3 l0_3.length c0_3, .slice A0_4 l0_4.length c0_4]) (t := 31) ?_; intro gb117 hg w8 hbox hb; have n0_ := Aside0.mk (below_step (zw0 HB.out) hb); have BK117 := Aside0.mk (hbox); have GW117 := Aside0.mk (zg hg (below_size (zw0 HB.out))); have GE117 := GW117; clear HB; have HB := n0_; clear n0_; clear hb hbox hg; have hcz9_0 := zc BK117.out 0; have hcz9_1 := zc BK117.out 1; have hcz9_2 := zc BK117.out 2; have hcz9_3 := zc BK117.out 3; have hcz9_4 := zc BK117.out 4; have hfz9_0 := blk_frozen BK117.out 0; have hfz9_1 := blk_frozen BK117.out 1; have hfz9_2 := blk_frozen BK117.out 2; have hfz9_3 := blk_frozen BK117.out 3; have hfz9_4 := blk_frozen BK117.out 4) | ((with_reducible refine gate_callee (f := 97) rfl ?_); refine zgo (some 5) Try.func97 #[.int .i64 a0_0] ?_; (with_reducible refine (word_IsScalar.calls a0_0 true _ A2.out).mono ?_); rintro e w' ⟨rfl, ⟨nd, rfl⟩⟩; refine ⟨_, rfl, ?_⟩))
   go_ret
   exact ⟨ze, zw1 HB.out GE117.out⟩
  rw [if_pos c5] at H
  have c5b0 : (a0_2 == 0) = true := beq_iff_eq.mpr c5
  have c5b1 : (a0_2 != 0) = false := bne_eq_false_iff_eq.mpr c5
  clear c5
  obtain rfl := Option.some.inj H
  go_enter Try.func117, Try.ntmps117
  go_wp2_with (first | ((with_reducible refine gate_dst (N := 1) rfl ?_); (try (refine gate_guard (by rfl) ?_; dsimp only)); refine zbox (N := 1) (cs := #[.int .i64 a0_0, .int .i64 a0_1, .int .i64 a0_2, .slice A0_3 l0_3.length c0_3, .slice A0_4 l0_4.length c0_4]) (t := 31) ?_; intro gb117 hg w6 hbox hb; have n0_ := Aside0.mk (below_step (zw0 HB.out) hb); have BK117 := Aside0.mk (hbox); have GW117 := Aside0.mk (zg hg (below_size (zw0 HB.out))); have GE117 := GW117; clear HB; have HB := n0_; clear n0_; clear hb hbox hg; have hcz7_0 := zc BK117.out 0; have hcz7_1 := zc BK117.out 1; have hcz7_2 := zc BK117.out 2; have hcz7_3 := zc BK117.out 3; have hcz7_4 := zc BK117.out 4; have hfz7_0 := blk_frozen BK117.out 0; have hfz7_1 := blk_frozen BK117.out 1; have hfz7_2 := blk_frozen BK117.out 2; have hfz7_3 := blk_frozen BK117.out 3; have hfz7_4 := blk_frozen BK117.out 4) | ((with_reducible refine gate_callee (f := 97) rfl ?_); refine zgo (some 5) Try.func97 #[.int .i64 a0_0] ?_; (with_reducible refine (word_IsScalar.calls a0_0 true _ A2.out).mono ?_); rintro e w' ⟨rfl, ⟨nd, rfl⟩⟩; refine ⟨_, rfl, ?_⟩))
  go_ret
  exact ⟨ze, zw1 HB.out GE117.out⟩
 ·replace c3 := Bool.eq_false_iff.mpr c3
  subst c3
  have H1 : (some false) = some r := by rw [if_neg (show ¬ (false = true) by decide)] at H; exact H
  clear H
  have H := H1
  clear H1
  obtain rfl := Option.some.inj H
  go_enter Try.func117, Try.ntmps117
  go_wp2_with (first | ((with_reducible refine gate_dst (N := 1) rfl ?_); (try (refine gate_guard (by rfl) ?_; dsimp only)); refine zbox (N := 1) (cs := #[.int .i64 a0_0, .int .i64 a0_1, .int .i64 a0_2, .slice A0_3 l0_3.length c0_3, .slice A0_4 l0_4.length c0_4]) (t := 31) ?_; intro gb117 hg w12 hbox hb; have n0_ := Aside0.mk (below_step (zw0 HB.out) hb); have BK117 := Aside0.mk (hbox); have GW117 := Aside0.mk (zg hg (below_size (zw0 HB.out))); have GE117 := GW117; clear HB; have HB := n0_; clear n0_; clear hb hbox hg; have hcz13_0 := zc BK117.out 0; have hcz13_1 := zc BK117.out 1; have hcz13_2 := zc BK117.out 2; have hcz13_3 := zc BK117.out 3; have hcz13_4 := zc BK117.out 4; have hfz13_0 := blk_frozen BK117.out 0; have hfz13_1 := blk_frozen BK117.out 1; have hfz13_2 := blk_frozen BK117.out 2; have hfz13_3 := blk_frozen BK117.out 3; have hfz13_4 := blk_frozen BK117.out 4) | ((with_reducible refine gate_callee (f := 97) rfl ?_); refine zgo (some 5) Try.func97 #[.int .i64 a0_0] ?_; (with_reducible refine (word_IsScalar.calls a0_0 false _ A2.out).mono ?_); rintro e w' ⟨rfl, ⟨nd, rfl⟩⟩; refine ⟨_, rfl, ?_⟩))
  go_ret
  exact ⟨ze, zw1 HB.out GE117.out⟩

/-! cellar/lay.form -/
def lay_form.g (k : Nat) (a0_1 : Int) (a0_2 : Int) (l0_3 : List ByteArray) (l0_4 : List Int) (a1 : Int) : Option Bool := if (l0_4.length : Int) < 1 then (some false) else (if (l0_4.length : Int) > 6 then (some false) else (if ¬ (l0_3.length : Int) = (l0_4.length : Int) then (some false) else (if ¬ a0_1 = 0 then (some false) else (if ¬ a0_2 = 0 then (some false) else ((lay_named.f k l0_3).bind fun b1 => (if b1 = true then ((anyO (fun x => some (!(decide (0 ≤ x) && decide (x < a1)))) l0_4).bind fun b2 => (some (!b2))) else (some false)))))))
def lay_form.f (k : Nat) (a0_0 : Int) (a0_1 : Int) (a0_2 : Int) (l0_3 : List ByteArray) (l0_4 : List Int) (a1 : Int) : Option Bool := if a0_0 = 8 then (if a0_1 ≥ 1 then (if a0_1 ≤ 16 then (if (decide (0 ≤ a0_2) && decide (a0_2 < a1)) = true then (some ((wrap64 ((l0_3.length : Int) + (l0_4.length : Int))) == 0)) else (some false)) else (some false)) else (some false)) else (if a0_0 = 9 then (lay_form.g k a0_1 a0_2 l0_3 l0_4 a1) else (if a0_0 = 10 then (lay_form.g k a0_1 a0_2 l0_3 l0_4 a1) else (lay_scalar.f a0_0 a0_1 a0_2 l0_3 l0_4)))
theorem lay_form.mono : ∀ a0 a1 a2 a3 a4 a5 k, LeO (lay_form.f k a0 a1 a2 a3 a4 a5) (lay_form.f (k + 1) a0 a1 a2 a3 a4 a5) := by
  intro a0 a1 a2 a3 a4 a5 k
  unfold lay_form.f lay_form.g
  repeat' first
   | (with_reducible apply lay_named.mono)
   | (with_reducible apply LeO.refl)
   | (with_reducible refine LeO.ite ?_ ?_)
   | (with_reducible refine LeO.bind ?_ (fun _ => ?_))
set_option maxHeartbeats 8000000 in
set_option maxRecDepth 100000 in
theorem lay_form.calls (k : Nat) (a0_0 : Int) (a0_1 : Int) (a0_2 : Int) (A0_3 : Option Addr) (c0_3 : Nat) (l0_3 : List ByteArray) (A0_4 : Option Addr) (c0_4 : Nat) (l0_4 : List Int) (a1 : Int) (r : Bool) (w : World) (hr0_3 : Kd.C Kd.string w A0_3 l0_3.length l0_3) (hc0_3 : l0_3.length ≤ c0_3) (hr0_4 : Kd.C (Kd.int .i64) w A0_4 l0_4.length l0_4) (hc0_4 : l0_4.length ≤ c0_4) (h : lay_form.f k a0_0 a0_1 a0_2 l0_3 l0_4 a1 = some r) :
  Calls Try.prog 85 #[.agg #[.int .i64 a0_0, .int .i64 a0_1, .int .i64 a0_2, .slice A0_3 l0_3.length c0_3, .slice A0_4 l0_4.length c0_4], .int .i64 a1] w fun e w' => e = .returned (.bool r) ∧ Below w.heap.size w w' := by
 have hu31 := Try.underlying31
 have HR0_3 := Aside0.mk hr0_3
 have HC0_3 := Aside0.mk hc0_3
 have HR0_4 := Aside0.mk hr0_4
 have HC0_4 := Aside0.mk hc0_4
 clear hr0_3 hc0_3 hr0_4 hc0_4
 have HB := Aside0.mk (Below.refl w.heap.size w)
 have H' := Aside0.mk h
 clear h
 go_enter Try.func85, Try.ntmps85
 have hst : ∀ (cp : Array Value) (p : Addr) (W : World), (store p (.func (.func 113) #[] cp)).run Try.prog W = stored Try.prog W p (.func (.func 113) #[] cp) .plain := fun cp p W => run_store Try.prog W p (.func (.func 113) #[] cp) .plain rfl
 go_upto_region 2 with (first | ((with_reducible refine gate_dst (N := 2) rfl ?_); refine zbox (N := 2) (cs := #[.int .i64 a0_0, .int .i64 a0_1, .int .i64 a0_2, .slice A0_3 l0_3.length c0_3, .slice A0_4 l0_4.length c0_4]) (t := 31) ?_; intro g2 hg w2 hbox hb; have HB2 := Aside0.mk hb; have BK2 := Aside0.mk hbox; have HG2 := Aside0.mk hg; clear hb hbox hg HB) | ((with_reducible refine gate_dst (N := 3) rfl ?_); refine zbox (N := 3) (cs := #[.int .i64 a1]) (t := 3) ?_; intro g3 hg w3 hbox hb; have HB3 := Aside0.mk hb; have BK3 := Aside0.mk hbox; have HG3 := Aside0.mk hg; clear hb hbox hg) | ((with_reducible refine gate_dst (N := 5) rfl ?_); refine zbox (N := 5) (cs := #[.nilFunc]) (t := 81) ?_; intro g5 hg w5 hbox hb; have HB5 := Aside0.mk hb; have BK5 := Aside0.mk hbox; have HG5 := Aside0.mk hg; clear hb hbox hg; have hcz5 : w5.cell? ⟨g5, 0, none⟩ = some .nilFunc := (blk_cell BK5.out 0).trans rfl; have hfz5 := blk_frozen BK5.out 0))
 have n23 : g2 ≠ g3 := by have := blk_lt BK2.out; have := HG3.out; omega
 have n25 : g2 ≠ g5 := by have := blk_lt BK2.out; have := HG5.out; have := HB3.out.size; omega
 have n35 : g3 ≠ g5 := by have := blk_lt BK3.out; have := HG5.out; omega
 have HG : w.heap.size ≤ g5 := by have := HB3.out.size; have := HB2.out.size; have := HG5.out; omega
 have n0_ : Aside0 ((w5.setCell ⟨g5, 0, none⟩ (.func (.func 113) #[] #[.pointer (some ⟨g3, 0, none⟩)])).heap[g2]? = some (.cells #[.int .i64 a0_0, .int .i64 a0_1, .int .i64 a0_2, .slice A0_3 l0_3.length c0_3, .slice A0_4 l0_4.length c0_4] 31 (0, 0))) := ⟨blk_far (blk_below (blk_below BK2.out HB3.out) HB5.out) n25 _⟩
 have n1_ : Aside0 ((w5.setCell ⟨g5, 0, none⟩ (.func (.func 113) #[] #[.pointer (some ⟨g3, 0, none⟩)])).heap[g3]? = some (.cells #[.int .i64 a1] 3 (0, 0))) := ⟨blk_far (blk_below BK3.out HB5.out) n35 _⟩
 have n2_ : Aside0 ((w5.setCell ⟨g5, 0, none⟩ (.func (.func 113) #[] #[.pointer (some ⟨g3, 0, none⟩)])).heap[g5]? = some (.cells #[.func (.func 113) #[] #[.pointer (some ⟨g3, 0, none⟩)]] 81 (0, 0))) := ⟨blk_put BK5.out 0 _ rfl⟩
 have n3_ : Aside0 (Below w.heap.size w (w5.setCell ⟨g5, 0, none⟩ (.func (.func 113) #[] #[.pointer (some ⟨g3, 0, none⟩)]))) := ⟨below_set (below_step (below_step HB2.out HB3.out) HB5.out) HG⟩
 clear hst BK2 BK3 BK5 HB2 HB3 HB5 HG2 HG3 HG5 HG n23 n25 n35 hcz5 hfz5
 generalize (w5.setCell ⟨g5, 0, none⟩ (.func (.func 113) #[] #[.pointer (some ⟨g3, 0, none⟩)])) = w6 at n0_ n1_ n2_ n3_ ⊢
 have hz0 : w6.cell? ⟨g2, 0, none⟩ = some (.int .i64 a0_0) := (blk_cell n0_.out 0).trans rfl
 have hz1 : w6.cell? ⟨g2, 1, none⟩ = some (.int .i64 a0_1) := (blk_cell n0_.out 1).trans rfl
 have hz2 : w6.cell? ⟨g2, 2, none⟩ = some (.int .i64 a0_2) := (blk_cell n0_.out 2).trans rfl
 have hz3 : w6.cell? ⟨g2, 3, none⟩ = some (.slice A0_3 l0_3.length c0_3) := (blk_cell n0_.out 3).trans rfl
 have hz4 : w6.cell? ⟨g2, 4, none⟩ = some (.slice A0_4 l0_4.length c0_4) := (blk_cell n0_.out 4).trans rfl
 have hz5 : w6.cell? ⟨g5, 0, none⟩ = some (.func (.func 113) #[] #[.pointer (some ⟨g3, 0, none⟩)]) := (blk_cell n2_.out 0).trans rfl
 have eg : ∀ args w, (callFunc 113 args).run Try.prog w = .ok (.enter 113 args) w := enters_of Try.func113 (by kernel_rfl) rfl
 have H := H'.out
 clear H'
 unfold lay_form.f at H
 by_cases k8 : a0_0 = 8
 · rw [if_pos k8] at H
   have k8b : (a0_0 == 8) = true := beq_iff_eq.mpr k8
   clear k8
   by_cases c1 : a0_1 ≥ 1
   · rw [if_pos c1] at H
     have c1b : decide (1 ≤ a0_1) = true := decide_eq_true c1
     clear c1
     by_cases c2 : a0_1 ≤ 16
     · rw [if_pos c2] at H
       have c2b : decide (a0_1 ≤ 16) = true := decide_eq_true c2
       clear c2
       cases c3 : (decide (0 ≤ a0_2) && decide (a0_2 < a1)) with
       | true =>
         rw [c3, if_pos rfl] at H
         obtain rfl := Option.some.inj H
         go_wp2_with (go_at_fn 113; refine (ahead_calls g3 a1 a0_2 _ ((blk_cell n1_.out 0).trans rfl)).mono ?_; rintro e w' ⟨he, hb'⟩; rw [c3] at he; subst he; have hy3 : w'.cell? ⟨g2, 3, none⟩ = some (.slice A0_3 l0_3.length c0_3) := (blk_cell (blk_below n0_.out hb') 3).trans rfl; have hy4 : w'.cell? ⟨g2, 4, none⟩ = some (.slice A0_4 l0_4.length c0_4) := (blk_cell (blk_below n0_.out hb') 4).trans rfl; have n4_ := Aside0.mk (below_step n3_.out hb'); clear hb')
         go_ret
         exact ⟨by first | rfl | (simp [*]; done), n4_.out⟩
       | false =>
         rw [c3, if_neg (by decide)] at H
         obtain rfl := Option.some.inj H
         go_wp2_with (go_at_fn 113; refine (ahead_calls g3 a1 a0_2 _ ((blk_cell n1_.out 0).trans rfl)).mono ?_; rintro e w' ⟨he, hb'⟩; rw [c3] at he; subst he; have n4_ := Aside0.mk (below_step n3_.out hb'); clear hb')
         go_ret
         exact ⟨by first | rfl | (simp [*]; done), n4_.out⟩
     · rw [if_neg c2] at H
       have c2b : decide (a0_1 ≤ 16) = false := decide_eq_false c2
       obtain rfl := Option.some.inj H
       go_wp2
       go_ret
       exact ⟨by first | rfl | (simp [*]; done), n3_.out⟩
   · rw [if_neg c1] at H
     have c1b : decide (1 ≤ a0_1) = false := decide_eq_false c1
     obtain rfl := Option.some.inj H
     go_wp2
     go_ret
     exact ⟨by first | rfl | (simp [*]; done), n3_.out⟩
 rw [if_neg k8] at H
 have k8b : (a0_0 == 8) = false := beq_eq_false_iff_ne.mpr k8
 clear k8
 by_cases k9 : a0_0 = 9
 · rw [if_pos k9] at H
   have k9b : (a0_0 == 9) = true := beq_iff_eq.mpr k9
   clear k9
   unfold lay_form.g at H
   by_cases c1 : (l0_4.length : Int) < 1
   · rw [if_pos c1] at H
     have c1b : decide ((l0_4.length : Int) < 1) = true := decide_eq_true c1
     obtain rfl := Option.some.inj H
     go_wp2
     go_ret
     exact ⟨by first | rfl | (simp [*]; done), n3_.out⟩
   rw [if_neg c1] at H
   have c1b : decide ((l0_4.length : Int) < 1) = false := decide_eq_false c1
   clear c1
   by_cases c2 : (l0_4.length : Int) > 6
   · rw [if_pos c2] at H
     have c2b : decide (6 < (l0_4.length : Int)) = true := decide_eq_true c2
     obtain rfl := Option.some.inj H
     go_wp2
     go_ret
     exact ⟨by first | rfl | (simp [*]; done), n3_.out⟩
   rw [if_neg c2] at H
   have c2b : decide (6 < (l0_4.length : Int)) = false := decide_eq_false c2
   clear c2
   by_cases c3 : (l0_3.length : Int) = (l0_4.length : Int)
   case neg =>
     rw [if_pos c3] at H
     have c3b : ((l0_3.length : Int) != (l0_4.length : Int)) = true := bne_iff_ne.mpr c3
     have c3c : ((l0_3.length : Int) == (l0_4.length : Int)) = false := beq_eq_false_iff_ne.mpr c3
     obtain rfl := Option.some.inj H
     go_wp2
     go_ret
     exact ⟨by first | rfl | (simp [*]; done), n3_.out⟩
   rw [if_neg (fun h_ => h_ c3)] at H
   have c3b : ((l0_3.length : Int) != (l0_4.length : Int)) = false := bne_eq_false_iff_eq.mpr c3
   have c3c : ((l0_3.length : Int) == (l0_4.length : Int)) = true := beq_iff_eq.mpr c3
   clear c3
   by_cases c4 : a0_1 = 0
   case neg =>
     rw [if_pos c4] at H
     have c4b : (a0_1 != 0) = true := bne_iff_ne.mpr c4
     have c4c : (a0_1 == 0) = false := beq_eq_false_iff_ne.mpr c4
     obtain rfl := Option.some.inj H
     go_wp2
     go_ret
     exact ⟨by first | rfl | (simp [*]; done), n3_.out⟩
   rw [if_neg (fun h_ => h_ c4)] at H
   have c4b : (a0_1 != 0) = false := bne_eq_false_iff_eq.mpr c4
   have c4c : (a0_1 == 0) = true := beq_iff_eq.mpr c4
   clear c4
   by_cases c5 : a0_2 = 0
   case neg =>
     rw [if_pos c5] at H
     have c5b : (a0_2 != 0) = true := bne_iff_ne.mpr c5
     have c5c : (a0_2 == 0) = false := beq_eq_false_iff_ne.mpr c5
     obtain rfl := Option.some.inj H
     go_wp2
     go_ret
     exact ⟨by first | rfl | (simp [*]; done), n3_.out⟩
   rw [if_neg (fun h_ => h_ c5)] at H
   have c5b : (a0_2 != 0) = false := bne_eq_false_iff_eq.mpr c5
   have c5c : (a0_2 == 0) = true := beq_iff_eq.mpr c5
   clear c5
   obtain ⟨b1, hn, H⟩ := Option.bind_eq_some_iff.1 H
   have HN := Aside0.mk hn
   clear hn
   cases b1 with
   | false =>
     rw [if_neg (by decide)] at H
     obtain rfl := Option.some.inj H
     go_wp2_with (go_at_call 114; refine (lay_named.calls k _ _ l0_3 false _ (Kd.C_below HR0_3.out n3_.out) HC0_3.out HN.out).mono ?_; rintro e w' ⟨rfl, hb'⟩; have n4_ := Aside0.mk (below_step n3_.out hb'); clear hb')
     go_ret
     exact ⟨by first | rfl | (simp [*]; done), n4_.out⟩
   | true =>
     rw [if_pos rfl] at H
     obtain ⟨b2, hn, H⟩ := Option.bind_eq_some_iff.1 H
     have HAny := Aside0.mk hn
     clear hn
     obtain rfl := Option.some.inj H
     go_wp2_with (first | (go_at_call 114; refine (lay_named.calls k _ _ l0_3 true _ (Kd.C_below HR0_3.out n3_.out) HC0_3.out HN.out).mono ?_; rintro e w' ⟨rfl, hb'⟩; have hy4 : w'.cell? ⟨g2, 4, none⟩ = some (.slice A0_4 l0_4.length c0_4) := (blk_cell (blk_below n0_.out hb') 4).trans rfl; have n5_ := Aside0.mk hb'; clear hb') | (go_at_call 115; refine (ContainsFunc_I _ 116 #[.pointer (some ⟨g5, 0, none⟩)] (enters_of Try.func116 (by kernel_rfl) rfl) _ _ l0_4 b2 _ (Kd.C_below HR0_4.out (below_step n3_.out n5_.out)) (nahead_pred g5 g3 a1 _ ((blk_cell (blk_below n2_.out n5_.out) 0).trans rfl) ((blk_cell (blk_below n1_.out n5_.out) 0).trans rfl)) HAny.out).mono ?_; rintro e w' ⟨rfl, hb'⟩; have n4_ := Aside0.mk (below_step (below_step n3_.out n5_.out) hb'); clear hb'))
     go_ret
     exact ⟨by first | rfl | (simp [*]; done), n4_.out⟩
 rw [if_neg k9] at H
 have k9b : (a0_0 == 9) = false := beq_eq_false_iff_ne.mpr k9
 clear k9
 by_cases k10 : a0_0 = 10
 · rw [if_pos k10] at H
   have k10b : (a0_0 == 10) = true := beq_iff_eq.mpr k10
   clear k10
   unfold lay_form.g at H
   by_cases c1 : (l0_4.length : Int) < 1
   · rw [if_pos c1] at H
     have c1b : decide ((l0_4.length : Int) < 1) = true := decide_eq_true c1
     obtain rfl := Option.some.inj H
     go_wp2
     go_ret
     exact ⟨by first | rfl | (simp [*]; done), n3_.out⟩
   rw [if_neg c1] at H
   have c1b : decide ((l0_4.length : Int) < 1) = false := decide_eq_false c1
   clear c1
   by_cases c2 : (l0_4.length : Int) > 6
   · rw [if_pos c2] at H
     have c2b : decide (6 < (l0_4.length : Int)) = true := decide_eq_true c2
     obtain rfl := Option.some.inj H
     go_wp2
     go_ret
     exact ⟨by first | rfl | (simp [*]; done), n3_.out⟩
   rw [if_neg c2] at H
   have c2b : decide (6 < (l0_4.length : Int)) = false := decide_eq_false c2
   clear c2
   by_cases c3 : (l0_3.length : Int) = (l0_4.length : Int)
   case neg =>
     rw [if_pos c3] at H
     have c3b : ((l0_3.length : Int) != (l0_4.length : Int)) = true := bne_iff_ne.mpr c3
     have c3c : ((l0_3.length : Int) == (l0_4.length : Int)) = false := beq_eq_false_iff_ne.mpr c3
     obtain rfl := Option.some.inj H
     go_wp2
     go_ret
     exact ⟨by first | rfl | (simp [*]; done), n3_.out⟩
   rw [if_neg (fun h_ => h_ c3)] at H
   have c3b : ((l0_3.length : Int) != (l0_4.length : Int)) = false := bne_eq_false_iff_eq.mpr c3
   have c3c : ((l0_3.length : Int) == (l0_4.length : Int)) = true := beq_iff_eq.mpr c3
   clear c3
   by_cases c4 : a0_1 = 0
   case neg =>
     rw [if_pos c4] at H
     have c4b : (a0_1 != 0) = true := bne_iff_ne.mpr c4
     have c4c : (a0_1 == 0) = false := beq_eq_false_iff_ne.mpr c4
     obtain rfl := Option.some.inj H
     go_wp2
     go_ret
     exact ⟨by first | rfl | (simp [*]; done), n3_.out⟩
   rw [if_neg (fun h_ => h_ c4)] at H
   have c4b : (a0_1 != 0) = false := bne_eq_false_iff_eq.mpr c4
   have c4c : (a0_1 == 0) = true := beq_iff_eq.mpr c4
   clear c4
   by_cases c5 : a0_2 = 0
   case neg =>
     rw [if_pos c5] at H
     have c5b : (a0_2 != 0) = true := bne_iff_ne.mpr c5
     have c5c : (a0_2 == 0) = false := beq_eq_false_iff_ne.mpr c5
     obtain rfl := Option.some.inj H
     go_wp2
     go_ret
     exact ⟨by first | rfl | (simp [*]; done), n3_.out⟩
   rw [if_neg (fun h_ => h_ c5)] at H
   have c5b : (a0_2 != 0) = false := bne_eq_false_iff_eq.mpr c5
   have c5c : (a0_2 == 0) = true := beq_iff_eq.mpr c5
   clear c5
   obtain ⟨b1, hn, H⟩ := Option.bind_eq_some_iff.1 H
   have HN := Aside0.mk hn
   clear hn
   cases b1 with
   | false =>
     rw [if_neg (by decide)] at H
     obtain rfl := Option.some.inj H
     go_wp2_with (go_at_call 114; refine (lay_named.calls k _ _ l0_3 false _ (Kd.C_below HR0_3.out n3_.out) HC0_3.out HN.out).mono ?_; rintro e w' ⟨rfl, hb'⟩; have n4_ := Aside0.mk (below_step n3_.out hb'); clear hb')
     go_ret
     exact ⟨by first | rfl | (simp [*]; done), n4_.out⟩
   | true =>
     rw [if_pos rfl] at H
     obtain ⟨b2, hn, H⟩ := Option.bind_eq_some_iff.1 H
     have HAny := Aside0.mk hn
     clear hn
     obtain rfl := Option.some.inj H
     go_wp2_with (first | (go_at_call 114; refine (lay_named.calls k _ _ l0_3 true _ (Kd.C_below HR0_3.out n3_.out) HC0_3.out HN.out).mono ?_; rintro e w' ⟨rfl, hb'⟩; have hy4 : w'.cell? ⟨g2, 4, none⟩ = some (.slice A0_4 l0_4.length c0_4) := (blk_cell (blk_below n0_.out hb') 4).trans rfl; have n5_ := Aside0.mk hb'; clear hb') | (go_at_call 115; refine (ContainsFunc_I _ 116 #[.pointer (some ⟨g5, 0, none⟩)] (enters_of Try.func116 (by kernel_rfl) rfl) _ _ l0_4 b2 _ (Kd.C_below HR0_4.out (below_step n3_.out n5_.out)) (nahead_pred g5 g3 a1 _ ((blk_cell (blk_below n2_.out n5_.out) 0).trans rfl) ((blk_cell (blk_below n1_.out n5_.out) 0).trans rfl)) HAny.out).mono ?_; rintro e w' ⟨rfl, hb'⟩; have n4_ := Aside0.mk (below_step (below_step n3_.out n5_.out) hb'); clear hb'))
     go_ret
     exact ⟨by first | rfl | (simp [*]; done), n4_.out⟩
 rw [if_neg k10] at H
 have k10b : (a0_0 == 10) = false := beq_eq_false_iff_ne.mpr k10
 clear k10
 have HS := Aside0.mk H
 clear H
 go_wp2_with (go_at_call 117; refine ((lay_scalar.calls _ _ _ _ _ l0_3 _ _ l0_4 r _ (Kd.C_below HR0_3.out n3_.out) HC0_3.out (Kd.C_below HR0_4.out n3_.out) HC0_4.out HS.out)).mono ?_; rintro e w' ⟨rfl, hb'⟩; have n4_ := Aside0.mk (below_step n3_.out hb'); clear hb')
 go_ret
 exact ⟨by first | rfl | (simp [*]; done), n4_.out⟩

/-! word_Of -/
def word_Of.f (a0 : Int) : Option (Int) := if 0 ≤ (wrap64 (Int.tdiv (wrap64 (a0 - 1)) 2)) then (some (shl .i64 8 (wrap64 (Int.tdiv (wrap64 (a0 - 1)) 2)))) else (none)
set_option maxHeartbeats 8000000 in
set_option maxRecDepth 100000 in
theorem word_Of.calls (a0 : Int) (r : Int) (w : World) (h : word_Of.f a0 = some r) :
  Calls Try.prog 99 #[.int .i64 a0] w fun e w' => e = .returned (.int .i64 r) ∧ Drawn0 w w' := by
 have H : (if 0 ≤ (wrap64 (Int.tdiv (wrap64 (a0 - 1)) 2)) then (some (shl .i64 8 (wrap64 (Int.tdiv (wrap64 (a0 - 1)) 2)))) else (none)) = some r := h
 clear h
 obtain ⟨ji2, hji2⟩ : ∃ j_ : Int, (wrap64 (Int.tdiv (wrap64 (a0 - 1)) 2)) = j_ := ⟨_, rfl⟩
 replace H : (if 0 ≤ (ji2) then (some (shl .i64 8 (ji2))) else (none)) = some r := by first | (rw [hji2] at H; exact H) | (simp only [hji2] at H ⊢; exact H)
 have hji2w : (IntKind.i64.wrap (Int.tdiv (wrap64 (a0 - 1)) 2)) = ji2 := (i64_w _).trans hji2
 by_cases c3 : 0 ≤ (ji2)
 ·rw [if_pos c3] at H
  have c3b0 := eq_true c3
  have c3b1 : decide (0 ≤ (ji2)) = true := decide_eq_true c3
  clear c3
  obtain ⟨ji4, hji4⟩ : ∃ j_ : Int, (shl .i64 8 (ji2)) = j_ := ⟨_, rfl⟩
  replace H : (some ji4) = some r := by first | (rw [hji4] at H; exact H) | (simp only [hji4] at H ⊢; exact H)
  have hji4_ : (IntKind.i64.wrap (8 * 2 ^ min (ji2).toNat 64)) = ji4 := hji4
  have hji4z : (ji2) ≤ 64 → (IntKind.i64.wrap (8 * 2 ^ (ji2).toNat)) = ji4 := shl_small hji4
  have hji4y : (wrap64 (8 * 2 ^ min (ji2).toNat 64)) = ji4 := (i64_w _).symm.trans hji4_
  have hji4x : (ji2) ≤ 64 → (wrap64 (8 * 2 ^ (ji2).toNat)) = ji4 := fun h_ => (i64_w _).symm.trans (hji4z h_)
  obtain rfl := Option.some.inj H
  go_enter Try.func99, Try.ntmps99
  go_wp2
  go_ret
  exact ⟨by first | rfl | (simp; done) | (simp only [← hji2, ← hji4] <;> (first | rfl | simp)) | (simp [*]; done), by repeat (first | exact Drawn0.refl _ | apply Drawn0.step)⟩
 ·rw [if_neg c3] at H
  exact absurd H (by simp)

/-! word_Bytes -/
def word_Bytes.f (a0_0 : Bool) (a0_1 : Int) (a1 : Int) : Option (Int) := if a1 = 7 then (some a0_1) else ((word_Of.f a1).bind fun t120 => (some (wrap64 (Int.tdiv t120 8))))
set_option maxHeartbeats 8000000 in
set_option maxRecDepth 100000 in
theorem word_Bytes.calls (a0_0 : Bool) (a0_1 : Int) (a1 : Int) (r : Int) (w : World) (h : word_Bytes.f a0_0 a0_1 a1 = some r) :
  Calls Try.prog 86 #[.agg #[.bool a0_0, .int .i64 a0_1], .int .i64 a1] w fun e w' => e = .returned (.int .i64 r) ∧ Below w.heap.size w w' := by
 have hu29 := Try.underlying29
 have HB := Aside0.mk (Below.refl w.heap.size w)
 have H : (if a1 = 7 then (some a0_1) else ((word_Of.f a1).bind fun t120 => (some (wrap64 (Int.tdiv t120 8))))) = some r := h
 clear h
 by_cases c3 : a1 = 7
 ·rw [if_pos c3] at H
  have c3b0 : (a1 == 7) = true := beq_iff_eq.mpr c3
  have c3b1 : (a1 != 7) = false := bne_eq_false_iff_eq.mpr c3
  clear c3
  obtain rfl := Option.some.inj H
  go_enter Try.func86, Try.ntmps86
  go_wp2_with (first | ((with_reducible refine gate_dst (N := 2) rfl ?_); refine zbox (N := 2) (cs := #[.bool a0_0, .int .i64 a0_1]) (t := 29) ?_; intro gb119 hg w4 hbox hb; have n0_ := Aside0.mk (below_step (zw0 HB.out) hb); have BK119 := Aside0.mk (hbox); have GW119 := Aside0.mk (zg hg (below_size (zw0 HB.out))); have GE119 := GW119; clear HB; have HB := n0_; clear n0_; clear hb hbox hg; have hcz5_0 := zc BK119.out 0; have hcz5_1 := zc BK119.out 1; have hfz5_0 := blk_frozen BK119.out 0; have hfz5_1 := blk_frozen BK119.out 1))
  go_ret
  exact ⟨ze, zw1 HB.out GE119.out⟩
 ·rw [if_neg c3] at H
  have c3b0 : (a1 == 7) = false := beq_eq_false_iff_ne.mpr c3
  have c3b1 : (a1 != 7) = true := bne_iff_ne.mpr c3
  replace H := Option.bind_eq_some_iff.mp H
  obtain ⟨t120, A60, H⟩ := H
  replace H : (some (wrap64 (Int.tdiv t120 8))) = some r := H
  have A6 := Aside0.mk A60
  clear A60
  obtain rfl := Option.some.inj H
  go_enter Try.func86, Try.ntmps86
  go_wp2_with (first | ((with_reducible refine gate_dst (N := 2) rfl ?_); refine zbox (N := 2) (cs := #[.bool a0_0, .int .i64 a0_1]) (t := 29) ?_; intro gb119 hg w7 hbox hb; have n0_ := Aside0.mk (below_step (zw0 HB.out) hb); have BK119 := Aside0.mk (hbox); have GW119 := Aside0.mk (zg hg (below_size (zw0 HB.out))); have GE119 := GW119; clear HB; have HB := n0_; clear n0_; clear hb hbox hg) | ((with_reducible refine gate_callee (f := 99) rfl ?_); refine zgo (some 10) Try.func99 #[.int .i64 a1] ?_; (with_reducible refine (word_Of.calls a1 t120 _ A6.out).mono ?_); rintro e w' ⟨rfl, ⟨nd, rfl⟩⟩; refine ⟨_, rfl, ?_⟩))
  go_ret
  exact ⟨ze, zw1 HB.out GE119.out⟩

end Go.Proofs.Ytjoplkillkhiaaa.L
