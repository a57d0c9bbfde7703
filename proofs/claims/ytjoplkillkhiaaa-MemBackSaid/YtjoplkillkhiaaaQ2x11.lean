-- Written by this session's own edition of the print.
import Derived.Test.YtjoplkillkhiaaaQ2x0
import Derived.Test.YtjoplkillkhiaaaQ2x4
import Derived.Test.YtjoplkillkhiaaaQ2x5
import Derived.Test.YtjoplkillkhiaaaQ2x10
import Derived.Test.YtjoplkillkhiaaaYSq
import Derived.Test.YtjoplkillkhiaaaYSq2
namespace Go.Proofs.Ytjoplkillkhiaaa.Q2
open Go.RowKit Go.Proofs.Ytjoplkillkhiaaa.Fn Go.Proofs.YtjoplkillkhiaaaW.PrintWords Go.Proofs.YtjoplkillkhiaaaW.PrintLast Go.Proofs.YtjoplkillkhiaaaW.PrintMore
attribute [local go_sem] max2_int min2_int max_two min_two max_three min_three max_four min_four   -- for this text's walks alone
set_option linter.unusedVariables false
set_option linter.unusedSimpArgs false

/-! mem_Go -/
def mem_Go.j0 : Nat → List (S76) → Int → Bool → Bool → Int → Int → Int → Option (Bool × Int × Int × Int × Int)
 | 0, _, _, _, _, _, _, _ => none
 | k + 1, x0, x8, x14, x254000, x254001, x254002, x254003 => if x14 = true then (some (x254000, x254001, x254002, x254003, 0)) else (if 0 ≤ x254002 then (if x254002 < (x0.length : Int) then (if ((rd_T76 x0 x254002).f0) = 1 then (if x8 < 0 then (some (false, 0, 0, 0, 1)) else (if x8 > (((rd_T76 x0 x254002).f1).length : Int) then (some (false, 0, 0, 0, 1)) else (some (x254000, x254001, x254002, x8, 0)))) else (some (false, 0, 0, 0, 2))) else (none)) else (none))
def mem_Go.f (k : Nat) (l0 : List (S76)) (a1_0 : Bool) (a1_1 : Int) (a1_2 : Int) (a1_3 : Int) (a2 : Int) : Option (Bool × Int × Int × Int × Int) := (word_Look.f a2 32).bind fun t255 => (if a1_2 = 0 then (mem_Go.j0 k l0 (wrap64 (a1_3 + t255)) (a2 == 0) a1_0 a1_1 a1_2 a1_3) else (mem_Go.j0 k l0 (wrap64 (a1_3 + t255)) false a1_0 a1_1 a1_2 a1_3))
theorem mem_Go.mono_l : ∀ k, (∀ y0 y1 y2 y3 y4 y5 y6, LeO (mem_Go.j0 k y0 y1 y2 y3 y4 y5 y6) (mem_Go.j0 (k + 1) y0 y1 y2 y3 y4 y5 y6))
 | 0 => fun _ _ _ _ _ _ _ r h => by simp [mem_Go.j0] at h
 | k + 1 => by
  have ih0 := mem_Go.mono_l k
  ·intro y0 y1 y2 y3 y4 y5 y6
   unfold mem_Go.j0
   repeat' first
   | (with_reducible apply ih0)
   | (with_reducible apply LeO.refl)
   | (with_reducible apply LeO.none)
   | (with_reducible refine LeO.ite ?_ ?_)
   | (with_reducible refine LeO.bind ?_ (fun _ => ?_))
theorem mem_Go.mono : ∀ a0 a1 a2 a3 a4 a5 k, LeO (mem_Go.f k a0 a1 a2 a3 a4 a5) (mem_Go.f (k + 1) a0 a1 a2 a3 a4 a5) := by
 intro a0 a1 a2 a3 a4 a5 k
 have ih0 := mem_Go.mono_l k
 unfold mem_Go.f
 repeat' first
   | (with_reducible apply ih0)
   | (with_reducible apply LeO.refl)
   | (with_reducible apply LeO.none)
   | (with_reducible refine LeO.ite ?_ ?_)
   | (with_reducible refine LeO.bind ?_ (fun _ => ?_))
set_option maxHeartbeats 8000000 in
set_option maxRecDepth 100000 in
theorem mem_Go.calls (k : Nat) (A0 : Option Addr) (c0 : Nat) (l0 : List (S76)) (a1_0 : Bool) (a1_1 : Int) (a1_2 : Int) (a1_3 : Int) (a2 : Int) (r1 : Bool) (r2 : Int) (r3 : Int) (r4 : Int) (r5 : Int) (w : World) (hr0 : Kd.C k76 w A0 l0.length l0) (hc0 : l0.length ≤ c0) (h : mem_Go.f k l0 a1_0 a1_1 a1_2 a1_3 a2 = some (r1, r2, r3, r4, r5)) :
  Calls Try.prog 80 #[.slice A0 l0.length c0, .agg #[.bool a1_0, .int .i64 a1_1, .int .i64 a1_2, .int .i64 a1_3], .int .i64 a2] w fun e w' => e = .returned (.tuple #[.agg #[.bool r1, .int .i64 r2, .int .i64 r3, .int .i64 r4], .int .i64 r5]) ∧ Below w.heap.size w w' := by
 have hu62 := Try.underlying62
 have HR0 := Aside0.mk hr0
 have HC0 := Aside0.mk hc0
 clear hr0 hc0
 have HB := Aside0.mk (Below.refl w.heap.size w)
 have H : ((word_Look.f a2 32).bind fun t255 => (if a1_2 = 0 then (mem_Go.j0 k l0 (wrap64 (a1_3 + t255)) (a2 == 0) a1_0 a1_1 a1_2 a1_3) else (mem_Go.j0 k l0 (wrap64 (a1_3 + t255)) false a1_0 a1_1 a1_2 a1_3))) = some (r1, r2, r3, r4, r5) := h
 clear h
 replace H := Option.bind_eq_some_iff.mp H
 obtain ⟨t255, A40, H⟩ := H
 replace H : (if a1_2 = 0 then (mem_Go.j0 k l0 (wrap64 (a1_3 + t255)) (a2 == 0) a1_0 a1_1 a1_2 a1_3) else (mem_Go.j0 k l0 (wrap64 (a1_3 + t255)) false a1_0 a1_1 a1_2 a1_3)) = some (r1, r2, r3, r4, r5) := H
 have A4 := Aside0.mk A40
 clear A40
 have HC5 := Aside0.mk H
 clear H
 go_enter Try.func80, Try.ntmps80
 go_upto_region 2 with (first | ((with_reducible refine gate_dst (N := 4) rfl ?_); (try (refine gate_guard (by rfl) ?_; dsimp only)); refine zbox (N := 4) (cs := #[.bool a1_0, .int .i64 a1_1, .int .i64 a1_2, .int .i64 a1_3]) (t := 62) ?_; intro gb253 hg w6 hbox hb; have n0_ := Aside0.mk (below_step (zw0 HB.out) hb); have BK253 := Aside0.mk (hbox); have GW253 := Aside0.mk (zg hg (below_size (zw0 HB.out))); have GE253 := GW253; clear HB; have HB := n0_; clear n0_; clear hb hbox hg) | ((with_reducible refine gate_dst (N := 6) rfl ?_); (try (refine gate_guard (by rfl) ?_; dsimp only)); refine zbox (N := 6) (cs := #[.bool false, .int .i64 0, .int .i64 0, .int .i64 0]) (t := 62) ?_; intro gb254 hg w7 hbox hb; have n0_ := Aside0.mk (zbb BK253.out hb); have n1_ := Aside0.mk (below_step (zw1 HB.out GE253.out) hb); have BK254 := Aside0.mk (hbox); have GW254 := Aside0.mk (zg hg (below_size (zw1 HB.out GE253.out))); have GE254 := GW254; have NB253_254 := Aside0.mk (zlt hg BK253.out); have NB254_253 := Aside0.mk (zgt hg BK253.out); clear BK253 HB; have BK253 := n0_; have HB := n1_; clear n0_ n1_; clear hb hbox hg; have hnb8 := NB253_254.out; have hnc8 := NB254_253.out; have hcz9_0 := zc BK253.out 0; have hcz9_1 := zc BK253.out 1; have hcz9_2 := zc BK253.out 2; have hcz9_3 := zc BK253.out 3; have hfz9_0 := blk_frozen BK253.out 0; have hfz9_1 := blk_frozen BK253.out 1; have hfz9_2 := blk_frozen BK253.out 2; have hfz9_3 := blk_frozen BK253.out 3) | (go_at_call 111; (with_reducible refine (word_Look.calls a2 32 t255 _ A4.out).mono ?_); rintro e w' ⟨rfl, ⟨nd, rfl⟩⟩; (try first | exact ⟨rfl, _, World.drewN_drewN _ _ _⟩ | exact ⟨rfl, _, Eq.trans (World.drewN_drewN _ _ _) (congrArg (World.drewN _) (Nat.add_assoc _ _ _))⟩)))
 repeat (go_quiet (first | ((with_reducible refine gate_dst (N := 4) rfl ?_); (try (refine gate_guard (by rfl) ?_; dsimp only)); refine zbox (N := 4) (cs := #[.bool a1_0, .int .i64 a1_1, .int .i64 a1_2, .int .i64 a1_3]) (t := 62) ?_; intro gb253 hg w6 hbox hb; have n0_ := Aside0.mk (below_step (zw0 HB.out) hb); have BK253 := Aside0.mk (hbox); have GW253 := Aside0.mk (zg hg (below_size (zw0 HB.out))); have GE253 := GW253; clear HB; have HB := n0_; clear n0_; clear hb hbox hg) | ((with_reducible refine gate_dst (N := 6) rfl ?_); (try (refine gate_guard (by rfl) ?_; dsimp only)); refine zbox (N := 6) (cs := #[.bool false, .int .i64 0, .int .i64 0, .int .i64 0]) (t := 62) ?_; intro gb254 hg w7 hbox hb; have n0_ := Aside0.mk (zbb BK253.out hb); have n1_ := Aside0.mk (below_step (zw1 HB.out GE253.out) hb); have BK254 := Aside0.mk (hbox); have GW254 := Aside0.mk (zg hg (below_size (zw1 HB.out GE253.out))); have GE254 := GW254; have NB253_254 := Aside0.mk (zlt hg BK253.out); have NB254_253 := Aside0.mk (zgt hg BK253.out); clear BK253 HB; have BK253 := n0_; have HB := n1_; clear n0_ n1_; clear hb hbox hg; have hnb8 := NB253_254.out; have hnc8 := NB254_253.out; have hcz9_0 := zc BK253.out 0; have hcz9_1 := zc BK253.out 1; have hcz9_2 := zc BK253.out 2; have hcz9_3 := zc BK253.out 3; have hfz9_0 := blk_frozen BK253.out 0; have hfz9_1 := blk_frozen BK253.out 1; have hfz9_2 := blk_frozen BK253.out 2; have hfz9_3 := blk_frozen BK253.out 3) | (go_at_call 111; (with_reducible refine (word_Look.calls a2 32 t255 _ A4.out).mono ?_); rintro e w' ⟨rfl, ⟨nd, rfl⟩⟩; (try first | exact ⟨rfl, _, World.drewN_drewN _ _ _⟩ | exact ⟨rfl, _, Eq.trans (World.drewN_drewN _ _ _) (congrArg (World.drewN _) (Nat.add_assoc _ _ _))⟩))); go_upto_region 2 with (first | ((with_reducible refine gate_dst (N := 4) rfl ?_); (try (refine gate_guard (by rfl) ?_; dsimp only)); refine zbox (N := 4) (cs := #[.bool a1_0, .int .i64 a1_1, .int .i64 a1_2, .int .i64 a1_3]) (t := 62) ?_; intro gb253 hg w6 hbox hb; have n0_ := Aside0.mk (below_step (zw0 HB.out) hb); have BK253 := Aside0.mk (hbox); have GW253 := Aside0.mk (zg hg (below_size (zw0 HB.out))); have GE253 := GW253; clear HB; have HB := n0_; clear n0_; clear hb hbox hg) | ((with_reducible refine gate_dst (N := 6) rfl ?_); (try (refine gate_guard (by rfl) ?_; dsimp only)); refine zbox (N := 6) (cs := #[.bool false, .int .i64 0, .int .i64 0, .int .i64 0]) (t := 62) ?_; intro gb254 hg w7 hbox hb; have n0_ := Aside0.mk (zbb BK253.out hb); have n1_ := Aside0.mk (below_step (zw1 HB.out GE253.out) hb); have BK254 := Aside0.mk (hbox); have GW254 := Aside0.mk (zg hg (below_size (zw1 HB.out GE253.out))); have GE254 := GW254; have NB253_254 := Aside0.mk (zlt hg BK253.out); have NB254_253 := Aside0.mk (zgt hg BK253.out); clear BK253 HB; have BK253 := n0_; have HB := n1_; clear n0_ n1_; clear hb hbox hg; have hnb8 := NB253_254.out; have hnc8 := NB254_253.out; have hcz9_0 := zc BK253.out 0; have hcz9_1 := zc BK253.out 1; have hcz9_2 := zc BK253.out 2; have hcz9_3 := zc BK253.out 3; have hfz9_0 := blk_frozen BK253.out 0; have hfz9_1 := blk_frozen BK253.out 1; have hfz9_2 := blk_frozen BK253.out 2; have hfz9_3 := blk_frozen BK253.out 3) | (go_at_call 111; (with_reducible refine (word_Look.calls a2 32 t255 _ A4.out).mono ?_); rintro e w' ⟨rfl, ⟨nd, rfl⟩⟩; (try first | exact ⟨rfl, _, World.drewN_drewN _ _ _⟩ | exact ⟨rfl, _, Eq.trans (World.drewN_drewN _ _ _) (congrArg (World.drewN _) (Nat.add_assoc _ _ _))⟩))))
 (try simp only [Act.put, List.setIfInBounds_toArray, List.set_cons_zero, List.set_cons_succ])
 go_cut [14] (fun v14 wc => ∃ (kq : Nat) (x14_4 : Bool), v14 = .bool x14_4 ∧ Aside0 (mem_Go.j0 kq l0 (wrap64 (a1_3 + t255)) x14_4 a1_0 a1_1 a1_2 a1_3 = some (r1, r2, r3, r4, r5)) ∧ Aside0 (kq ≤ k) ∧ Aside0 (wc.heap[gb253]? = some (.cells #[.bool a1_0, .int .i64 a1_1, .int .i64 a1_2, .int .i64 a1_3] 62 (0, 0))) ∧ Aside0 (wc.heap[gb254]? = some (.cells #[.bool false, .int .i64 0, .int .i64 0, .int .i64 0] 62 (0, 0))) ∧ Aside0 (Below w.heap.size w wc))
 case first =>
  have H := HC5.out
  clear HC5
  by_cases c10 : a1_2 = 0
  rotate_left
  ·rw [if_neg c10] at H
   have c10b0 : (a1_2 == 0) = false := beq_eq_false_iff_ne.mpr c10
   have c10b1 : (a1_2 != 0) = true := bne_iff_ne.mpr c10
   (first | rw [c10b0] | (simp only [i64_w, i32_w]; rw [c10b0]) | skip)
   have H' := Aside0.mk H
   clear H
   have hnb13 := NB253_254.out
   have hnc13 := NB254_253.out
   have hcz14_0 := zc BK253.out 0
   have hcz14_1 := zc BK253.out 1
   have hcz14_2 := zc BK253.out 2
   have hcz14_3 := zc BK253.out 3
   have hfz14_0 := blk_frozen BK253.out 0
   have hfz14_1 := blk_frozen BK253.out 1
   have hfz14_2 := blk_frozen BK253.out 2
   have hfz14_3 := blk_frozen BK253.out 3
   go_wp2
   repeat (go_quiet (fail); try go_wp2)
   go_meet
   case rel => exact ⟨_, (false), (zr), H', ⟨by first | omega | exact Nat.le_refl _⟩, ⟨zb BK253.out⟩, ⟨zb BK254.out⟩, ⟨zw2 HB.out GE253.out GE254.out⟩⟩
  rw [if_pos c10] at H
  have c10b0 : (a1_2 == 0) = true := beq_iff_eq.mpr c10
  have c10b1 : (a1_2 != 0) = false := bne_eq_false_iff_eq.mpr c10
  clear c10
  (first | rw [c10b0] | (simp only [i64_w, i32_w]; rw [c10b0]) | skip)
  have H' := Aside0.mk H
  clear H
  have hnb11 := NB253_254.out
  have hnc11 := NB254_253.out
  have hcz12_0 := zc BK253.out 0
  have hcz12_1 := zc BK253.out 1
  have hcz12_2 := zc BK253.out 2
  have hcz12_3 := zc BK253.out 3
  have hfz12_0 := blk_frozen BK253.out 0
  have hfz12_1 := blk_frozen BK253.out 1
  have hfz12_2 := blk_frozen BK253.out 2
  have hfz12_3 := blk_frozen BK253.out 3
  go_wp2
  repeat (go_quiet (fail); try go_wp2)
  go_meet
  case rel => exact ⟨_, ((a2 == 0)), (zr), H', ⟨by first | omega | exact Nat.le_refl _⟩, ⟨zb BK253.out⟩, ⟨zb BK254.out⟩, ⟨zw2 HB.out GE253.out GE254.out⟩⟩
 case rest =>
  clear HC5
  try clear c1; try clear p2; try clear p6; try clear c8; try clear c10; try clear c10b0; try clear c10b1; try clear c11; try clear c13
  obtain ⟨kq, x14_4, rfl, HA, HJ4, BK253, BK254, HB⟩ := hcut
  cases kq with
  | zero => exact absurd HA.out (by simp [mem_Go.j0])
  | succ kj4 =>
   have H := HA.out
   clear HA
   simp only [mem_Go.j0] at H
   by_cases c15 : x14_4 = true
   ·subst c15
    have H1 : (some (a1_0, a1_1, a1_2, a1_3, 0)) = some (r1, r2, r3, r4, r5) := by rw [if_pos rfl] at H; exact H
    clear H
    have H := H1
    clear H1
    simp only [Option.some.injEq, Prod.mk.injEq] at H
    obtain ⟨rfl, rfl, rfl, rfl, rfl⟩ := H
    have hnb16 := NB253_254.out
    have hnc16 := NB254_253.out
    have hcz17_0 := zc BK253.out 0
    have hcz17_1 := zc BK253.out 1
    have hcz17_2 := zc BK253.out 2
    have hcz17_3 := zc BK253.out 3
    have hfz17_0 := blk_frozen BK253.out 0
    have hfz17_1 := blk_frozen BK253.out 1
    have hfz17_2 := blk_frozen BK253.out 2
    have hfz17_3 := blk_frozen BK253.out 3
    have hcz18_0 := zc BK254.out 0
    have hcz18_1 := zc BK254.out 1
    have hcz18_2 := zc BK254.out 2
    have hcz18_3 := zc BK254.out 3
    have hfz18_0 := blk_frozen BK254.out 0
    have hfz18_1 := blk_frozen BK254.out 1
    have hfz18_2 := blk_frozen BK254.out 2
    have hfz18_3 := blk_frozen BK254.out 3
    go_wp2
    repeat (go_quiet (fail); try go_wp2)
    refine bodyPost_ret (results_ct rfl _ _ gb254 62 #[.bool a1_0, .int .i64 a1_1, .int .i64 a1_2, .int .i64 a1_3] (0, 0) _ rfl (by (with_reducible repeat (first | refine blk_drewN ?_ _ | refine blk_drew ?_ | refine blk_alloc ?_ _)); refine blk_put (cs := #[.bool a1_0, .int .i64 a1_1, .int .i64 a1_2, .int .i64 0]) ?_ 3 _ rfl; (with_reducible repeat (first | refine blk_drewN ?_ _ | refine blk_drew ?_ | refine blk_alloc ?_ _)); refine blk_put (cs := #[.bool a1_0, .int .i64 a1_1, .int .i64 0, .int .i64 0]) ?_ 2 _ rfl; (with_reducible repeat (first | refine blk_drewN ?_ _ | refine blk_drew ?_ | refine blk_alloc ?_ _)); refine blk_put (cs := #[.bool a1_0, .int .i64 0, .int .i64 0, .int .i64 0]) ?_ 1 _ rfl; (with_reducible repeat (first | refine blk_drewN ?_ _ | refine blk_drew ?_ | refine blk_alloc ?_ _)); refine blk_put (cs := #[.bool false, .int .i64 0, .int .i64 0, .int .i64 0]) ?_ 0 _ rfl; (with_reducible repeat (first | refine blk_drewN ?_ _ | refine blk_drew ?_ | refine blk_alloc ?_ _)); exact BK254.out) Try.underlying62 rfl (by kernel_rfl)) rfl ?_
    exact ⟨ze, zw2 HB.out GE253.out GE254.out⟩
   ·replace c15 := Bool.eq_false_iff.mpr c15
    subst c15
    have H1 : (if 0 ≤ a1_2 then (if a1_2 < (l0.length : Int) then (if ((rd_T76 l0 a1_2).f0) = 1 then (if (wrap64 (a1_3 + t255)) < 0 then (some (false, 0, 0, 0, 1)) else (if (wrap64 (a1_3 + t255)) > (((rd_T76 l0 a1_2).f1).length : Int) then (some (false, 0, 0, 0, 1)) else (some (a1_0, a1_1, a1_2, (wrap64 (a1_3 + t255)), 0)))) else (some (false, 0, 0, 0, 2))) else (none)) else (none)) = some (r1, r2, r3, r4, r5) := by rw [if_neg (show ¬ (false = true) by decide)] at H; exact H
    clear H
    have H := H1
    clear H1
    by_cases c19 : 0 ≤ a1_2
    ·rw [if_pos c19] at H
     have c19b0 : decide (0 ≤ a1_2) = true := decide_eq_true c19
     clear c19
     by_cases c20 : a1_2 < (l0.length : Int)
     rotate_left
     ·rw [if_neg c20] at H
      exact absurd H (by simp)
     rw [if_pos c20] at H
     have c20b0 : decide (a1_2 < (l0.length : Int)) = true := decide_eq_true c20
     clear c20
     by_cases c21 : ((rd_T76 l0 a1_2).f0) = 1
     rotate_left
     ·rw [if_neg c21] at H
      have c21b0 : (((rd_T76 l0 a1_2).f0) == 1) = false := beq_eq_false_iff_ne.mpr c21
      have c21b1 : (((rd_T76 l0 a1_2).f0) != 1) = true := bne_iff_ne.mpr c21
      simp only [Option.some.injEq, Prod.mk.injEq] at H
      obtain ⟨rfl, rfl, rfl, rfl, rfl⟩ := H
      have hnb33 := NB253_254.out
      have hnc33 := NB254_253.out
      have hcz34_0 := zc BK253.out 0
      have hcz34_1 := zc BK253.out 1
      have hcz34_2 := zc BK253.out 2
      have hcz34_3 := zc BK253.out 3
      have hfz34_0 := blk_frozen BK253.out 0
      have hfz34_1 := blk_frozen BK253.out 1
      have hfz34_2 := blk_frozen BK253.out 2
      have hfz34_3 := blk_frozen BK253.out 3
      have p256 : 0 ≤ (a1_2 : Int) := zdec
      have q256 : a1_2 < (l0.length : Int) := zdec
      obtain ⟨ad256, A256_1, c256_1, e256, hx256_0, hx256_1, hl256_1, hi256_1⟩ := at_T76 HR0.out a1_2 p256 q256
      cases e256
      replace hx256_0 := zh HB.out hx256_0
      replace hx256_1 := zh HB.out hx256_1
      have HR256_1 := Aside0.mk hi256_1
      have HC256_1 := Aside0.mk hl256_1
      clear hi256_1 hl256_1
      replace p256 := eq_true p256
      replace q256 := eq_true q256
      have hcz35_0 := zc BK254.out 0
      have hcz35_1 := zc BK254.out 1
      have hcz35_2 := zc BK254.out 2
      have hcz35_3 := zc BK254.out 3
      have hfz35_0 := blk_frozen BK254.out 0
      have hfz35_1 := blk_frozen BK254.out 1
      have hfz35_2 := blk_frozen BK254.out 2
      have hfz35_3 := blk_frozen BK254.out 3
      go_wp2
      repeat (go_quiet (fail); try go_wp2)
      refine bodyPost_ret (results_ct rfl _ _ gb254 62 #[.bool false, .int .i64 0, .int .i64 0, .int .i64 0] (0, 0) _ rfl (by (with_reducible repeat (first | refine blk_drewN ?_ _ | refine blk_drew ?_ | refine blk_alloc ?_ _)); refine blk_put (cs := #[.bool false, .int .i64 0, .int .i64 0, .int .i64 0]) ?_ 3 _ rfl; (with_reducible repeat (first | refine blk_drewN ?_ _ | refine blk_drew ?_ | refine blk_alloc ?_ _)); refine blk_put (cs := #[.bool false, .int .i64 0, .int .i64 0, .int .i64 0]) ?_ 2 _ rfl; (with_reducible repeat (first | refine blk_drewN ?_ _ | refine blk_drew ?_ | refine blk_alloc ?_ _)); refine blk_put (cs := #[.bool false, .int .i64 0, .int .i64 0, .int .i64 0]) ?_ 1 _ rfl; (with_reducible repeat (first | refine blk_drewN ?_ _ | refine blk_drew ?_ | refine blk_alloc ?_ _)); refine blk_put (cs := #[.bool false, .int .i64 0, .int .i64 0, .int .i64 0]) ?_ 0 _ rfl; (with_reducible repeat (first | refine blk_drewN ?_ _ | refine blk_drew ?_ | refine blk_alloc ?_ _)); exact BK254.out) Try.underlying62 rfl (by kernel_rfl)) rfl ?_
      exact ⟨ze, zw2 HB.out GE253.out GE254.out⟩
     rw [if_pos c21] at H
     have c21b0 : (((rd_T76 l0 a1_2).f0) == 1) = true := beq_iff_eq.mpr c21
     have c21b1 : (((rd_T76 l0 a1_2).f0) != 1) = false := bne_eq_false_iff_eq.mpr c21
     clear c21
     by_cases c22 : (wrap64 (a1_3 + t255)) < 0
     ·rw [if_pos c22] at H
      have c22b0 : decide ((wrap64 (a1_3 + t255)) < 0) = true := decide_eq_true c22
      clear c22
      simp only [Option.some.injEq, Prod.mk.injEq] at H
      obtain ⟨rfl, rfl, rfl, rfl, rfl⟩ := H
      have hnb23 := NB253_254.out
      have hnc23 := NB254_253.out
      have hcz24_0 := zc BK253.out 0
      have hcz24_1 := zc BK253.out 1
      have hcz24_2 := zc BK253.out 2
      have hcz24_3 := zc BK253.out 3
      have hfz24_0 := blk_frozen BK253.out 0
      have hfz24_1 := blk_frozen BK253.out 1
      have hfz24_2 := blk_frozen BK253.out 2
      have hfz24_3 := blk_frozen BK253.out 3
      have p256 : 0 ≤ (a1_2 : Int) := zdec
      have q256 : a1_2 < (l0.length : Int) := zdec
      obtain ⟨ad256, A256_1, c256_1, e256, hx256_0, hx256_1, hl256_1, hi256_1⟩ := at_T76 HR0.out a1_2 p256 q256
      cases e256
      replace hx256_0 := zh HB.out hx256_0
      replace hx256_1 := zh HB.out hx256_1
      have HR256_1 := Aside0.mk hi256_1
      have HC256_1 := Aside0.mk hl256_1
      clear hi256_1 hl256_1
      replace p256 := eq_true p256
      replace q256 := eq_true q256
      have hcz25_0 := zc BK254.out 0
      have hcz25_1 := zc BK254.out 1
      have hcz25_2 := zc BK254.out 2
      have hcz25_3 := zc BK254.out 3
      have hfz25_0 := blk_frozen BK254.out 0
      have hfz25_1 := blk_frozen BK254.out 1
      have hfz25_2 := blk_frozen BK254.out 2
      have hfz25_3 := blk_frozen BK254.out 3
      go_wp2
      repeat (go_quiet (fail); try go_wp2)
      refine bodyPost_ret (results_ct rfl _ _ gb254 62 #[.bool false, .int .i64 0, .int .i64 0, .int .i64 0] (0, 0) _ rfl (by (with_reducible repeat (first | refine blk_drewN ?_ _ | refine blk_drew ?_ | refine blk_alloc ?_ _)); refine blk_put (cs := #[.bool false, .int .i64 0, .int .i64 0, .int .i64 0]) ?_ 3 _ rfl; (with_reducible repeat (first | refine blk_drewN ?_ _ | refine blk_drew ?_ | refine blk_alloc ?_ _)); refine blk_put (cs := #[.bool false, .int .i64 0, .int .i64 0, .int .i64 0]) ?_ 2 _ rfl; (with_reducible repeat (first | refine blk_drewN ?_ _ | refine blk_drew ?_ | refine blk_alloc ?_ _)); refine blk_put (cs := #[.bool false, .int .i64 0, .int .i64 0, .int .i64 0]) ?_ 1 _ rfl; (with_reducible repeat (first | refine blk_drewN ?_ _ | refine blk_drew ?_ | refine blk_alloc ?_ _)); refine blk_put (cs := #[.bool false, .int .i64 0, .int .i64 0, .int .i64 0]) ?_ 0 _ rfl; (with_reducible repeat (first | refine blk_drewN ?_ _ | refine blk_drew ?_ | refine blk_alloc ?_ _)); exact BK254.out) Try.underlying62 rfl (by kernel_rfl)) rfl ?_
      exact ⟨ze, zw2 HB.out GE253.out GE254.out⟩
     rw [if_neg c22] at H
     have c22b0 : decide ((wrap64 (a1_3 + t255)) < 0) = false := decide_eq_false c22
     clear c22
     by_cases c26 : (wrap64 (a1_3 + t255)) > (((rd_T76 l0 a1_2).f1).length : Int)
     ·rw [if_pos c26] at H
      have c26b0 : decide ((((rd_T76 l0 a1_2).f1).length : Int) < (wrap64 (a1_3 + t255))) = true := decide_eq_true c26
      clear c26
      simp only [Option.some.injEq, Prod.mk.injEq] at H
      obtain ⟨rfl, rfl, rfl, rfl, rfl⟩ := H
      have hnb27 := NB253_254.out
      have hnc27 := NB254_253.out
      have hcz28_0 := zc BK253.out 0
      have hcz28_1 := zc BK253.out 1
      have hcz28_2 := zc BK253.out 2
      have hcz28_3 := zc BK253.out 3
      have hfz28_0 := blk_frozen BK253.out 0
      have hfz28_1 := blk_frozen BK253.out 1
      have hfz28_2 := blk_frozen BK253.out 2
      have hfz28_3 := blk_frozen BK253.out 3
      have p256 : 0 ≤ (a1_2 : Int) := zdec
      have q256 : a1_2 < (l0.length : Int) := zdec
      obtain ⟨ad256, A256_1, c256_1, e256, hx256_0, hx256_1, hl256_1, hi256_1⟩ := at_T76 HR0.out a1_2 p256 q256
      cases e256
      replace hx256_0 := zh HB.out hx256_0
      replace hx256_1 := zh HB.out hx256_1
      have HR256_1 := Aside0.mk hi256_1
      have HC256_1 := Aside0.mk hl256_1
      clear hi256_1 hl256_1
      replace p256 := eq_true p256
      replace q256 := eq_true q256
      have p257 : 0 ≤ (a1_2 : Int) := zdec
      have q257 : a1_2 < (l0.length : Int) := zdec
      obtain ⟨ad257, A257_1, c257_1, e257, hx257_0, hx257_1, hl257_1, hi257_1⟩ := at_T76 HR0.out a1_2 p257 q257
      obtain rfl : ad256 = ad257 := (by injection e257)
      replace hx257_0 := zh HB.out hx257_0
      replace hx257_1 := zh HB.out hx257_1
      have HR257_1 := Aside0.mk hi257_1
      have HC257_1 := Aside0.mk hl257_1
      clear hi257_1 hl257_1
      replace p257 := eq_true p257
      replace q257 := eq_true q257
      have ea_ := Option.some.inj (hx256_1.symm.trans hx257_1)
      injection ea_ with ea_ en_ ec_
      subst ea_
      subst ec_
      clear en_
      have hcz29_0 := zc BK254.out 0
      have hcz29_1 := zc BK254.out 1
      have hcz29_2 := zc BK254.out 2
      have hcz29_3 := zc BK254.out 3
      have hfz29_0 := blk_frozen BK254.out 0
      have hfz29_1 := blk_frozen BK254.out 1
      have hfz29_2 := blk_frozen BK254.out 2
      have hfz29_3 := blk_frozen BK254.out 3
      go_wp2
      repeat (go_quiet (fail); try go_wp2)
      refine bodyPost_ret (results_ct rfl _ _ gb254 62 #[.bool false, .int .i64 0, .int .i64 0, .int .i64 0] (0, 0) _ rfl (by (with_reducible repeat (first | refine blk_drewN ?_ _ | refine blk_drew ?_ | refine blk_alloc ?_ _)); refine blk_put (cs := #[.bool false, .int .i64 0, .int .i64 0, .int .i64 0]) ?_ 3 _ rfl; (with_reducible repeat (first | refine blk_drewN ?_ _ | refine blk_drew ?_ | refine blk_alloc ?_ _)); refine blk_put (cs := #[.bool false, .int .i64 0, .int .i64 0, .int .i64 0]) ?_ 2 _ rfl; (with_reducible repeat (first | refine blk_drewN ?_ _ | refine blk_drew ?_ | refine blk_alloc ?_ _)); refine blk_put (cs := #[.bool false, .int .i64 0, .int .i64 0, .int .i64 0]) ?_ 1 _ rfl; (with_reducible repeat (first | refine blk_drewN ?_ _ | refine blk_drew ?_ | refine blk_alloc ?_ _)); refine blk_put (cs := #[.bool false, .int .i64 0, .int .i64 0, .int .i64 0]) ?_ 0 _ rfl; (with_reducible repeat (first | refine blk_drewN ?_ _ | refine blk_drew ?_ | refine blk_alloc ?_ _)); exact BK254.out) Try.underlying62 rfl (by kernel_rfl)) rfl ?_
      exact ⟨ze, zw2 HB.out GE253.out GE254.out⟩
     rw [if_neg c26] at H
     have c26b0 : decide ((((rd_T76 l0 a1_2).f1).length : Int) < (wrap64 (a1_3 + t255))) = false := decide_eq_false c26
     clear c26
     simp only [Option.some.injEq, Prod.mk.injEq] at H
     obtain ⟨rfl, rfl, rfl, rfl, rfl⟩ := H
     have hnb30 := NB253_254.out
     have hnc30 := NB254_253.out
     have hcz31_0 := zc BK253.out 0
     have hcz31_1 := zc BK253.out 1
     have hcz31_2 := zc BK253.out 2
     have hcz31_3 := zc BK253.out 3
     have hfz31_0 := blk_frozen BK253.out 0
     have hfz31_1 := blk_frozen BK253.out 1
     have hfz31_2 := blk_frozen BK253.out 2
     have hfz31_3 := blk_frozen BK253.out 3
     have p256 : 0 ≤ (a1_2 : Int) := zdec
     have q256 : a1_2 < (l0.length : Int) := zdec
     obtain ⟨ad256, A256_1, c256_1, e256, hx256_0, hx256_1, hl256_1, hi256_1⟩ := at_T76 HR0.out a1_2 p256 q256
     cases e256
     replace hx256_0 := zh HB.out hx256_0
     replace hx256_1 := zh HB.out hx256_1
     have HR256_1 := Aside0.mk hi256_1
     have HC256_1 := Aside0.mk hl256_1
     clear hi256_1 hl256_1
     replace p256 := eq_true p256
     replace q256 := eq_true q256
     have p257 : 0 ≤ (a1_2 : Int) := zdec
     have q257 : a1_2 < (l0.length : Int) := zdec
     obtain ⟨ad257, A257_1, c257_1, e257, hx257_0, hx257_1, hl257_1, hi257_1⟩ := at_T76 HR0.out a1_2 p257 q257
     obtain rfl : ad256 = ad257 := (by injection e257)
     replace hx257_0 := zh HB.out hx257_0
     replace hx257_1 := zh HB.out hx257_1
     have HR257_1 := Aside0.mk hi257_1
     have HC257_1 := Aside0.mk hl257_1
     clear hi257_1 hl257_1
     replace p257 := eq_true p257
     replace q257 := eq_true q257
     have ea_ := Option.some.inj (hx256_1.symm.trans hx257_1)
     injection ea_ with ea_ en_ ec_
     subst ea_
     subst ec_
     clear en_
     have hcz32_0 := zc BK254.out 0
     have hcz32_1 := zc BK254.out 1
     have hcz32_2 := zc BK254.out 2
     have hcz32_3 := zc BK254.out 3
     have hfz32_0 := blk_frozen BK254.out 0
     have hfz32_1 := blk_frozen BK254.out 1
     have hfz32_2 := blk_frozen BK254.out 2
     have hfz32_3 := blk_frozen BK254.out 3
     go_wp2
     repeat (go_quiet (fail); try go_wp2)
     refine bodyPost_ret (results_ct rfl _ _ gb254 62 #[.bool a1_0, .int .i64 a1_1, .int .i64 a1_2, .int .i64 (wrap64 (a1_3 + t255))] (0, 0) _ rfl (by (with_reducible repeat (first | refine blk_drewN ?_ _ | refine blk_drew ?_ | refine blk_alloc ?_ _)); refine blk_put (cs := #[.bool a1_0, .int .i64 a1_1, .int .i64 a1_2, .int .i64 0]) ?_ 3 _ rfl; (with_reducible repeat (first | refine blk_drewN ?_ _ | refine blk_drew ?_ | refine blk_alloc ?_ _)); refine blk_put (cs := #[.bool a1_0, .int .i64 a1_1, .int .i64 0, .int .i64 0]) ?_ 2 _ rfl; (with_reducible repeat (first | refine blk_drewN ?_ _ | refine blk_drew ?_ | refine blk_alloc ?_ _)); refine blk_put (cs := #[.bool a1_0, .int .i64 0, .int .i64 0, .int .i64 0]) ?_ 1 _ rfl; (with_reducible repeat (first | refine blk_drewN ?_ _ | refine blk_drew ?_ | refine blk_alloc ?_ _)); refine blk_put (cs := #[.bool false, .int .i64 0, .int .i64 0, .int .i64 0]) ?_ 0 _ rfl; (with_reducible repeat (first | refine blk_drewN ?_ _ | refine blk_drew ?_ | refine blk_alloc ?_ _)); refine blk_far ?_ NB254_253.out _; (with_reducible repeat (first | refine blk_drewN ?_ _ | refine blk_drew ?_ | refine blk_alloc ?_ _)); exact BK254.out) Try.underlying62 rfl (by kernel_rfl)) rfl ?_
     exact ⟨ze, zw2 HB.out GE253.out GE254.out⟩
    ·rw [if_neg c19] at H
     exact absurd H (by simp)

/-! mem_Move -/
def mem_Move.f (k : Nat) (l0 : List (S76)) (a1_0 : Bool) (a1_1 : Int) (a1_2 : Int) (a1_3 : Int) (a2 : Int) : Option (Bool × Int × Int × Int × Int × Int) := (mem_May.f l0).bind fun t260 => (if t260 = true then ((mem_there.f l0 a1_0 a1_1 a1_2 a1_3).bind fun t261 => (if t261 = true then ((word_Is.f a2 32).bind fun t262 => (if t262 = true then ((mem_Go.f k l0 a1_0 a1_1 a1_2 a1_3 a2).bind fun bt263 => (some (bt263.1, bt263.2.1, bt263.2.2.1, bt263.2.2.2.1, bt263.2.2.2.2, 0))) else (some (false, 0, 0, 0, 0, 1)))) else (some (false, 0, 0, 0, 0, 1)))) else (some (false, 0, 0, 0, 0, 1)))
theorem mem_Move.mono : ∀ a0 a1 a2 a3 a4 a5 k, LeO (mem_Move.f k a0 a1 a2 a3 a4 a5) (mem_Move.f (k + 1) a0 a1 a2 a3 a4 a5) := by
 intro a0 a1 a2 a3 a4 a5 k
 unfold mem_Move.f
 repeat' first
   | (with_reducible apply mem_Go.mono)
   | (with_reducible apply LeO.refl)
   | (with_reducible apply LeO.none)
   | (with_reducible refine LeO.ite ?_ ?_)
   | (with_reducible refine LeO.bind ?_ (fun _ => ?_))
set_option maxHeartbeats 8000000 in
set_option maxRecDepth 100000 in
theorem mem_Move.calls (k : Nat) (A0 : Option Addr) (c0 : Nat) (l0 : List (S76)) (a1_0 : Bool) (a1_1 : Int) (a1_2 : Int) (a1_3 : Int) (a2 : Int) (r1 : Bool) (r2 : Int) (r3 : Int) (r4 : Int) (r5 : Int) (r6 : Int) (w : World) (hr0 : Kd.C k76 w A0 l0.length l0) (hc0 : l0.length ≤ c0) (h : mem_Move.f k l0 a1_0 a1_1 a1_2 a1_3 a2 = some (r1, r2, r3, r4, r5, r6)) :
  Calls Try.prog 44 #[.slice A0 l0.length c0, .agg #[.bool a1_0, .int .i64 a1_1, .int .i64 a1_2, .int .i64 a1_3], .int .i64 a2] w fun e w' => e = .returned (.tuple #[.agg #[.bool r1, .int .i64 r2, .int .i64 r3, .int .i64 r4], .int .i64 r5, .int .i64 r6]) ∧ Below w.heap.size w w' := by
 have hu62 := Try.underlying62
 have HR0 := Aside0.mk hr0
 have HC0 := Aside0.mk hc0
 clear hr0 hc0
 have HB := Aside0.mk (Below.refl w.heap.size w)
 have H : ((mem_May.f l0).bind fun t260 => (if t260 = true then ((mem_there.f l0 a1_0 a1_1 a1_2 a1_3).bind fun t261 => (if t261 = true then ((word_Is.f a2 32).bind fun t262 => (if t262 = true then ((mem_Go.f k l0 a1_0 a1_1 a1_2 a1_3 a2).bind fun bt263 => (some (bt263.1, bt263.2.1, bt263.2.2.1, bt263.2.2.2.1, bt263.2.2.2.2, 0))) else (some (false, 0, 0, 0, 0, 1)))) else (some (false, 0, 0, 0, 0, 1)))) else (some (false, 0, 0, 0, 0, 1)))) = some (r1, r2, r3, r4, r5, r6) := h
 clear h
 replace H := Option.bind_eq_some_iff.mp H
 obtain ⟨t260, A40, H⟩ := H
 replace H : (if t260 = true then ((mem_there.f l0 a1_0 a1_1 a1_2 a1_3).bind fun t261 => (if t261 = true then ((word_Is.f a2 32).bind fun t262 => (if t262 = true then ((mem_Go.f k l0 a1_0 a1_1 a1_2 a1_3 a2).bind fun bt263 => (some (bt263.1, bt263.2.1, bt263.2.2.1, bt263.2.2.2.1, bt263.2.2.2.2, 0))) else (some (false, 0, 0, 0, 0, 1)))) else (some (false, 0, 0, 0, 0, 1)))) else (some (false, 0, 0, 0, 0, 1))) = some (r1, r2, r3, r4, r5, r6) := H
 have A4 := Aside0.mk A40
 clear A40
 by_cases c5 : t260 = true
 ·subst c5
  have H1 : ((mem_there.f l0 a1_0 a1_1 a1_2 a1_3).bind fun t261 => (if t261 = true then ((word_Is.f a2 32).bind fun t262 => (if t262 = true then ((mem_Go.f k l0 a1_0 a1_1 a1_2 a1_3 a2).bind fun bt263 => (some (bt263.1, bt263.2.1, bt263.2.2.1, bt263.2.2.2.1, bt263.2.2.2.2, 0))) else (some (false, 0, 0, 0, 0, 1)))) else (some (false, 0, 0, 0, 0, 1)))) = some (r1, r2, r3, r4, r5, r6) := by rw [if_pos rfl] at H; exact H
  clear H
  have H := H1
  clear H1
  replace H := Option.bind_eq_some_iff.mp H
  obtain ⟨t261, A60, H⟩ := H
  replace H : (if t261 = true then ((word_Is.f a2 32).bind fun t262 => (if t262 = true then ((mem_Go.f k l0 a1_0 a1_1 a1_2 a1_3 a2).bind fun bt263 => (some (bt263.1, bt263.2.1, bt263.2.2.1, bt263.2.2.2.1, bt263.2.2.2.2, 0))) else (some (false, 0, 0, 0, 0, 1)))) else (some (false, 0, 0, 0, 0, 1))) = some (r1, r2, r3, r4, r5, r6) := H
  have A6 := Aside0.mk A60
  clear A60
  by_cases c7 : t261 = true
  rotate_left
  ·replace c7 := Bool.eq_false_iff.mpr c7
   subst c7
   have H1 : (some (false, 0, 0, 0, 0, 1)) = some (r1, r2, r3, r4, r5, r6) := by rw [if_neg (show ¬ (false = true) by decide)] at H; exact H
   clear H
   have H := H1
   clear H1
   simp only [Option.some.injEq, Prod.mk.injEq] at H
   obtain ⟨rfl, rfl, rfl, rfl, rfl, rfl⟩ := H
   go_enter Try.func44, Try.ntmps44
   go_wp2_with (first | ((with_reducible refine gate_dst (N := 4) rfl ?_); refine zbox (N := 4) (cs := #[.bool a1_0, .int .i64 a1_1, .int .i64 a1_2, .int .i64 a1_3]) (t := 62) ?_; intro gb258 hg w27 hbox hb; have n0_ := Aside0.mk (below_step (zw0 HB.out) hb); have BK258 := Aside0.mk (hbox); have GW258 := Aside0.mk (zg hg (below_size (zw0 HB.out))); have GE258 := GW258; clear HB; have HB := n0_; clear n0_; clear hb hbox hg) | ((with_reducible refine gate_dst (N := 6) rfl ?_); refine zbox (N := 6) (cs := #[.bool false, .int .i64 0, .int .i64 0, .int .i64 0]) (t := 62) ?_; intro gb259 hg w28 hbox hb; have n0_ := Aside0.mk (zbb BK258.out hb); have n1_ := Aside0.mk (below_step (zw1 HB.out GE258.out) hb); have BK259 := Aside0.mk (hbox); have GW259 := Aside0.mk (zg hg (below_size (zw1 HB.out GE258.out))); have GE259 := GW259; have NB258_259 := Aside0.mk (zlt hg BK258.out); have NB259_258 := Aside0.mk (zgt hg BK258.out); clear BK258 HB; have BK258 := n0_; have HB := n1_; clear n0_ n1_; clear hb hbox hg) | ((with_reducible refine gate_callee (f := 77) rfl ?_); refine zgo (some 10) Try.func77 #[.slice A0 l0.length c0] ?_; (with_reducible refine (mem_May.calls _ _ l0 true _ ?side1 ?side2 A4.out).mono ?_); (case side1 => repeat (first | exact (Kd.C_below HR0.out HB.out) | (with_reducible refine Kd.C_alloc ?_ _) | (with_reducible refine Kd.C_drewN ?_ _) | (with_reducible refine Kd.C_drew ?_))); (case side2 => exact HC0.out); rintro e w29 ⟨rfl, hb⟩; refine ⟨_, rfl, ?_⟩; have n0_ := Aside0.mk (zbb BK258.out hb); have n1_ := Aside0.mk (zbb BK259.out hb); have n2_ := Aside0.mk (below_step (zw2 HB.out GE258.out GE259.out) hb); clear BK258 BK259 HB; have BK258 := n0_; have BK259 := n1_; have HB := n2_; clear n0_ n1_ n2_; (try clear hb); (try clear hb2); (try clear hk); (try clear hi); have hnb30 := NB258_259.out; have hnc30 := NB259_258.out; have hcz31_0 := zc BK258.out 0; have hcz31_1 := zc BK258.out 1; have hcz31_2 := zc BK258.out 2; have hcz31_3 := zc BK258.out 3; have hfz31_0 := blk_frozen BK258.out 0; have hfz31_1 := blk_frozen BK258.out 1; have hfz31_2 := blk_frozen BK258.out 2; have hfz31_3 := blk_frozen BK258.out 3) | (go_at_call 78; (with_reducible refine (mem_there.calls _ _ l0 a1_0 a1_1 a1_2 a1_3 false _ ?side1 ?side2 A6.out).mono ?_); (case side1 => repeat (first | exact (Kd.C_below HR0.out HB.out) | (with_reducible refine Kd.C_alloc ?_ _) | (with_reducible refine Kd.C_drewN ?_ _) | (with_reducible refine Kd.C_drew ?_))); (case side2 => exact HC0.out); rintro e w32 ⟨rfl, hb⟩; have n0_ := Aside0.mk (zbb BK258.out hb); have n1_ := Aside0.mk (zbb BK259.out hb); have n2_ := Aside0.mk (below_step (zw2 HB.out GE258.out GE259.out) hb); clear BK258 BK259 HB; have BK258 := n0_; have BK259 := n1_; have HB := n2_; clear n0_ n1_ n2_; (try clear hb); (try clear hb2); (try clear hk); (try clear hi); have hcz33_0 := zc BK259.out 0; have hcz33_1 := zc BK259.out 1; have hcz33_2 := zc BK259.out 2; have hcz33_3 := zc BK259.out 3; have hfz33_0 := blk_frozen BK259.out 0; have hfz33_1 := blk_frozen BK259.out 1; have hfz33_2 := blk_frozen BK259.out 2; have hfz33_3 := blk_frozen BK259.out 3))
   refine bodyPost_ret (results_ctt rfl _ _ gb259 62 #[.bool false, .int .i64 0, .int .i64 0, .int .i64 0] (0, 0) _ rfl (by (with_reducible repeat (first | refine blk_drewN ?_ _ | refine blk_drew ?_ | refine blk_alloc ?_ _)); refine blk_put (cs := #[.bool false, .int .i64 0, .int .i64 0, .int .i64 0]) ?_ 3 _ rfl; (with_reducible repeat (first | refine blk_drewN ?_ _ | refine blk_drew ?_ | refine blk_alloc ?_ _)); refine blk_put (cs := #[.bool false, .int .i64 0, .int .i64 0, .int .i64 0]) ?_ 2 _ rfl; (with_reducible repeat (first | refine blk_drewN ?_ _ | refine blk_drew ?_ | refine blk_alloc ?_ _)); refine blk_put (cs := #[.bool false, .int .i64 0, .int .i64 0, .int .i64 0]) ?_ 1 _ rfl; (with_reducible repeat (first | refine blk_drewN ?_ _ | refine blk_drew ?_ | refine blk_alloc ?_ _)); refine blk_put (cs := #[.bool false, .int .i64 0, .int .i64 0, .int .i64 0]) ?_ 0 _ rfl; (with_reducible repeat (first | refine blk_drewN ?_ _ | refine blk_drew ?_ | refine blk_alloc ?_ _)); exact BK259.out) Try.underlying62 rfl (by kernel_rfl)) rfl ?_
   exact ⟨ze, zw2 HB.out GE258.out GE259.out⟩
  subst c7
  have H1 : ((word_Is.f a2 32).bind fun t262 => (if t262 = true then ((mem_Go.f k l0 a1_0 a1_1 a1_2 a1_3 a2).bind fun bt263 => (some (bt263.1, bt263.2.1, bt263.2.2.1, bt263.2.2.2.1, bt263.2.2.2.2, 0))) else (some (false, 0, 0, 0, 0, 1)))) = some (r1, r2, r3, r4, r5, r6) := by rw [if_pos rfl] at H; exact H
  clear H
  have H := H1
  clear H1
  replace H := Option.bind_eq_some_iff.mp H
  obtain ⟨t262, A80, H⟩ := H
  replace H : (if t262 = true then ((mem_Go.f k l0 a1_0 a1_1 a1_2 a1_3 a2).bind fun bt263 => (some (bt263.1, bt263.2.1, bt263.2.2.1, bt263.2.2.2.1, bt263.2.2.2.2, 0))) else (some (false, 0, 0, 0, 0, 1))) = some (r1, r2, r3, r4, r5, r6) := H
  have A8 := Aside0.mk A80
  clear A80
  by_cases c9 : t262 = true
  rotate_left
  ·replace c9 := Bool.eq_false_iff.mpr c9
   subst c9
   have H1 : (some (false, 0, 0, 0, 0, 1)) = some (r1, r2, r3, r4, r5, r6) := by rw [if_neg (show ¬ (false = true) by decide)] at H; exact H
   clear H
   have H := H1
   clear H1
   simp only [Option.some.injEq, Prod.mk.injEq] at H
   obtain ⟨rfl, rfl, rfl, rfl, rfl, rfl⟩ := H
   go_enter Try.func44, Try.ntmps44
   go_wp2_with (first | ((with_reducible refine gate_dst (N := 4) rfl ?_); refine zbox (N := 4) (cs := #[.bool a1_0, .int .i64 a1_1, .int .i64 a1_2, .int .i64 a1_3]) (t := 62) ?_; intro gb258 hg w20 hbox hb; have n0_ := Aside0.mk (below_step (zw0 HB.out) hb); have BK258 := Aside0.mk (hbox); have GW258 := Aside0.mk (zg hg (below_size (zw0 HB.out))); have GE258 := GW258; clear HB; have HB := n0_; clear n0_; clear hb hbox hg) | ((with_reducible refine gate_dst (N := 6) rfl ?_); refine zbox (N := 6) (cs := #[.bool false, .int .i64 0, .int .i64 0, .int .i64 0]) (t := 62) ?_; intro gb259 hg w21 hbox hb; have n0_ := Aside0.mk (zbb BK258.out hb); have n1_ := Aside0.mk (below_step (zw1 HB.out GE258.out) hb); have BK259 := Aside0.mk (hbox); have GW259 := Aside0.mk (zg hg (below_size (zw1 HB.out GE258.out))); have GE259 := GW259; have NB258_259 := Aside0.mk (zlt hg BK258.out); have NB259_258 := Aside0.mk (zgt hg BK258.out); clear BK258 HB; have BK258 := n0_; have HB := n1_; clear n0_ n1_; clear hb hbox hg) | ((with_reducible refine gate_callee (f := 77) rfl ?_); refine zgo (some 10) Try.func77 #[.slice A0 l0.length c0] ?_; (with_reducible refine (mem_May.calls _ _ l0 true _ ?side1 ?side2 A4.out).mono ?_); (case side1 => repeat (first | exact (Kd.C_below HR0.out HB.out) | (with_reducible refine Kd.C_alloc ?_ _) | (with_reducible refine Kd.C_drewN ?_ _) | (with_reducible refine Kd.C_drew ?_))); (case side2 => exact HC0.out); rintro e w22 ⟨rfl, hb⟩; refine ⟨_, rfl, ?_⟩; have n0_ := Aside0.mk (zbb BK258.out hb); have n1_ := Aside0.mk (zbb BK259.out hb); have n2_ := Aside0.mk (below_step (zw2 HB.out GE258.out GE259.out) hb); clear BK258 BK259 HB; have BK258 := n0_; have BK259 := n1_; have HB := n2_; clear n0_ n1_ n2_; (try clear hb); (try clear hb2); (try clear hk); (try clear hi); have hnb23 := NB258_259.out; have hnc23 := NB259_258.out; have hcz24_0 := zc BK258.out 0; have hcz24_1 := zc BK258.out 1; have hcz24_2 := zc BK258.out 2; have hcz24_3 := zc BK258.out 3; have hfz24_0 := blk_frozen BK258.out 0; have hfz24_1 := blk_frozen BK258.out 1; have hfz24_2 := blk_frozen BK258.out 2; have hfz24_3 := blk_frozen BK258.out 3) | (go_at_call 78; (with_reducible refine (mem_there.calls _ _ l0 a1_0 a1_1 a1_2 a1_3 true _ ?side1 ?side2 A6.out).mono ?_); (case side1 => repeat (first | exact (Kd.C_below HR0.out HB.out) | (with_reducible refine Kd.C_alloc ?_ _) | (with_reducible refine Kd.C_drewN ?_ _) | (with_reducible refine Kd.C_drew ?_))); (case side2 => exact HC0.out); rintro e w25 ⟨rfl, hb⟩; have n0_ := Aside0.mk (zbb BK258.out hb); have n1_ := Aside0.mk (zbb BK259.out hb); have n2_ := Aside0.mk (below_step (zw2 HB.out GE258.out GE259.out) hb); clear BK258 BK259 HB; have BK258 := n0_; have BK259 := n1_; have HB := n2_; clear n0_ n1_ n2_; (try clear hb); (try clear hb2); (try clear hk); (try clear hi)) | (go_at_call 79; (with_reducible refine (word_Is.calls a2 32 false _ A8.out).mono ?_); rintro e w' ⟨rfl, ⟨nd, rfl⟩⟩; (try (rw [drewN_self w25]; generalize hq_ : World.drewN w25 _ = w25; have n0_ : Aside0 (w25.heap[gb258]? = some (.cells #[.bool a1_0, .int .i64 a1_1, .int .i64 a1_2, .int .i64 a1_3] 62 (0, 0))) := ⟨by rw [← hq_]; exact (zb BK258.out)⟩; have n1_ : Aside0 (w25.heap[gb259]? = some (.cells #[.bool false, .int .i64 0, .int .i64 0, .int .i64 0] 62 (0, 0))) := ⟨by rw [← hq_]; exact (zb BK259.out)⟩; have n2_ : Aside0 (Below w.heap.size w w25) := ⟨by rw [← hq_]; exact (zw2 HB.out GE258.out GE259.out)⟩; clear BK258 BK259 HB hq_; have BK258 := n0_; have BK259 := n1_; have HB := n2_; clear n0_ n1_ n2_)); have hcz26_0 := zc BK259.out 0; have hcz26_1 := zc BK259.out 1; have hcz26_2 := zc BK259.out 2; have hcz26_3 := zc BK259.out 3; have hfz26_0 := blk_frozen BK259.out 0; have hfz26_1 := blk_frozen BK259.out 1; have hfz26_2 := blk_frozen BK259.out 2; have hfz26_3 := blk_frozen BK259.out 3))
   refine bodyPost_ret (results_ctt rfl _ _ gb259 62 #[.bool false, .int .i64 0, .int .i64 0, .int .i64 0] (0, 0) _ rfl (by (with_reducible repeat (first | refine blk_drewN ?_ _ | refine blk_drew ?_ | refine blk_alloc ?_ _)); refine blk_put (cs := #[.bool false, .int .i64 0, .int .i64 0, .int .i64 0]) ?_ 3 _ rfl; (with_reducible repeat (first | refine blk_drewN ?_ _ | refine blk_drew ?_ | refine blk_alloc ?_ _)); refine blk_put (cs := #[.bool false, .int .i64 0, .int .i64 0, .int .i64 0]) ?_ 2 _ rfl; (with_reducible repeat (first | refine blk_drewN ?_ _ | refine blk_drew ?_ | refine blk_alloc ?_ _)); refine blk_put (cs := #[.bool false, .int .i64 0, .int .i64 0, .int .i64 0]) ?_ 1 _ rfl; (with_reducible repeat (first | refine blk_drewN ?_ _ | refine blk_drew ?_ | refine blk_alloc ?_ _)); refine blk_put (cs := #[.bool false, .int .i64 0, .int .i64 0, .int .i64 0]) ?_ 0 _ rfl; (with_reducible repeat (first | refine blk_drewN ?_ _ | refine blk_drew ?_ | refine blk_alloc ?_ _)); exact BK259.out) Try.underlying62 rfl (by kernel_rfl)) rfl ?_
   exact ⟨ze, zw2 HB.out GE258.out GE259.out⟩
  subst c9
  have H1 : ((mem_Go.f k l0 a1_0 a1_1 a1_2 a1_3 a2).bind fun bt263 => (some (bt263.1, bt263.2.1, bt263.2.2.1, bt263.2.2.2.1, bt263.2.2.2.2, 0))) = some (r1, r2, r3, r4, r5, r6) := by rw [if_pos rfl] at H; exact H
  clear H
  have H := H1
  clear H1
  replace H := Option.bind_eq_some_iff.mp H
  obtain ⟨⟨t263, t264, t265, t266, t267⟩, A100, H⟩ := H
  replace H : (some (t263, t264, t265, t266, t267, 0)) = some (r1, r2, r3, r4, r5, r6) := H
  have A10 := Aside0.mk A100
  clear A100
  simp only [Option.some.injEq, Prod.mk.injEq] at H
  obtain ⟨rfl, rfl, rfl, rfl, rfl, rfl⟩ := H
  go_enter Try.func44, Try.ntmps44
  go_wp2_with (first | ((with_reducible refine gate_dst (N := 4) rfl ?_); refine zbox (N := 4) (cs := #[.bool a1_0, .int .i64 a1_1, .int .i64 a1_2, .int .i64 a1_3]) (t := 62) ?_; intro gb258 hg w11 hbox hb; have n0_ := Aside0.mk (below_step (zw0 HB.out) hb); have BK258 := Aside0.mk (hbox); have GW258 := Aside0.mk (zg hg (below_size (zw0 HB.out))); have GE258 := GW258; clear HB; have HB := n0_; clear n0_; clear hb hbox hg) | ((with_reducible refine gate_dst (N := 6) rfl ?_); refine zbox (N := 6) (cs := #[.bool false, .int .i64 0, .int .i64 0, .int .i64 0]) (t := 62) ?_; intro gb259 hg w12 hbox hb; have n0_ := Aside0.mk (zbb BK258.out hb); have n1_ := Aside0.mk (below_step (zw1 HB.out GE258.out) hb); have BK259 := Aside0.mk (hbox); have GW259 := Aside0.mk (zg hg (below_size (zw1 HB.out GE258.out))); have GE259 := GW259; have NB258_259 := Aside0.mk (zlt hg BK258.out); have NB259_258 := Aside0.mk (zgt hg BK258.out); clear BK258 HB; have BK258 := n0_; have HB := n1_; clear n0_ n1_; clear hb hbox hg) | ((with_reducible refine gate_callee (f := 77) rfl ?_); refine zgo (some 10) Try.func77 #[.slice A0 l0.length c0] ?_; (with_reducible refine (mem_May.calls _ _ l0 true _ ?side1 ?side2 A4.out).mono ?_); (case side1 => repeat (first | exact (Kd.C_below HR0.out HB.out) | (with_reducible refine Kd.C_alloc ?_ _) | (with_reducible refine Kd.C_drewN ?_ _) | (with_reducible refine Kd.C_drew ?_))); (case side2 => exact HC0.out); rintro e w13 ⟨rfl, hb⟩; refine ⟨_, rfl, ?_⟩; have n0_ := Aside0.mk (zbb BK258.out hb); have n1_ := Aside0.mk (zbb BK259.out hb); have n2_ := Aside0.mk (below_step (zw2 HB.out GE258.out GE259.out) hb); clear BK258 BK259 HB; have BK258 := n0_; have BK259 := n1_; have HB := n2_; clear n0_ n1_ n2_; (try clear hb); (try clear hb2); (try clear hk); (try clear hi); have hnb14 := NB258_259.out; have hnc14 := NB259_258.out; have hcz15_0 := zc BK258.out 0; have hcz15_1 := zc BK258.out 1; have hcz15_2 := zc BK258.out 2; have hcz15_3 := zc BK258.out 3; have hfz15_0 := blk_frozen BK258.out 0; have hfz15_1 := blk_frozen BK258.out 1; have hfz15_2 := blk_frozen BK258.out 2; have hfz15_3 := blk_frozen BK258.out 3) | (go_at_call 78; (with_reducible refine (mem_there.calls _ _ l0 a1_0 a1_1 a1_2 a1_3 true _ ?side1 ?side2 A6.out).mono ?_); (case side1 => repeat (first | exact (Kd.C_below HR0.out HB.out) | (with_reducible refine Kd.C_alloc ?_ _) | (with_reducible refine Kd.C_drewN ?_ _) | (with_reducible refine Kd.C_drew ?_))); (case side2 => exact HC0.out); rintro e w16 ⟨rfl, hb⟩; have n0_ := Aside0.mk (zbb BK258.out hb); have n1_ := Aside0.mk (zbb BK259.out hb); have n2_ := Aside0.mk (below_step (zw2 HB.out GE258.out GE259.out) hb); clear BK258 BK259 HB; have BK258 := n0_; have BK259 := n1_; have HB := n2_; clear n0_ n1_ n2_; (try clear hb); (try clear hb2); (try clear hk); (try clear hi)) | (go_at_call 79; (with_reducible refine (word_Is.calls a2 32 true _ A8.out).mono ?_); rintro e w' ⟨rfl, ⟨nd, rfl⟩⟩; (try (rw [drewN_self w16]; generalize hq_ : World.drewN w16 _ = w16; have n0_ : Aside0 (w16.heap[gb258]? = some (.cells #[.bool a1_0, .int .i64 a1_1, .int .i64 a1_2, .int .i64 a1_3] 62 (0, 0))) := ⟨by rw [← hq_]; exact (zb BK258.out)⟩; have n1_ : Aside0 (w16.heap[gb259]? = some (.cells #[.bool false, .int .i64 0, .int .i64 0, .int .i64 0] 62 (0, 0))) := ⟨by rw [← hq_]; exact (zb BK259.out)⟩; have n2_ : Aside0 (Below w.heap.size w w16) := ⟨by rw [← hq_]; exact (zw2 HB.out GE258.out GE259.out)⟩; clear BK258 BK259 HB hq_; have BK258 := n0_; have BK259 := n1_; have HB := n2_; clear n0_ n1_ n2_)); have hcz17_0 := zc BK258.out 0; have hcz17_1 := zc BK258.out 1; have hcz17_2 := zc BK258.out 2; have hcz17_3 := zc BK258.out 3; have hfz17_0 := blk_frozen BK258.out 0; have hfz17_1 := blk_frozen BK258.out 1; have hfz17_2 := blk_frozen BK258.out 2; have hfz17_3 := blk_frozen BK258.out 3) | ((with_reducible refine gate_callee (f := 80) rfl ?_); refine zgo (some 28) Try.func80 #[.slice A0 l0.length c0, .agg #[.bool a1_0, .int .i64 a1_1, .int .i64 a1_2, .int .i64 a1_3], .int .i64 a2] ?_; (with_reducible refine (mem_Go.calls k _ _ l0 a1_0 a1_1 a1_2 a1_3 a2 t263 t264 t265 t266 t267 _ ?side1 ?side2 A10.out).mono ?_); (case side1 => repeat (first | exact (Kd.C_below HR0.out HB.out) | (with_reducible refine Kd.C_alloc ?_ _) | (with_reducible refine Kd.C_drewN ?_ _) | (with_reducible refine Kd.C_drew ?_))); (case side2 => exact HC0.out); rintro e w18 ⟨rfl, hb⟩; refine ⟨_, rfl, ?_⟩; have n0_ := Aside0.mk (zbb BK258.out hb); have n1_ := Aside0.mk (zbb BK259.out hb); have n2_ := Aside0.mk (below_step (zw2 HB.out GE258.out GE259.out) hb); clear BK258 BK259 HB; have BK258 := n0_; have BK259 := n1_; have HB := n2_; clear n0_ n1_ n2_; (try clear hb); (try clear hb2); (try clear hk); (try clear hi); have hcz19_0 := zc BK259.out 0; have hcz19_1 := zc BK259.out 1; have hcz19_2 := zc BK259.out 2; have hcz19_3 := zc BK259.out 3; have hfz19_0 := blk_frozen BK259.out 0; have hfz19_1 := blk_frozen BK259.out 1; have hfz19_2 := blk_frozen BK259.out 2; have hfz19_3 := blk_frozen BK259.out 3))
  refine bodyPost_ret (results_ctt rfl _ _ gb259 62 #[.bool t263, .int .i64 t264, .int .i64 t265, .int .i64 t266] (0, 0) _ rfl (by (with_reducible repeat (first | refine blk_drewN ?_ _ | refine blk_drew ?_ | refine blk_alloc ?_ _)); refine blk_put (cs := #[.bool t263, .int .i64 t264, .int .i64 t265, .int .i64 t266]) ?_ 3 _ rfl; (with_reducible repeat (first | refine blk_drewN ?_ _ | refine blk_drew ?_ | refine blk_alloc ?_ _)); refine blk_put (cs := #[.bool t263, .int .i64 t264, .int .i64 t265, .int .i64 t266]) ?_ 2 _ rfl; (with_reducible repeat (first | refine blk_drewN ?_ _ | refine blk_drew ?_ | refine blk_alloc ?_ _)); refine blk_put (cs := #[.bool t263, .int .i64 t264, .int .i64 t265, .int .i64 t266]) ?_ 1 _ rfl; (with_reducible repeat (first | refine blk_drewN ?_ _ | refine blk_drew ?_ | refine blk_alloc ?_ _)); refine blk_put (cs := #[.bool t263, .int .i64 t264, .int .i64 t265, .int .i64 t266]) ?_ 0 _ rfl; (with_reducible repeat (first | refine blk_drewN ?_ _ | refine blk_drew ?_ | refine blk_alloc ?_ _)); refine blk_put (cs := #[.bool t263, .int .i64 t264, .int .i64 t265, .int .i64 0]) ?_ 3 _ rfl; (with_reducible repeat (first | refine blk_drewN ?_ _ | refine blk_drew ?_ | refine blk_alloc ?_ _)); refine blk_put (cs := #[.bool t263, .int .i64 t264, .int .i64 0, .int .i64 0]) ?_ 2 _ rfl; (with_reducible repeat (first | refine blk_drewN ?_ _ | refine blk_drew ?_ | refine blk_alloc ?_ _)); refine blk_put (cs := #[.bool t263, .int .i64 0, .int .i64 0, .int .i64 0]) ?_ 1 _ rfl; (with_reducible repeat (first | refine blk_drewN ?_ _ | refine blk_drew ?_ | refine blk_alloc ?_ _)); refine blk_put (cs := #[.bool false, .int .i64 0, .int .i64 0, .int .i64 0]) ?_ 0 _ rfl; (with_reducible repeat (first | refine blk_drewN ?_ _ | refine blk_drew ?_ | refine blk_alloc ?_ _)); exact BK259.out) Try.underlying62 rfl (by kernel_rfl)) rfl ?_
  exact ⟨ze, zw2 HB.out GE258.out GE259.out⟩
 ·replace c5 := Bool.eq_false_iff.mpr c5
  subst c5
  have H1 : (some (false, 0, 0, 0, 0, 1)) = some (r1, r2, r3, r4, r5, r6) := by rw [if_neg (show ¬ (false = true) by decide)] at H; exact H
  clear H
  have H := H1
  clear H1
  simp only [Option.some.injEq, Prod.mk.injEq] at H
  obtain ⟨rfl, rfl, rfl, rfl, rfl, rfl⟩ := H
  go_enter Try.func44, Try.ntmps44
  go_wp2_with (first | ((with_reducible refine gate_dst (N := 4) rfl ?_); refine zbox (N := 4) (cs := #[.bool a1_0, .int .i64 a1_1, .int .i64 a1_2, .int .i64 a1_3]) (t := 62) ?_; intro gb258 hg w34 hbox hb; have n0_ := Aside0.mk (below_step (zw0 HB.out) hb); have BK258 := Aside0.mk (hbox); have GW258 := Aside0.mk (zg hg (below_size (zw0 HB.out))); have GE258 := GW258; clear HB; have HB := n0_; clear n0_; clear hb hbox hg) | ((with_reducible refine gate_dst (N := 6) rfl ?_); refine zbox (N := 6) (cs := #[.bool false, .int .i64 0, .int .i64 0, .int .i64 0]) (t := 62) ?_; intro gb259 hg w35 hbox hb; have n0_ := Aside0.mk (zbb BK258.out hb); have n1_ := Aside0.mk (below_step (zw1 HB.out GE258.out) hb); have BK259 := Aside0.mk (hbox); have GW259 := Aside0.mk (zg hg (below_size (zw1 HB.out GE258.out))); have GE259 := GW259; have NB258_259 := Aside0.mk (zlt hg BK258.out); have NB259_258 := Aside0.mk (zgt hg BK258.out); clear BK258 HB; have BK258 := n0_; have HB := n1_; clear n0_ n1_; clear hb hbox hg) | ((with_reducible refine gate_callee (f := 77) rfl ?_); refine zgo (some 10) Try.func77 #[.slice A0 l0.length c0] ?_; (with_reducible refine (mem_May.calls _ _ l0 false _ ?side1 ?side2 A4.out).mono ?_); (case side1 => repeat (first | exact (Kd.C_below HR0.out HB.out) | (with_reducible refine Kd.C_alloc ?_ _) | (with_reducible refine Kd.C_drewN ?_ _) | (with_reducible refine Kd.C_drew ?_))); (case side2 => exact HC0.out); rintro e w36 ⟨rfl, hb⟩; refine ⟨_, rfl, ?_⟩; have n0_ := Aside0.mk (zbb BK258.out hb); have n1_ := Aside0.mk (zbb BK259.out hb); have n2_ := Aside0.mk (below_step (zw2 HB.out GE258.out GE259.out) hb); clear BK258 BK259 HB; have BK258 := n0_; have BK259 := n1_; have HB := n2_; clear n0_ n1_ n2_; (try clear hb); (try clear hb2); (try clear hk); (try clear hi); have hnb37 := NB259_258.out; have hnc37 := NB258_259.out; have hcz38_0 := zc BK259.out 0; have hcz38_1 := zc BK259.out 1; have hcz38_2 := zc BK259.out 2; have hcz38_3 := zc BK259.out 3; have hfz38_0 := blk_frozen BK259.out 0; have hfz38_1 := blk_frozen BK259.out 1; have hfz38_2 := blk_frozen BK259.out 2; have hfz38_3 := blk_frozen BK259.out 3))
  refine bodyPost_ret (results_ctt rfl _ _ gb259 62 #[.bool false, .int .i64 0, .int .i64 0, .int .i64 0] (0, 0) _ rfl (by (with_reducible repeat (first | refine blk_drewN ?_ _ | refine blk_drew ?_ | refine blk_alloc ?_ _)); refine blk_put (cs := #[.bool false, .int .i64 0, .int .i64 0, .int .i64 0]) ?_ 3 _ rfl; (with_reducible repeat (first | refine blk_drewN ?_ _ | refine blk_drew ?_ | refine blk_alloc ?_ _)); refine blk_put (cs := #[.bool false, .int .i64 0, .int .i64 0, .int .i64 0]) ?_ 2 _ rfl; (with_reducible repeat (first | refine blk_drewN ?_ _ | refine blk_drew ?_ | refine blk_alloc ?_ _)); refine blk_put (cs := #[.bool false, .int .i64 0, .int .i64 0, .int .i64 0]) ?_ 1 _ rfl; (with_reducible repeat (first | refine blk_drewN ?_ _ | refine blk_drew ?_ | refine blk_alloc ?_ _)); refine blk_put (cs := #[.bool false, .int .i64 0, .int .i64 0, .int .i64 0]) ?_ 0 _ rfl; (with_reducible repeat (first | refine blk_drewN ?_ _ | refine blk_drew ?_ | refine blk_alloc ?_ _)); exact BK259.out) Try.underlying62 rfl (by kernel_rfl)) rfl ?_
  exact ⟨ze, zw2 HB.out GE258.out GE259.out⟩

/-! word_Cut -/
def word_Cut.f (a0 : Int) (a1 : Int) : Option (Int) := (word_Most.f a1).bind fun t268 => (some (Go.bits .and .i64 a0 t268))
set_option maxHeartbeats 8000000 in
set_option maxRecDepth 100000 in
theorem word_Cut.calls (a0 : Int) (a1 : Int) (r : Int) (w : World) (h : word_Cut.f a0 a1 = some r) :
  Calls Try.prog 112 #[.int .i64 a0, .int .i64 a1] w fun e w' => e = .returned (.int .i64 r) ∧ Drawn0 w w' := by
 have H : ((word_Most.f a1).bind fun t268 => (some (Go.bits .and .i64 a0 t268))) = some r := h
 clear h
 replace H := Option.bind_eq_some_iff.mp H
 obtain ⟨t268, A30, H⟩ := H
 replace H : (some (Go.bits .and .i64 a0 t268)) = some r := H
 have A3 := Aside0.mk A30
 clear A30
 obtain rfl := Option.some.inj H
 go_enter Try.func112, Try.ntmps112
 go_wp2_with (first | ((with_reducible refine gate_callee (f := 110) rfl ?_); refine zgo (some 7) Try.func110 #[.int .i64 a1] ?_; (with_reducible refine (word_Most.calls a1 t268 _ A3.out).mono ?_); rintro e w' ⟨rfl, ⟨nd, rfl⟩⟩; refine ⟨_, rfl, ?_⟩))
 go_ret
 exact ⟨zr, by repeat (first | exact Drawn0.refl _ | apply Drawn0.step)⟩

/-! mem_Less -/
def mem_Less.f (a0_0 : Bool) (a0_1 : Int) (a0_2 : Int) (a0_3 : Int) (a1_0 : Bool) (a1_1 : Int) (a1_2 : Int) (a1_3 : Int) : Option (Int × Int) := if a0_2 = a1_2 then ((word_Cut.f (wrap64 (a0_3 - a1_3)) 32).bind fun t271 => (some (t271, 0))) else (some (0, 9))
set_option maxHeartbeats 8000000 in
set_option maxRecDepth 100000 in
theorem mem_Less.calls (a0_0 : Bool) (a0_1 : Int) (a0_2 : Int) (a0_3 : Int) (a1_0 : Bool) (a1_1 : Int) (a1_2 : Int) (a1_3 : Int) (r1 : Int) (r2 : Int) (w : World) (h : mem_Less.f a0_0 a0_1 a0_2 a0_3 a1_0 a1_1 a1_2 a1_3 = some (r1, r2)) :
  Calls Try.prog 81 #[.agg #[.bool a0_0, .int .i64 a0_1, .int .i64 a0_2, .int .i64 a0_3], .agg #[.bool a1_0, .int .i64 a1_1, .int .i64 a1_2, .int .i64 a1_3]] w fun e w' => e = .returned (.tuple #[.int .i64 r1, .int .i64 r2]) ∧ Below w.heap.size w w' := by
 have hu62 := Try.underlying62
 have HB := Aside0.mk (Below.refl w.heap.size w)
 have H : (if a0_2 = a1_2 then ((word_Cut.f (wrap64 (a0_3 - a1_3)) 32).bind fun t271 => (some (t271, 0))) else (some (0, 9))) = some (r1, r2) := h
 clear h
 by_cases c3 : a0_2 = a1_2
 ·rw [if_pos c3] at H
  have c3b0 : (a0_2 == a1_2) = true := beq_iff_eq.mpr c3
  have c3b1 : (a0_2 != a1_2) = false := bne_eq_false_iff_eq.mpr c3
  clear c3
  replace H := Option.bind_eq_some_iff.mp H
  obtain ⟨t271, A40, H⟩ := H
  replace H : (some (t271, 0)) = some (r1, r2) := H
  have A4 := Aside0.mk A40
  clear A40
  simp only [Option.some.injEq, Prod.mk.injEq] at H
  obtain ⟨rfl, rfl⟩ := H
  go_enter Try.func81, Try.ntmps81
  go_wp2_with (first | ((with_reducible refine gate_dst (N := 2) rfl ?_); refine zbox (N := 2) (cs := #[.bool a0_0, .int .i64 a0_1, .int .i64 a0_2, .int .i64 a0_3]) (t := 62) ?_; intro gb269 hg w5 hbox hb; have n0_ := Aside0.mk (below_step (zw0 HB.out) hb); have BK269 := Aside0.mk (hbox); have GW269 := Aside0.mk (zg hg (below_size (zw0 HB.out))); have GE269 := GW269; clear HB; have HB := n0_; clear n0_; clear hb hbox hg) | ((with_reducible refine gate_dst (N := 3) rfl ?_); refine zbox (N := 3) (cs := #[.bool a1_0, .int .i64 a1_1, .int .i64 a1_2, .int .i64 a1_3]) (t := 62) ?_; intro gb270 hg w6 hbox hb; have n0_ := Aside0.mk (zbb BK269.out hb); have n1_ := Aside0.mk (below_step (zw1 HB.out GE269.out) hb); have BK270 := Aside0.mk (hbox); have GW270 := Aside0.mk (zg hg (below_size (zw1 HB.out GE269.out))); have GE270 := GW270; have NB269_270 := Aside0.mk (zlt hg BK269.out); have NB270_269 := Aside0.mk (zgt hg BK269.out); clear BK269 HB; have BK269 := n0_; have HB := n1_; clear n0_ n1_; clear hb hbox hg; have hnb7 := NB269_270.out; have hnc7 := NB270_269.out; have hcz8_0 := zc BK269.out 0; have hcz8_1 := zc BK269.out 1; have hcz8_2 := zc BK269.out 2; have hcz8_3 := zc BK269.out 3; have hfz8_0 := blk_frozen BK269.out 0; have hfz8_1 := blk_frozen BK269.out 1; have hfz8_2 := blk_frozen BK269.out 2; have hfz8_3 := blk_frozen BK269.out 3; have hcz9_0 := zc BK270.out 0; have hcz9_1 := zc BK270.out 1; have hcz9_2 := zc BK270.out 2; have hcz9_3 := zc BK270.out 3; have hfz9_0 := blk_frozen BK270.out 0; have hfz9_1 := blk_frozen BK270.out 1; have hfz9_2 := blk_frozen BK270.out 2; have hfz9_3 := blk_frozen BK270.out 3) | ((with_reducible refine gate_callee (f := 112) rfl ?_); refine zgo (some 16) Try.func112 #[.int .i64 (wrap64 (a0_3 - a1_3)), .int .i64 32] ?_; (with_reducible refine (word_Cut.calls (wrap64 (a0_3 - a1_3)) 32 t271 _ A4.out).mono ?_); rintro e w' ⟨rfl, ⟨nd, rfl⟩⟩; refine ⟨_, rfl, ?_⟩))
  go_ret2
  exact ⟨ze, zw2 HB.out GE269.out GE270.out⟩
 ·rw [if_neg c3] at H
  have c3b0 : (a0_2 == a1_2) = false := beq_eq_false_iff_ne.mpr c3
  have c3b1 : (a0_2 != a1_2) = true := bne_iff_ne.mpr c3
  simp only [Option.some.injEq, Prod.mk.injEq] at H
  obtain ⟨rfl, rfl⟩ := H
  go_enter Try.func81, Try.ntmps81
  go_wp2_with (first | ((with_reducible refine gate_dst (N := 2) rfl ?_); refine zbox (N := 2) (cs := #[.bool a0_0, .int .i64 a0_1, .int .i64 a0_2, .int .i64 a0_3]) (t := 62) ?_; intro gb269 hg w10 hbox hb; have n0_ := Aside0.mk (below_step (zw0 HB.out) hb); have BK269 := Aside0.mk (hbox); have GW269 := Aside0.mk (zg hg (below_size (zw0 HB.out))); have GE269 := GW269; clear HB; have HB := n0_; clear n0_; clear hb hbox hg) | ((with_reducible refine gate_dst (N := 3) rfl ?_); refine zbox (N := 3) (cs := #[.bool a1_0, .int .i64 a1_1, .int .i64 a1_2, .int .i64 a1_3]) (t := 62) ?_; intro gb270 hg w11 hbox hb; have n0_ := Aside0.mk (zbb BK269.out hb); have n1_ := Aside0.mk (below_step (zw1 HB.out GE269.out) hb); have BK270 := Aside0.mk (hbox); have GW270 := Aside0.mk (zg hg (below_size (zw1 HB.out GE269.out))); have GE270 := GW270; have NB269_270 := Aside0.mk (zlt hg BK269.out); have NB270_269 := Aside0.mk (zgt hg BK269.out); clear BK269 HB; have BK269 := n0_; have HB := n1_; clear n0_ n1_; clear hb hbox hg; have hnb12 := NB269_270.out; have hnc12 := NB270_269.out; have hcz13_0 := zc BK269.out 0; have hcz13_1 := zc BK269.out 1; have hcz13_2 := zc BK269.out 2; have hcz13_3 := zc BK269.out 3; have hfz13_0 := blk_frozen BK269.out 0; have hfz13_1 := blk_frozen BK269.out 1; have hfz13_2 := blk_frozen BK269.out 2; have hfz13_3 := blk_frozen BK269.out 3; have hcz14_0 := zc BK270.out 0; have hcz14_1 := zc BK270.out 1; have hcz14_2 := zc BK270.out 2; have hcz14_3 := zc BK270.out 3; have hfz14_0 := blk_frozen BK270.out 0; have hfz14_1 := blk_frozen BK270.out 1; have hfz14_2 := blk_frozen BK270.out 2; have hfz14_3 := blk_frozen BK270.out 3))
  go_ret2
  exact ⟨ze, zw2 HB.out GE269.out GE270.out⟩

/-! mem_Apart -/
def mem_Apart.f (l0 : List (S76)) (a1_0 : Bool) (a1_1 : Int) (a1_2 : Int) (a1_3 : Int) (a2_0 : Bool) (a2_1 : Int) (a2_2 : Int) (a2_3 : Int) : Option (Int × Int × Int) := (mem_May.f l0).bind fun t274 => (if t274 = true then ((mem_there.f l0 a1_0 a1_1 a1_2 a1_3).bind fun t275 => (if t275 = true then ((mem_there.f l0 a2_0 a2_1 a2_2 a2_3).bind fun t276 => (if t276 = true then ((mem_Less.f a1_0 a1_1 a1_2 a1_3 a2_0 a2_1 a2_2 a2_3).bind fun bt277 => (some (bt277.1, bt277.2, 0))) else (some (0, 0, 1)))) else (some (0, 0, 1)))) else (some (0, 0, 1)))
set_option maxHeartbeats 8000000 in
set_option maxRecDepth 100000 in
theorem mem_Apart.calls (A0 : Option Addr) (c0 : Nat) (l0 : List (S76)) (a1_0 : Bool) (a1_1 : Int) (a1_2 : Int) (a1_3 : Int) (a2_0 : Bool) (a2_1 : Int) (a2_2 : Int) (a2_3 : Int) (r1 : Int) (r2 : Int) (r3 : Int) (w : World) (hr0 : Kd.C k76 w A0 l0.length l0) (hc0 : l0.length ≤ c0) (h : mem_Apart.f l0 a1_0 a1_1 a1_2 a1_3 a2_0 a2_1 a2_2 a2_3 = some (r1, r2, r3)) :
  Calls Try.prog 45 #[.slice A0 l0.length c0, .agg #[.bool a1_0, .int .i64 a1_1, .int .i64 a1_2, .int .i64 a1_3], .agg #[.bool a2_0, .int .i64 a2_1, .int .i64 a2_2, .int .i64 a2_3]] w fun e w' => e = .returned (.tuple #[.int .i64 r1, .int .i64 r2, .int .i64 r3]) ∧ Below w.heap.size w w' := by
 have hu62 := Try.underlying62
 have HR0 := Aside0.mk hr0
 have HC0 := Aside0.mk hc0
 clear hr0 hc0
 have HB := Aside0.mk (Below.refl w.heap.size w)
 have H : ((mem_May.f l0).bind fun t274 => (if t274 = true then ((mem_there.f l0 a1_0 a1_1 a1_2 a1_3).bind fun t275 => (if t275 = true then ((mem_there.f l0 a2_0 a2_1 a2_2 a2_3).bind fun t276 => (if t276 = true then ((mem_Less.f a1_0 a1_1 a1_2 a1_3 a2_0 a2_1 a2_2 a2_3).bind fun bt277 => (some (bt277.1, bt277.2, 0))) else (some (0, 0, 1)))) else (some (0, 0, 1)))) else (some (0, 0, 1)))) = some (r1, r2, r3) := h
 clear h
 replace H := Option.bind_eq_some_iff.mp H
 obtain ⟨t274, A40, H⟩ := H
 replace H : (if t274 = true then ((mem_there.f l0 a1_0 a1_1 a1_2 a1_3).bind fun t275 => (if t275 = true then ((mem_there.f l0 a2_0 a2_1 a2_2 a2_3).bind fun t276 => (if t276 = true then ((mem_Less.f a1_0 a1_1 a1_2 a1_3 a2_0 a2_1 a2_2 a2_3).bind fun bt277 => (some (bt277.1, bt277.2, 0))) else (some (0, 0, 1)))) else (some (0, 0, 1)))) else (some (0, 0, 1))) = some (r1, r2, r3) := H
 have A4 := Aside0.mk A40
 clear A40
 by_cases c5 : t274 = true
 ·subst c5
  have H1 : ((mem_there.f l0 a1_0 a1_1 a1_2 a1_3).bind fun t275 => (if t275 = true then ((mem_there.f l0 a2_0 a2_1 a2_2 a2_3).bind fun t276 => (if t276 = true then ((mem_Less.f a1_0 a1_1 a1_2 a1_3 a2_0 a2_1 a2_2 a2_3).bind fun bt277 => (some (bt277.1, bt277.2, 0))) else (some (0, 0, 1)))) else (some (0, 0, 1)))) = some (r1, r2, r3) := by rw [if_pos rfl] at H; exact H
  clear H
  have H := H1
  clear H1
  replace H := Option.bind_eq_some_iff.mp H
  obtain ⟨t275, A60, H⟩ := H
  replace H : (if t275 = true then ((mem_there.f l0 a2_0 a2_1 a2_2 a2_3).bind fun t276 => (if t276 = true then ((mem_Less.f a1_0 a1_1 a1_2 a1_3 a2_0 a2_1 a2_2 a2_3).bind fun bt277 => (some (bt277.1, bt277.2, 0))) else (some (0, 0, 1)))) else (some (0, 0, 1))) = some (r1, r2, r3) := H
  have A6 := Aside0.mk A60
  clear A60
  by_cases c7 : t275 = true
  rotate_left
  ·replace c7 := Bool.eq_false_iff.mpr c7
   subst c7
   have H1 : (some (0, 0, 1)) = some (r1, r2, r3) := by rw [if_neg (show ¬ (false = true) by decide)] at H; exact H
   clear H
   have H := H1
   clear H1
   simp only [Option.some.injEq, Prod.mk.injEq] at H
   obtain ⟨rfl, rfl, rfl⟩ := H
   go_enter Try.func45, Try.ntmps45
   go_wp2_with (first | ((with_reducible refine gate_dst (N := 4) rfl ?_); refine zbox (N := 4) (cs := #[.bool a1_0, .int .i64 a1_1, .int .i64 a1_2, .int .i64 a1_3]) (t := 62) ?_; intro gb272 hg w30 hbox hb; have n0_ := Aside0.mk (below_step (zw0 HB.out) hb); have BK272 := Aside0.mk (hbox); have GW272 := Aside0.mk (zg hg (below_size (zw0 HB.out))); have GE272 := GW272; clear HB; have HB := n0_; clear n0_; clear hb hbox hg) | ((with_reducible refine gate_dst (N := 5) rfl ?_); refine zbox (N := 5) (cs := #[.bool a2_0, .int .i64 a2_1, .int .i64 a2_2, .int .i64 a2_3]) (t := 62) ?_; intro gb273 hg w31 hbox hb; have n0_ := Aside0.mk (zbb BK272.out hb); have n1_ := Aside0.mk (below_step (zw1 HB.out GE272.out) hb); have BK273 := Aside0.mk (hbox); have GW273 := Aside0.mk (zg hg (below_size (zw1 HB.out GE272.out))); have GE273 := GW273; have NB272_273 := Aside0.mk (zlt hg BK272.out); have NB273_272 := Aside0.mk (zgt hg BK272.out); clear BK272 HB; have BK272 := n0_; have HB := n1_; clear n0_ n1_; clear hb hbox hg) | ((with_reducible refine gate_callee (f := 77) rfl ?_); refine zgo (some 10) Try.func77 #[.slice A0 l0.length c0] ?_; (with_reducible refine (mem_May.calls _ _ l0 true _ ?side1 ?side2 A4.out).mono ?_); (case side1 => repeat (first | exact (Kd.C_below HR0.out HB.out) | (with_reducible refine Kd.C_alloc ?_ _) | (with_reducible refine Kd.C_drewN ?_ _) | (with_reducible refine Kd.C_drew ?_))); (case side2 => exact HC0.out); rintro e w32 ⟨rfl, hb⟩; refine ⟨_, rfl, ?_⟩; have n0_ := Aside0.mk (zbb BK272.out hb); have n1_ := Aside0.mk (zbb BK273.out hb); have n2_ := Aside0.mk (below_step (zw2 HB.out GE272.out GE273.out) hb); clear BK272 BK273 HB; have BK272 := n0_; have BK273 := n1_; have HB := n2_; clear n0_ n1_ n2_; (try clear hb); (try clear hb2); (try clear hk); (try clear hi); have hnb33 := NB272_273.out; have hnc33 := NB273_272.out; have hcz34_0 := zc BK272.out 0; have hcz34_1 := zc BK272.out 1; have hcz34_2 := zc BK272.out 2; have hcz34_3 := zc BK272.out 3; have hfz34_0 := blk_frozen BK272.out 0; have hfz34_1 := blk_frozen BK272.out 1; have hfz34_2 := blk_frozen BK272.out 2; have hfz34_3 := blk_frozen BK272.out 3) | (go_at_call 78; (with_reducible refine (mem_there.calls _ _ l0 a1_0 a1_1 a1_2 a1_3 false _ ?side1 ?side2 A6.out).mono ?_); (case side1 => repeat (first | exact (Kd.C_below HR0.out HB.out) | (with_reducible refine Kd.C_alloc ?_ _) | (with_reducible refine Kd.C_drewN ?_ _) | (with_reducible refine Kd.C_drew ?_))); (case side2 => exact HC0.out); rintro e w35 ⟨rfl, hb⟩; have n0_ := Aside0.mk (zbb BK272.out hb); have n1_ := Aside0.mk (zbb BK273.out hb); have n2_ := Aside0.mk (below_step (zw2 HB.out GE272.out GE273.out) hb); clear BK272 BK273 HB; have BK272 := n0_; have BK273 := n1_; have HB := n2_; clear n0_ n1_ n2_; (try clear hb); (try clear hb2); (try clear hk); (try clear hi)))
   go_ret3
   exact ⟨ze, zw2 HB.out GE272.out GE273.out⟩
  subst c7
  have H1 : ((mem_there.f l0 a2_0 a2_1 a2_2 a2_3).bind fun t276 => (if t276 = true then ((mem_Less.f a1_0 a1_1 a1_2 a1_3 a2_0 a2_1 a2_2 a2_3).bind fun bt277 => (some (bt277.1, bt277.2, 0))) else (some (0, 0, 1)))) = some (r1, r2, r3) := by rw [if_pos rfl] at H; exact H
  clear H
  have H := H1
  clear H1
  replace H := Option.bind_eq_some_iff.mp H
  obtain ⟨t276, A80, H⟩ := H
  replace H : (if t276 = true then ((mem_Less.f a1_0 a1_1 a1_2 a1_3 a2_0 a2_1 a2_2 a2_3).bind fun bt277 => (some (bt277.1, bt277.2, 0))) else (some (0, 0, 1))) = some (r1, r2, r3) := H
  have A8 := Aside0.mk A80
  clear A80
  by_cases c9 : t276 = true
  rotate_left
  ·replace c9 := Bool.eq_false_iff.mpr c9
   subst c9
   have H1 : (some (0, 0, 1)) = some (r1, r2, r3) := by rw [if_neg (show ¬ (false = true) by decide)] at H; exact H
   clear H
   have H := H1
   clear H1
   simp only [Option.some.injEq, Prod.mk.injEq] at H
   obtain ⟨rfl, rfl, rfl⟩ := H
   go_enter Try.func45, Try.ntmps45
   go_wp2_with (first | ((with_reducible refine gate_dst (N := 4) rfl ?_); refine zbox (N := 4) (cs := #[.bool a1_0, .int .i64 a1_1, .int .i64 a1_2, .int .i64 a1_3]) (t := 62) ?_; intro gb272 hg w22 hbox hb; have n0_ := Aside0.mk (below_step (zw0 HB.out) hb); have BK272 := Aside0.mk (hbox); have GW272 := Aside0.mk (zg hg (below_size (zw0 HB.out))); have GE272 := GW272; clear HB; have HB := n0_; clear n0_; clear hb hbox hg) | ((with_reducible refine gate_dst (N := 5) rfl ?_); refine zbox (N := 5) (cs := #[.bool a2_0, .int .i64 a2_1, .int .i64 a2_2, .int .i64 a2_3]) (t := 62) ?_; intro gb273 hg w23 hbox hb; have n0_ := Aside0.mk (zbb BK272.out hb); have n1_ := Aside0.mk (below_step (zw1 HB.out GE272.out) hb); have BK273 := Aside0.mk (hbox); have GW273 := Aside0.mk (zg hg (below_size (zw1 HB.out GE272.out))); have GE273 := GW273; have NB272_273 := Aside0.mk (zlt hg BK272.out); have NB273_272 := Aside0.mk (zgt hg BK272.out); clear BK272 HB; have BK272 := n0_; have HB := n1_; clear n0_ n1_; clear hb hbox hg) | ((with_reducible refine gate_callee (f := 77) rfl ?_); refine zgo (some 10) Try.func77 #[.slice A0 l0.length c0] ?_; (with_reducible refine (mem_May.calls _ _ l0 true _ ?side1 ?side2 A4.out).mono ?_); (case side1 => repeat (first | exact (Kd.C_below HR0.out HB.out) | (with_reducible refine Kd.C_alloc ?_ _) | (with_reducible refine Kd.C_drewN ?_ _) | (with_reducible refine Kd.C_drew ?_))); (case side2 => exact HC0.out); rintro e w24 ⟨rfl, hb⟩; refine ⟨_, rfl, ?_⟩; have n0_ := Aside0.mk (zbb BK272.out hb); have n1_ := Aside0.mk (zbb BK273.out hb); have n2_ := Aside0.mk (below_step (zw2 HB.out GE272.out GE273.out) hb); clear BK272 BK273 HB; have BK272 := n0_; have BK273 := n1_; have HB := n2_; clear n0_ n1_ n2_; (try clear hb); (try clear hb2); (try clear hk); (try clear hi); have hnb25 := NB272_273.out; have hnc25 := NB273_272.out; have hcz26_0 := zc BK272.out 0; have hcz26_1 := zc BK272.out 1; have hcz26_2 := zc BK272.out 2; have hcz26_3 := zc BK272.out 3; have hfz26_0 := blk_frozen BK272.out 0; have hfz26_1 := blk_frozen BK272.out 1; have hfz26_2 := blk_frozen BK272.out 2; have hfz26_3 := blk_frozen BK272.out 3) | (go_at_call 78; (with_reducible refine (mem_there.calls _ _ l0 a1_0 a1_1 a1_2 a1_3 true _ ?side1 ?side2 A6.out).mono ?_); (case side1 => repeat (first | exact (Kd.C_below HR0.out HB.out) | (with_reducible refine Kd.C_alloc ?_ _) | (with_reducible refine Kd.C_drewN ?_ _) | (with_reducible refine Kd.C_drew ?_))); (case side2 => exact HC0.out); rintro e w27 ⟨rfl, hb⟩; have n0_ := Aside0.mk (zbb BK272.out hb); have n1_ := Aside0.mk (zbb BK273.out hb); have n2_ := Aside0.mk (below_step (zw2 HB.out GE272.out GE273.out) hb); clear BK272 BK273 HB; have BK272 := n0_; have BK273 := n1_; have HB := n2_; clear n0_ n1_ n2_; (try clear hb); (try clear hb2); (try clear hk); (try clear hi); have hcz28_0 := zc BK273.out 0; have hcz28_1 := zc BK273.out 1; have hcz28_2 := zc BK273.out 2; have hcz28_3 := zc BK273.out 3; have hfz28_0 := blk_frozen BK273.out 0; have hfz28_1 := blk_frozen BK273.out 1; have hfz28_2 := blk_frozen BK273.out 2; have hfz28_3 := blk_frozen BK273.out 3) | (go_at_call 78; (with_reducible refine (mem_there.calls _ _ l0 a2_0 a2_1 a2_2 a2_3 false _ ?side1 ?side2 A8.out).mono ?_); (case side1 => repeat (first | exact (Kd.C_below HR0.out HB.out) | (with_reducible refine Kd.C_alloc ?_ _) | (with_reducible refine Kd.C_drewN ?_ _) | (with_reducible refine Kd.C_drew ?_))); (case side2 => exact HC0.out); rintro e w29 ⟨rfl, hb⟩; have n0_ := Aside0.mk (zbb BK272.out hb); have n1_ := Aside0.mk (zbb BK273.out hb); have n2_ := Aside0.mk (below_step (zw2 HB.out GE272.out GE273.out) hb); clear BK272 BK273 HB; have BK272 := n0_; have BK273 := n1_; have HB := n2_; clear n0_ n1_ n2_; (try clear hb); (try clear hb2); (try clear hk); (try clear hi)))
   go_ret3
   exact ⟨ze, zw2 HB.out GE272.out GE273.out⟩
  subst c9
  have H1 : ((mem_Less.f a1_0 a1_1 a1_2 a1_3 a2_0 a2_1 a2_2 a2_3).bind fun bt277 => (some (bt277.1, bt277.2, 0))) = some (r1, r2, r3) := by rw [if_pos rfl] at H; exact H
  clear H
  have H := H1
  clear H1
  replace H := Option.bind_eq_some_iff.mp H
  obtain ⟨⟨t277, t278⟩, A100, H⟩ := H
  replace H : (some (t277, t278, 0)) = some (r1, r2, r3) := H
  have A10 := Aside0.mk A100
  clear A100
  simp only [Option.some.injEq, Prod.mk.injEq] at H
  obtain ⟨rfl, rfl, rfl⟩ := H
  go_enter Try.func45, Try.ntmps45
  go_wp2_with (first | ((with_reducible refine gate_dst (N := 4) rfl ?_); refine zbox (N := 4) (cs := #[.bool a1_0, .int .i64 a1_1, .int .i64 a1_2, .int .i64 a1_3]) (t := 62) ?_; intro gb272 hg w11 hbox hb; have n0_ := Aside0.mk (below_step (zw0 HB.out) hb); have BK272 := Aside0.mk (hbox); have GW272 := Aside0.mk (zg hg (below_size (zw0 HB.out))); have GE272 := GW272; clear HB; have HB := n0_; clear n0_; clear hb hbox hg) | ((with_reducible refine gate_dst (N := 5) rfl ?_); refine zbox (N := 5) (cs := #[.bool a2_0, .int .i64 a2_1, .int .i64 a2_2, .int .i64 a2_3]) (t := 62) ?_; intro gb273 hg w12 hbox hb; have n0_ := Aside0.mk (zbb BK272.out hb); have n1_ := Aside0.mk (below_step (zw1 HB.out GE272.out) hb); have BK273 := Aside0.mk (hbox); have GW273 := Aside0.mk (zg hg (below_size (zw1 HB.out GE272.out))); have GE273 := GW273; have NB272_273 := Aside0.mk (zlt hg BK272.out); have NB273_272 := Aside0.mk (zgt hg BK272.out); clear BK272 HB; have BK272 := n0_; have HB := n1_; clear n0_ n1_; clear hb hbox hg) | ((with_reducible refine gate_callee (f := 77) rfl ?_); refine zgo (some 10) Try.func77 #[.slice A0 l0.length c0] ?_; (with_reducible refine (mem_May.calls _ _ l0 true _ ?side1 ?side2 A4.out).mono ?_); (case side1 => repeat (first | exact (Kd.C_below HR0.out HB.out) | (with_reducible refine Kd.C_alloc ?_ _) | (with_reducible refine Kd.C_drewN ?_ _) | (with_reducible refine Kd.C_drew ?_))); (case side2 => exact HC0.out); rintro e w13 ⟨rfl, hb⟩; refine ⟨_, rfl, ?_⟩; have n0_ := Aside0.mk (zbb BK272.out hb); have n1_ := Aside0.mk (zbb BK273.out hb); have n2_ := Aside0.mk (below_step (zw2 HB.out GE272.out GE273.out) hb); clear BK272 BK273 HB; have BK272 := n0_; have BK273 := n1_; have HB := n2_; clear n0_ n1_ n2_; (try clear hb); (try clear hb2); (try clear hk); (try clear hi); have hnb14 := NB272_273.out; have hnc14 := NB273_272.out; have hcz15_0 := zc BK272.out 0; have hcz15_1 := zc BK272.out 1; have hcz15_2 := zc BK272.out 2; have hcz15_3 := zc BK272.out 3; have hfz15_0 := blk_frozen BK272.out 0; have hfz15_1 := blk_frozen BK272.out 1; have hfz15_2 := blk_frozen BK272.out 2; have hfz15_3 := blk_frozen BK272.out 3) | (go_at_call 78; (with_reducible refine (mem_there.calls _ _ l0 a1_0 a1_1 a1_2 a1_3 true _ ?side1 ?side2 A6.out).mono ?_); (case side1 => repeat (first | exact (Kd.C_below HR0.out HB.out) | (with_reducible refine Kd.C_alloc ?_ _) | (with_reducible refine Kd.C_drewN ?_ _) | (with_reducible refine Kd.C_drew ?_))); (case side2 => exact HC0.out); rintro e w16 ⟨rfl, hb⟩; have n0_ := Aside0.mk (zbb BK272.out hb); have n1_ := Aside0.mk (zbb BK273.out hb); have n2_ := Aside0.mk (below_step (zw2 HB.out GE272.out GE273.out) hb); clear BK272 BK273 HB; have BK272 := n0_; have BK273 := n1_; have HB := n2_; clear n0_ n1_ n2_; (try clear hb); (try clear hb2); (try clear hk); (try clear hi); have hcz17_0 := zc BK273.out 0; have hcz17_1 := zc BK273.out 1; have hcz17_2 := zc BK273.out 2; have hcz17_3 := zc BK273.out 3; have hfz17_0 := blk_frozen BK273.out 0; have hfz17_1 := blk_frozen BK273.out 1; have hfz17_2 := blk_frozen BK273.out 2; have hfz17_3 := blk_frozen BK273.out 3) | (go_at_call 78; (with_reducible refine (mem_there.calls _ _ l0 a2_0 a2_1 a2_2 a2_3 true _ ?side1 ?side2 A8.out).mono ?_); (case side1 => repeat (first | exact (Kd.C_below HR0.out HB.out) | (with_reducible refine Kd.C_alloc ?_ _) | (with_reducible refine Kd.C_drewN ?_ _) | (with_reducible refine Kd.C_drew ?_))); (case side2 => exact HC0.out); rintro e w18 ⟨rfl, hb⟩; have n0_ := Aside0.mk (zbb BK272.out hb); have n1_ := Aside0.mk (zbb BK273.out hb); have n2_ := Aside0.mk (below_step (zw2 HB.out GE272.out GE273.out) hb); clear BK272 BK273 HB; have BK272 := n0_; have BK273 := n1_; have HB := n2_; clear n0_ n1_ n2_; (try clear hb); (try clear hb2); (try clear hk); (try clear hi); have hcz19_0 := zc BK272.out 0; have hcz19_1 := zc BK272.out 1; have hcz19_2 := zc BK272.out 2; have hcz19_3 := zc BK272.out 3; have hfz19_0 := blk_frozen BK272.out 0; have hfz19_1 := blk_frozen BK272.out 1; have hfz19_2 := blk_frozen BK272.out 2; have hfz19_3 := blk_frozen BK272.out 3; have hcz20_0 := zc BK273.out 0; have hcz20_1 := zc BK273.out 1; have hcz20_2 := zc BK273.out 2; have hcz20_3 := zc BK273.out 3; have hfz20_0 := blk_frozen BK273.out 0; have hfz20_1 := blk_frozen BK273.out 1; have hfz20_2 := blk_frozen BK273.out 2; have hfz20_3 := blk_frozen BK273.out 3) | ((with_reducible refine gate_callee (f := 81) rfl ?_); refine zgo (some 27) Try.func81 #[.agg #[.bool a1_0, .int .i64 a1_1, .int .i64 a1_2, .int .i64 a1_3], .agg #[.bool a2_0, .int .i64 a2_1, .int .i64 a2_2, .int .i64 a2_3]] ?_; (with_reducible refine (mem_Less.calls a1_0 a1_1 a1_2 a1_3 a2_0 a2_1 a2_2 a2_3 t277 t278 _ A10.out).mono ?_); rintro e w21 ⟨rfl, hb⟩; refine ⟨_, rfl, ?_⟩; have n0_ := Aside0.mk (zbb BK272.out hb); have n1_ := Aside0.mk (zbb BK273.out hb); have n2_ := Aside0.mk (below_step (zw2 HB.out GE272.out GE273.out) hb); clear BK272 BK273 HB; have BK272 := n0_; have BK273 := n1_; have HB := n2_; clear n0_ n1_ n2_; (try clear hb); (try clear hb2); (try clear hk); (try clear hi)))
  go_ret3
  exact ⟨ze, zw2 HB.out GE272.out GE273.out⟩
 ·replace c5 := Bool.eq_false_iff.mpr c5
  subst c5
  have H1 : (some (0, 0, 1)) = some (r1, r2, r3) := by rw [if_neg (show ¬ (false = true) by decide)] at H; exact H
  clear H
  have H := H1
  clear H1
  simp only [Option.some.injEq, Prod.mk.injEq] at H
  obtain ⟨rfl, rfl, rfl⟩ := H
  go_enter Try.func45, Try.ntmps45
  go_wp2_with (first | ((with_reducible refine gate_dst (N := 4) rfl ?_); refine zbox (N := 4) (cs := #[.bool a1_0, .int .i64 a1_1, .int .i64 a1_2, .int .i64 a1_3]) (t := 62) ?_; intro gb272 hg w36 hbox hb; have n0_ := Aside0.mk (below_step (zw0 HB.out) hb); have BK272 := Aside0.mk (hbox); have GW272 := Aside0.mk (zg hg (below_size (zw0 HB.out))); have GE272 := GW272; clear HB; have HB := n0_; clear n0_; clear hb hbox hg) | ((with_reducible refine gate_dst (N := 5) rfl ?_); refine zbox (N := 5) (cs := #[.bool a2_0, .int .i64 a2_1, .int .i64 a2_2, .int .i64 a2_3]) (t := 62) ?_; intro gb273 hg w37 hbox hb; have n0_ := Aside0.mk (zbb BK272.out hb); have n1_ := Aside0.mk (below_step (zw1 HB.out GE272.out) hb); have BK273 := Aside0.mk (hbox); have GW273 := Aside0.mk (zg hg (below_size (zw1 HB.out GE272.out))); have GE273 := GW273; have NB272_273 := Aside0.mk (zlt hg BK272.out); have NB273_272 := Aside0.mk (zgt hg BK272.out); clear BK272 HB; have BK272 := n0_; have HB := n1_; clear n0_ n1_; clear hb hbox hg) | ((with_reducible refine gate_callee (f := 77) rfl ?_); refine zgo (some 10) Try.func77 #[.slice A0 l0.length c0] ?_; (with_reducible refine (mem_May.calls _ _ l0 false _ ?side1 ?side2 A4.out).mono ?_); (case side1 => repeat (first | exact (Kd.C_below HR0.out HB.out) | (with_reducible refine Kd.C_alloc ?_ _) | (with_reducible refine Kd.C_drewN ?_ _) | (with_reducible refine Kd.C_drew ?_))); (case side2 => exact HC0.out); rintro e w38 ⟨rfl, hb⟩; refine ⟨_, rfl, ?_⟩; have n0_ := Aside0.mk (zbb BK272.out hb); have n1_ := Aside0.mk (zbb BK273.out hb); have n2_ := Aside0.mk (below_step (zw2 HB.out GE272.out GE273.out) hb); clear BK272 BK273 HB; have BK272 := n0_; have BK273 := n1_; have HB := n2_; clear n0_ n1_ n2_; (try clear hb); (try clear hb2); (try clear hk); (try clear hi)))
  go_ret3
  exact ⟨ze, zw2 HB.out GE272.out GE273.out⟩

end Go.Proofs.Ytjoplkillkhiaaa.Q2
