-- Written by this session's own edition of the print.
import Derived.Test.YtjoplkillkhiaaaStx0
import Derived.Test.YtjoplkillkhiaaaStx1
import Derived.Test.YtjoplkillkhiaaaZSq
import Derived.Test.YtjoplkillkhiaaaZSq2
import Derived.Test.YtjoplkillkhiaaaZSq3
namespace Go.Proofs.Ytjoplkillkhiaaa.St
open Go.RowKit Go.Proofs.Ytjoplkillkhiaaa.Fn Go.Proofs.YtjoplkillkhiaaaW.PrintWords Go.Proofs.YtjoplkillkhiaaaW.PrintLast Go.Proofs.YtjoplkillkhiaaaW.PrintMore
attribute [local go_sem] max2_int min2_int max_two min_two max_three min_three max_four min_four   -- for this text's walks alone
set_option linter.unusedVariables false
set_option linter.unusedSimpArgs false

attribute [local go_sem high] eqA74
/-! cellarlaw9_pointers -/
mutual
def cellarlaw9_pointers.j0 : Nat → List (S76) → List (S62) → List (List (S76)) → List (S62) → List Int → List (S29) → Option ((List (S62)))
 | 0, _, _, _, _, _, _ => none
 | k + 1, x1, x5, x151000, x151001, x151002, x151003 => cellarlaw9_pointers.l0 k x1 x5 1 x151000 x151001 x151002 x151003
def cellarlaw9_pointers.l0 : Nat → List (S76) → List (S62) → Int → List (List (S76)) → List (S62) → List Int → List (S29) → Option ((List (S62)))
 | 0, _, _, _, _, _, _, _ => none
 | k + 1, x1, x5, x6, x151000, x151001, x151002, x151003 => if x6 < (x1.length : Int) then (if x6 < 7 then (if 0 ≤ x6 then ((some (([(⟨true, 0, x6, 0⟩ : S62), (⟨true, 0, x6, mn (((rd_T76 x1 x6).f1).length : Int) 32⟩ : S62), (⟨true, 0, x6, Int.tmod (wrap64 ((wrap64 (x6 * 3)) + (x151002.length : Int))) 9⟩ : S62)] : List (S62)) : List (S62))).bind fun y161 => (if x5.length + y161.length < 4398046511104 then (cellarlaw9_pointers.l0 k x1 (x5 ++ y161) (wrap64 (x6 + 1)) x151000 x151001 x151002 x151003) else (none))) else (none)) else (some x5)) else (some x5)
end
def cellarlaw9_pointers.f (k : Nat) (l0_0 : List (List (S76))) (l0_1 : List (S62)) (l0_2 : List Int) (l0_3 : List (S29)) (l1 : List (S76)) : Option ((List (S62))) := (some (([(⟨true, 0, 0, 0⟩ : S62), (⟨true, 0, 50, 0⟩ : S62)] : List (S62)) : List (S62))).bind fun y151 => (if y151.length + l0_1.length < 4398046511104 then ((some (y151 ++ l0_1 : List (S62))).bind fun y154 => (if (y154.length : Int) > 7 then (if 7 ≤ (y154.length : Int) then (cellarlaw9_pointers.j0 k l1 (y154.take (7 : Int).toNat) l0_0 l0_1 l0_2 l0_3) else (none)) else (cellarlaw9_pointers.j0 k l1 y154 l0_0 l0_1 l0_2 l0_3))) else (none))
theorem cellarlaw9_pointers.mono_l : ∀ k, (∀ y0 y1 y2 y3 y4 y5, LeO (cellarlaw9_pointers.j0 k y0 y1 y2 y3 y4 y5) (cellarlaw9_pointers.j0 (k + 1) y0 y1 y2 y3 y4 y5)) ∧ (∀ y0 y1 y2 y3 y4 y5 y6, LeO (cellarlaw9_pointers.l0 k y0 y1 y2 y3 y4 y5 y6) (cellarlaw9_pointers.l0 (k + 1) y0 y1 y2 y3 y4 y5 y6))
 | 0 => ⟨fun _ _ _ _ _ _ r h => by simp [cellarlaw9_pointers.j0] at h, fun _ _ _ _ _ _ _ r h => by simp [cellarlaw9_pointers.l0] at h⟩
 | k + 1 => by
  obtain ⟨ih0, ih1⟩ := cellarlaw9_pointers.mono_l k
  refine ⟨?_, ?_⟩
  ·intro y0 y1 y2 y3 y4 y5
   unfold cellarlaw9_pointers.j0
   repeat' first
   | (with_reducible apply ih0)
   | (with_reducible apply ih1)
   | (with_reducible apply LeO.refl)
   | (with_reducible apply LeO.none)
   | (with_reducible refine LeO.ite ?_ ?_)
   | (with_reducible refine LeO.bind ?_ (fun _ => ?_))
  ·intro y0 y1 y2 y3 y4 y5 y6
   unfold cellarlaw9_pointers.l0
   repeat' first
   | (with_reducible apply ih0)
   | (with_reducible apply ih1)
   | (with_reducible apply LeO.refl)
   | (with_reducible apply LeO.none)
   | (with_reducible refine LeO.ite ?_ ?_)
   | (with_reducible refine LeO.bind ?_ (fun _ => ?_))
theorem cellarlaw9_pointers.mono : ∀ a0 a1 a2 a3 a4 k, LeO (cellarlaw9_pointers.f k a0 a1 a2 a3 a4) (cellarlaw9_pointers.f (k + 1) a0 a1 a2 a3 a4) := by
 intro a0 a1 a2 a3 a4 k
 obtain ⟨ih0, ih1⟩ := cellarlaw9_pointers.mono_l k
 unfold cellarlaw9_pointers.f
 repeat' first
   | (with_reducible apply ih0)
   | (with_reducible apply ih1)
   | (with_reducible apply LeO.refl)
   | (with_reducible apply LeO.none)
   | (with_reducible refine LeO.ite ?_ ?_)
   | (with_reducible refine LeO.bind ?_ (fun _ => ?_))
def cellarlaw9_pointers.T7 : Bool × List (List Nat × List Nat) := (true, [([], []), ([], []), ([1], [1]), ([], []), ([], []), ([], []), ([4, 5], [4, 5]), ([6], [6]), ([7], [7]), ([8], [8]), ([9], [9]), ([3, 10], [3, 10]), ([], []), ([], []), ([13], [13]), ([], []), ([15], [15]), ([16], [16]), ([14, 17], [14, 17]), ([18], [18]), ([12, 19], [12, 19]), ([2, 11, 20], [2, 11, 20]), ([0, 21], [0, 21]), ([22, 22, 0, 1, 2, 3, 4, 5, 6, 7, 8, 9, 10, 11, 12, 13, 14, 15, 16, 17, 18, 19, 20, 21, 22], [0, 22])])
def cellarlaw9_pointers.B7 : List Nat := [0, 0, 2, 0, 0, 0, 48, 112, 240, 496, 1008, 2040, 0, 0, 8192, 0, 32768, 98304, 253952, 516096, 1044480, 2097150, 4194303, 8388607]
theorem cellarlaw9_pointers.tab7 : rtab .any (opsOf Try.f29 7) = cellarlaw9_pointers.T7 := by kernel_rfl
theorem cellarlaw9_pointers.bits7 : waitsOk cellarlaw9_pointers.T7.2 cellarlaw9_pointers.B7 = true := by kernel_rfl
set_option maxHeartbeats 8000000 in
set_option maxRecDepth 100000 in
theorem cellarlaw9_pointers.calls (k : Nat) (A0_0 : Option Addr) (c0_0 : Nat) (l0_0 : List (List (S76))) (A0_1 : Option Addr) (c0_1 : Nat) (l0_1 : List (S62)) (A0_2 : Option Addr) (c0_2 : Nat) (l0_2 : List Int) (A0_3 : Option Addr) (c0_3 : Nat) (l0_3 : List (S29)) (A1 : Option Addr) (c1 : Nat) (l1 : List (S76)) (r : List (S62)) (w : World) (hr0_0 : Kd.C (Kd.slice 76 k76) w A0_0 l0_0.length l0_0) (hc0_0 : l0_0.length ≤ c0_0) (hr0_1 : Kd.C k62 w A0_1 l0_1.length l0_1) (hc0_1 : l0_1.length ≤ c0_1) (hr0_2 : Kd.C (Kd.int .i64) w A0_2 l0_2.length l0_2) (hc0_2 : l0_2.length ≤ c0_2) (hr0_3 : Kd.C k29 w A0_3 l0_3.length l0_3) (hc0_3 : l0_3.length ≤ c0_3) (hr1 : Kd.C k76 w A1 l1.length l1) (hc1 : l1.length ≤ c1) (h : cellarlaw9_pointers.f k l0_0 l0_1 l0_2 l0_3 l1 = some r) :
  Calls Try.prog 29 #[.agg #[.slice A0_0 l0_0.length c0_0, .slice A0_1 l0_1.length c0_1, .slice A0_2 l0_2.length c0_2, .slice A0_3 l0_3.length c0_3], .slice A1 l1.length c1] w fun e w' => ∃ v0_ : Value, e = .returned (v0_) ∧ Kd.R k62 62 w' w.heap.size (fun _ => True) v0_ r ∧ Below w.heap.size w w' := by
 have hu54 := Try.underlying54
 have hu62 := Try.underlying62
 have HR0_0 := Aside0.mk hr0_0
 have HC0_0 := Aside0.mk hc0_0
 clear hr0_0 hc0_0
 have HR0_1 := Aside0.mk hr0_1
 have HC0_1 := Aside0.mk hc0_1
 clear hr0_1 hc0_1
 have HR0_2 := Aside0.mk hr0_2
 have HC0_2 := Aside0.mk hc0_2
 clear hr0_2 hc0_2
 have HR0_3 := Aside0.mk hr0_3
 have HC0_3 := Aside0.mk hc0_3
 clear hr0_3 hc0_3
 have HR1 := Aside0.mk hr1
 have HC1 := Aside0.mk hc1
 clear hr1 hc1
 have HB := Aside0.mk (Below.refl w.heap.size w)
 have H : ((some (([(⟨true, 0, 0, 0⟩ : S62), (⟨true, 0, 50, 0⟩ : S62)] : List (S62)) : List (S62))).bind fun y151 => (if y151.length + l0_1.length < 4398046511104 then ((some (y151 ++ l0_1 : List (S62))).bind fun y154 => (if (y154.length : Int) > 7 then (if 7 ≤ (y154.length : Int) then (cellarlaw9_pointers.j0 k l1 (y154.take (7 : Int).toNat) l0_0 l0_1 l0_2 l0_3) else (none)) else (cellarlaw9_pointers.j0 k l1 y154 l0_0 l0_1 l0_2 l0_3))) else (none))) = some r := h
 clear h
 obtain ⟨y151, hy151⟩ : ∃ y_ : List (S62), y_ = (([(⟨true, 0, 0, 0⟩ : S62), (⟨true, 0, 50, 0⟩ : S62)] : List (S62))) := ⟨_, rfl⟩
 replace H : (if y151.length + l0_1.length < 4398046511104 then ((some (y151 ++ l0_1 : List (S62))).bind fun y154 => (if (y154.length : Int) > 7 then (if 7 ≤ (y154.length : Int) then (cellarlaw9_pointers.j0 k l1 (y154.take (7 : Int).toNat) l0_0 l0_1 l0_2 l0_3) else (none)) else (cellarlaw9_pointers.j0 k l1 y154 l0_0 l0_1 l0_2 l0_3))) else (none)) = some r := by first | (rw [hy151]; with_reducible exact H) | (have H2_ := (Option.bind_some _ _).symm.trans H; rw [hy151]; with_reducible exact H2_) | (have H2_ := (Option.bind_some _ _).symm.trans H; with_reducible exact H2_) | with_reducible exact H | (rw [hy151]; exact H) | exact H
 have Ny151 := Aside0.mk hy151
 clear hy151
 by_cases c3 : y151.length + l0_1.length < 4398046511104
 ·rw [if_pos c3] at H
  have LMc3 := Aside0.mk c3
  clear c3
  obtain ⟨y154, hy154⟩ : ∃ y_ : List (S62), y_ = (y151 ++ l0_1) := ⟨_, rfl⟩
  replace H : (if (y154.length : Int) > 7 then (if 7 ≤ (y154.length : Int) then (cellarlaw9_pointers.j0 k l1 (y154.take (7 : Int).toNat) l0_0 l0_1 l0_2 l0_3) else (none)) else (cellarlaw9_pointers.j0 k l1 y154 l0_0 l0_1 l0_2 l0_3)) = some r := by first | (rw [hy154]; with_reducible exact H) | (have H2_ := (Option.bind_some _ _).symm.trans H; rw [hy154]; with_reducible exact H2_) | (have H2_ := (Option.bind_some _ _).symm.trans H; with_reducible exact H2_) | with_reducible exact H | (rw [hy154]; exact H) | exact H
  have Ny154 := Aside0.mk hy154
  clear hy154
  have HC4 := Aside0.mk H
  clear H
  go_enter Try.func29, Try.ntmps29
  go_upto_if 15 with (first | ((with_reducible refine gate_dst (N := 2) rfl ?_); refine zbox (N := 2) (cs := #[.slice A0_0 l0_0.length c0_0, .slice A0_1 l0_1.length c0_1, .slice A0_2 l0_2.length c0_2, .slice A0_3 l0_3.length c0_3]) (t := 54) ?_; intro gb150 hg w5 hbox hb; have n0_ := Aside0.mk (below_step (zw0 HB.out) hb); have BK150 := Aside0.mk (hbox); have GW150 := Aside0.mk (zg hg (below_size (zw0 HB.out))); have GE150 := GW150; clear HB; have HB := n0_; clear n0_; clear hb hbox hg) | ((with_reducible refine gate_dst (N := 9) rfl ?_); refine Kd.R_lit k62 _ 62 ?hg (N := 9) ?hd (xs := ([(⟨true, 0, 0, 0⟩ : S62), (⟨true, 0, 50, 0⟩ : S62)] : List (S62))) (inner := [.bool true, .int .i64 0, .int .i64 0, .int .i64 0, .bool true, .int .i64 0, .int .i64 50, .int .i64 0]) (ok := fun _ => True) (okp := fun _ => True) ?hr ?hp (fun _ hk => hk) trivial (Below.refl _ _) (Nat.le_refl _) (by simp) ?_; (case hd => rfl); (case hg => rfl); (case hr => first | (go_simp; done) | (go_simp; rfl)); (case hp => exact (Reps.c4 (show Kd.M k62 _ _ _ (⟨true, 0, 0, 0⟩ : S62) [.bool true, .int .i64 0, .int .i64 0, .int .i64 0] from (k62_mkM _ _ _ (⟨true, 0, 0, 0⟩ : S62) )) (Reps.c4 (show Kd.M k62 _ _ _ (⟨true, 0, 50, 0⟩ : S62) [.bool true, .int .i64 0, .int .i64 50, .int .i64 0] from (k62_mkM _ _ _ (⟨true, 0, 50, 0⟩ : S62) )) (Reps.none _ _)))); intro v152 w6 ho7 hb hg_ hnew_; clear hg_ hnew_; (first | rw [← Ny151.out] at ho7 | (simp only [Int.reduceToNat] at ho7; rw [← Ny151.out] at ho7)); have HO153 := Aside0.mk (Kd.R_lower ho7 (below_size (zw1 HB.out GE150.out))); have n1_ := Aside0.mk (zbb BK150.out hb); have n2_ := Aside0.mk (below_step (zw1 HB.out GE150.out) hb); clear BK150 HB; have BK150 := n1_; have HB := n2_; clear n1_ n2_; clear hb ho7; have hcz8_0 := zc BK150.out 0; have hcz8_1 := zc BK150.out 1; have hcz8_2 := zc BK150.out 2; have hcz8_3 := zc BK150.out 3; have hfz8_0 := blk_frozen BK150.out 0; have hfz8_1 := blk_frozen BK150.out 1; have hfz8_2 := blk_frozen BK150.out 2; have hfz8_3 := blk_frozen BK150.out 3) | ((with_reducible refine gate_builtin (b := .append) (xs := #[.tmp 9, .tmp 11]) rfl ?_); at_builtin; refine Kd.R_append_rows k62 (w0 := w) w.heap.size rfl (.tmp 9) (.tmp 11) 52 62 (.agg #[(.bool false), (.int .i64 0), (.int .i64 0), (.int .i64 0)]) 32 rfl Try.underlying52 info62 rfl (by decide) (by omega) v152 y151 l0_1 _ _ _ (fun _ => True) (fun _ => False) rfl rfl ?aO ?aR (fun _ _ h => h) (fun _ h => h.elim) ?aF ?aB ?aS ?aL ?_; (case aR => repeat (first | exact (Kd.C_below HR0_1.out HB.out) | (with_reducible refine Kd.C_alloc ?_ _) | (with_reducible refine Kd.C_drewN ?_ _) | (with_reducible refine Kd.C_drew ?_))); (case aB => exact (zw1 HB.out GE150.out)); (case aF => exact (fun _ _ => trivial)); (case aO => exact (by (with_reducible repeat (first | apply Kd.R_alloc | apply Kd.R_drewN | apply Kd.R_drew)); exact HO153.out)); (case aS => exact (below_size (zw1 HB.out GE150.out))); (case aL => have := LMc3.out; omega); intro v155 w9 ho hb hg hat; rw [← Ny154.out] at ho; have n0_ := Aside0.mk (blk_grown (g := gb150) (o := .cells #[.slice A0_0 l0_0.length c0_0, .slice A0_1 l0_1.length c0_1, .slice A0_2 l0_2.length c0_2, .slice A0_3 l0_3.length c0_3] 54 (0, 0)) (zb BK150.out) hg (Kd.R_ne HO153.out BK150.out (by decide))); have n1_ := Aside0.mk (hb); have HO156 := Aside0.mk (ho); clear BK150 HB HO153; have BK150 := n0_; have HB := n1_; clear n0_ n1_; clear ho hb hg hat; obtain ⟨Ao10, co10, eo10⟩ := Kd.R_slice HO156.out; subst eo10))
  (try simp only [Act.put, List.setIfInBounds_toArray, List.set_cons_zero, List.set_cons_succ])
  go_cut [5] (fun v5 wc => ∃ (kq : Nat) (x5_3 : List (S62)), Aside0 (cellarlaw9_pointers.j0 kq l1 x5_3 l0_0 l0_1 l0_2 l0_3 = some r) ∧ Aside0 (kq ≤ k) ∧ Aside0 (Kd.R k62 62 wc w.heap.size (fun _ => True) v5 x5_3) ∧ Aside0 (wc.heap[gb150]? = some (.cells #[(.slice A0_0 l0_0.length c0_0), (.slice A0_1 l0_1.length c0_1), (.slice A0_2 l0_2.length c0_2), (.slice A0_3 l0_3.length c0_3)] 54 (0, 0))) ∧ Aside0 (Below w.heap.size w wc))
  case first =>
   have H := HC4.out
   clear HC4
   by_cases c11 : (y154.length : Int) > 7
   rotate_left
   ·rw [if_neg c11] at H
    have c11b0 : decide (7 < (y154.length : Int)) = false := decide_eq_false c11
    have c11b1 : decide (7 < y154.length) = false := decide_eq_false (by omega)
    clear c11
    (first | rw [c11b0] | (simp only [i64_w, i32_w]; rw [c11b0]) | skip)
    have H' := Aside0.mk H
    clear H
    go_wp2
    go_meet
    case rel => exact ⟨_, (y154), H', ⟨by first | omega | exact Nat.le_refl _⟩, ⟨by (with_reducible repeat (first | apply Kd.R_alloc | apply Kd.R_drewN | apply Kd.R_drew)); exact HO156.out⟩, ⟨zb BK150.out⟩, ⟨zw1 HB.out GE150.out⟩⟩
   rw [if_pos c11] at H
   have c11b0 : decide (7 < (y154.length : Int)) = true := decide_eq_true c11
   have c11b1 : decide (7 < y154.length) = true := decide_eq_true (by omega)
   clear c11
   (first | rw [c11b0] | (simp only [i64_w, i32_w]; rw [c11b0]) | skip)
   by_cases c12 : 7 ≤ (y154.length : Int)
   rotate_left
   ·rw [if_neg c12] at H
    exact absurd H (by simp)
   rw [if_pos c12] at H
   have c12b0 := eq_true c12
   have c12b1 : decide (7 ≤ (y154.length : Int)) = true := decide_eq_true c12
   clear c12
   obtain ⟨y157, hy157⟩ : ∃ y_ : List (S62), y_ = (y154.take (7 : Int).toNat) := ⟨_, rfl⟩
   replace H : (cellarlaw9_pointers.j0 k l1 y157 l0_0 l0_1 l0_2 l0_3) = some r := by first | (rw [hy157]; with_reducible exact H) | (have H2_ := (Option.bind_some _ _).symm.trans H; rw [hy157]; with_reducible exact H2_) | (have H2_ := (Option.bind_some _ _).symm.trans H; with_reducible exact H2_) | with_reducible exact H | (rw [hy157]; exact H) | exact H
   have Ny157 := Aside0.mk hy157
   clear hy157
   have H' := Aside0.mk H
   clear H
   have q13 : (7 : Int) ≤ ((y154.length : Int) : Int) := zdec
   obtain ⟨i013, hi013, _, hsz13, _⟩ := info_parts info62
   have hcut13 := cut_to (P := Try.prog) 52 62 .i64 Try.underlying52 hi013 Ao10 y154.length co10 7 (by omega) q13 (Kd.R_reads' HO156.out).2.1
   have hr13 := Kd.R_take (m := (7 : Int).toNat) HO156.out (by omega)
   have hy13 : y157.length = (7 : Int).toNat := (by rw [Ny157.out, List.length_take]; omega)
   rw [← Ny157.out] at hr13
   rw [← hy13] at hr13 hcut13
   clear hy13 hi013 hsz13 HO156
   have HO159 := Aside0.mk hr13
   clear hr13
   replace q13 := eq_true q13
   go_wp2
   go_meet
   case rel => exact ⟨_, (y157), H', ⟨by first | omega | exact Nat.le_refl _⟩, ⟨by (with_reducible repeat (first | apply Kd.R_alloc | apply Kd.R_drewN | apply Kd.R_drew)); exact HO159.out⟩, ⟨zb BK150.out⟩, ⟨zw1 HB.out GE150.out⟩⟩
  case rest =>
   clear HC4
   try clear c1; try clear q1; try clear c2; try clear p2; try clear c3; try clear c4; try clear c11; try clear c11b0; try clear c11b1; try clear c12; try clear c12b0; try clear c12b1; try clear q13; try clear q13
   obtain ⟨kq, x5_3, HA, HJ3, HO_5, BK150, HB⟩ := hcut
   cases kq with
   | zero => exact absurd HA.out (by simp [cellarlaw9_pointers.j0])
   | succ kj3 =>
    have H := HA.out
    clear HA
    simp only [cellarlaw9_pointers.j0] at H
    have H' := Aside0.mk H
    clear H
    go_wp2
    go_loopg [5, 6] kj3 (fun kq v5 v6 w' => ∃ (x5_2 : List (S62)) (x6_2 : Int), v6 = .int .i64 x6_2 ∧ Aside0 (cellarlaw9_pointers.l0 kq l1 x5_2 x6_2 l0_0 l0_1 l0_2 l0_3 = some r) ∧ Aside0 (kq ≤ kj3) ∧ Aside0 (Kd.R k62 62 w' w.heap.size (fun _ => True) v5 x5_2) ∧ Aside0 (w'.heap[gb150]? = some (.cells #[(.slice A0_0 l0_0.length c0_0), (.slice A0_1 l0_1.length c0_1), (.slice A0_2 l0_2.length c0_2), (.slice A0_3 l0_3.length c0_3)] 54 (0, 0))) ∧ Aside0 (Below w.heap.size w w'))
    case atStart => exact ⟨(x5_3), (1), (zr), H', ⟨Nat.le_refl _⟩, ⟨by (with_reducible repeat (first | apply Kd.R_alloc | apply Kd.R_drewN | apply Kd.R_drew)); exact HO_5.out⟩, ⟨zb BK150.out⟩, ⟨zw1 HB.out GE150.out⟩⟩
    case round =>
     clear H'
     try clear c1; try clear q1; try clear c2; try clear p2; try clear c3; try clear c4; try clear c11; try clear c11b0; try clear c11b1; try clear c12; try clear c12b0; try clear c12b1; try clear q13; try clear p2; try clear q1; try clear q13
     obtain ⟨x5_2, x6_2, rfl, HA, HK2, HO_5, BK150, HB⟩ := hrel
     cases gk with
     | zero => exact absurd HA.out (by simp [cellarlaw9_pointers.l0])
     | succ k2 =>
      have H := HA.out
      clear HA
      simp only [cellarlaw9_pointers.l0] at H
      by_cases c14 : x6_2 < (l1.length : Int)
      rotate_left
      ·rw [if_neg c14] at H
       have c14b0 : decide (x6_2 < (l1.length : Int)) = false := decide_eq_false c14
       clear c14
       obtain rfl := Option.some.inj H
       go_wp2
       go_ret
       exact ⟨_, ze, by (with_reducible repeat (first | apply Kd.R_alloc | apply Kd.R_drewN | apply Kd.R_drew)); exact HO_5.out, zw1 HB.out GE150.out⟩
      rw [if_pos c14] at H
      have c14b0 : decide (x6_2 < (l1.length : Int)) = true := decide_eq_true c14
      clear c14
      by_cases c15 : x6_2 < 7
      rotate_left
      ·rw [if_neg c15] at H
       have c15b0 : decide (x6_2 < 7) = false := decide_eq_false c15
       clear c15
       obtain rfl := Option.some.inj H
       go_wp2
       go_ret
       exact ⟨_, ze, by (with_reducible repeat (first | apply Kd.R_alloc | apply Kd.R_drewN | apply Kd.R_drew)); exact HO_5.out, zw1 HB.out GE150.out⟩
      rw [if_pos c15] at H
      have c15b0 : decide (x6_2 < 7) = true := decide_eq_true c15
      clear c15
      by_cases c16 : 0 ≤ x6_2
      rotate_left
      ·rw [if_neg c16] at H
       exact absurd H (by simp)
      rw [if_pos c16] at H
      have c16b0 : decide (0 ≤ x6_2) = true := decide_eq_true c16
      clear c16
      obtain ⟨ji17, hji17⟩ : ∃ j_ : Int, (mn (((rd_T76 l1 x6_2).f1).length : Int) 32) = j_ := ⟨_, rfl⟩
      replace H : ((some (([(⟨true, 0, x6_2, 0⟩ : S62), (⟨true, 0, x6_2, ji17⟩ : S62), (⟨true, 0, x6_2, Int.tmod (wrap64 ((wrap64 (x6_2 * 3)) + (l0_2.length : Int))) 9⟩ : S62)] : List (S62)) : List (S62))).bind fun y161 => (if x5_2.length + y161.length < 4398046511104 then (cellarlaw9_pointers.l0 k2 l1 (x5_2 ++ y161) (wrap64 (x6_2 + 1)) l0_0 l0_1 l0_2 l0_3) else (none))) = some r := by first | (rw [hji17] at H; exact H) | (simp only [hji17] at H ⊢; exact H)
      have hji17_ : (if 32 < (((rd_T76 l1 x6_2).f1).length : Int) then 32 else (((rd_T76 l1 x6_2).f1).length : Int)) = ji17 := hji17
      obtain ⟨y161, hy161⟩ : ∃ y_ : List (S62), y_ = (([(⟨true, 0, x6_2, 0⟩ : S62), (⟨true, 0, x6_2, ji17⟩ : S62), (⟨true, 0, x6_2, Int.tmod (wrap64 ((wrap64 (x6_2 * 3)) + (l0_2.length : Int))) 9⟩ : S62)] : List (S62))) := ⟨_, rfl⟩
      replace H : (if x5_2.length + y161.length < 4398046511104 then (cellarlaw9_pointers.l0 k2 l1 (x5_2 ++ y161) (wrap64 (x6_2 + 1)) l0_0 l0_1 l0_2 l0_3) else (none)) = some r := by first | (rw [hy161]; with_reducible exact H) | (have H2_ := (Option.bind_some _ _).symm.trans H; rw [hy161]; with_reducible exact H2_) | (have H2_ := (Option.bind_some _ _).symm.trans H; with_reducible exact H2_) | with_reducible exact H | (rw [hy161]; exact H) | exact H
      have Ny161 := Aside0.mk hy161
      clear hy161
      by_cases c18 : x5_2.length + y161.length < 4398046511104
      rotate_left
      ·rw [if_neg c18] at H
       exact absurd H (by simp)
      rw [if_pos c18] at H
      have LMc18 := Aside0.mk c18
      clear c18
      obtain ⟨y164, hy164⟩ : ∃ y_ : List (S62), y_ = (x5_2 ++ y161) := ⟨_, rfl⟩
      replace H : (cellarlaw9_pointers.l0 k2 l1 y164 (wrap64 (x6_2 + 1)) l0_0 l0_1 l0_2 l0_3) = some r := by first | (rw [hy164]; with_reducible exact H) | (have H2_ := (Option.bind_some _ _).symm.trans H; rw [hy164]; with_reducible exact H2_) | (have H2_ := (Option.bind_some _ _).symm.trans H; with_reducible exact H2_) | with_reducible exact H | (rw [hy164]; exact H) | exact H
      have Ny164 := Aside0.mk hy164
      clear hy164
      have H' := Aside0.mk H
      clear H
      try go_wp2
      have n0_ := Aside0.mk (Kd.R_drew HO_5.out)
      have n1_ := Aside0.mk (blk_drew BK150.out)
      have n2_ := Aside0.mk (below_drew1 HB.out)
      clear HO_5
      clear BK150
      clear HB
      have HO_5 := n0_
      have BK150 := n1_
      have HB := n2_
      clear n0_ n1_ n2_
      have p160 : 0 ≤ (x6_2 : Int) := zdec
      have q160 : x6_2 < (l1.length : Int) := zdec
      obtain ⟨ad160, A160_1, c160_1, e160, hx160_0, hx160_1, hl160_1, hi160_1⟩ := at_T76 HR1.out x6_2 p160 q160
      have hw160_1 := hx160_1
      have hw160_0 := hx160_0
      cases e160
      replace hx160_0 := zh HB.out hx160_0
      replace hx160_1 := zh HB.out hx160_1
      have HR160_1 := Aside0.mk hi160_1
      have HC160_1 := Aside0.mk hl160_1
      clear hi160_1 hl160_1
      replace p160 := eq_true p160
      replace q160 := eq_true q160
      refine start_ (n := 24) (S := fun w' => w'.cell? ⟨gb150, 0, none⟩ = some (.slice A0_0 l0_0.length c0_0) ∧ w'.cell? ⟨gb150, 1, none⟩ = some (.slice A0_1 l0_1.length c0_1) ∧ w'.cell? ⟨gb150, 2, none⟩ = some (.slice A0_2 l0_2.length c0_2) ∧ w'.cell? ⟨gb150, 3, none⟩ = some (.slice A0_3 l0_3.length c0_3) ∧ w'.cell? (ad160.add ((x6_2).toNat * 2)) = some (.int .i64 ((rd_T76 l1 x6_2).f0)) ∧ w'.cell? ⟨(ad160.add ((x6_2).toNat * 2)).block, (ad160.add ((x6_2).toNat * 2)).off + 1, none⟩ = some (.slice A160_1 ((rd_T76 l1 x6_2).f1).length c160_1)) (ds := []) #[false,false,false,false,false,false,false,false,false,false,false,false,false,false,false,false,false,false,false,false,false,false,false,false] (by kernel_rfl) rfl rfl ⟨(blk_cell BK150.out 0).trans rfl, (blk_cell BK150.out 1).trans rfl, (blk_cell BK150.out 2).trans rfl, (blk_cell BK150.out 3).trans rfl, ((HB.out.cell (World.block_lt_of_cell? w _ hw160_0)).trans hw160_0), ((HB.out.cell (World.block_lt_of_cell? w _ hw160_1)).trans hw160_1)⟩ (fun hHeld => ?_); refine with_tabW cellarlaw9_pointers.tab7 cellarlaw9_pointers.bits7 (fun HT_ HW_ => ?_)
      generalize wr.drew = w19 at HO_5 BK150 HB HR160_1 hx160_0 hx160_1 hHeld ⊢
      refine zq 0 (some 28) HT_ ?_; refine zq 1 (some 29) HT_ ?_; refine zq 2 (some 30) HT_ ?_; refine zq 3 (some 31) HT_ ?_; refine zq 4 (some 32) HT_ ?_; refine zq 5 (some 33) HT_ ?_; refine zq 6 (some 34) HT_ ?_; refine zq 7 (some 35) HT_ ?_; refine zq 12 (some 40) HT_ ?_; refine zq 13 (some 41) HT_ ?_; refine zq 14 (some 42) HT_ ?_; refine zq 15 (some 43) HT_ ?_; refine zt 8 (some 36) HT_ HW_ hHeld ?_; refine zq 9 (some 37) HT_ ?_; refine zq 10 (some 38) HT_ ?_; refine zq 11 (some 39) HT_ ?_; refine zt 16 (some 44) HT_ HW_ hHeld ?_; refine zq 17 (some 45) HT_ ?_; refine zq 18 (some 46) HT_ ?_; refine zq 19 (some 47) HT_ ?_; refine zq 20 (some 48) HT_ ?_
      refine one_ (i := 21) (N := some 49) #[true,true,true,true,true,true,true,true,true,true,true,true,true,true,true,true,true,true,true,true,true,true,false,false] rfl rfl (one_of HT_.out (by kernel_rfl)) (by decide) (fun K hK => ?_)
      refine Kd.R_lit_step k62 _ 62 ?hg (N := 49) ?hd (xs := ([(⟨true, 0, x6_2, 0⟩ : S62), (⟨true, 0, x6_2, ji17⟩ : S62), (⟨true, 0, x6_2, Int.tmod (wrap64 ((wrap64 (x6_2 * 3)) + (l0_2.length : Int))) 9⟩ : S62)] : List (S62))) (inner := [.bool true, .int .i64 0, .int .i64 x6_2, .int .i64 0, .bool true, .int .i64 0, .int .i64 x6_2, .int .i64 ji17, .bool true, .int .i64 0, .int .i64 x6_2, .int .i64 (Int.tmod (wrap64 ((wrap64 (x6_2 * 3)) + (l0_2.length : Int))) 9)]) (ok := fun _ => True) (okp := fun _ => True) ?hr ?hp (fun _ hk => hk) trivial (Below.refl _ _) (Nat.le_refl _) (by simp) ?_; (case hd => rfl); (case hg => rfl); (case hr => first | (go_simp; done) | (go_simp; rfl)); (case hp => exact (Reps.c4 (show Kd.M k62 _ _ _ (⟨true, 0, x6_2, 0⟩ : S62) [.bool true, .int .i64 0, .int .i64 x6_2, .int .i64 0] from (k62_mkM _ _ _ (⟨true, 0, x6_2, 0⟩ : S62) )) (Reps.c4 (show Kd.M k62 _ _ _ (⟨true, 0, x6_2, ji17⟩ : S62) [.bool true, .int .i64 0, .int .i64 x6_2, .int .i64 ji17] from (k62_mkM _ _ _ (⟨true, 0, x6_2, ji17⟩ : S62) )) (Reps.c4 (show Kd.M k62 _ _ _ (⟨true, 0, x6_2, Int.tmod (wrap64 ((wrap64 (x6_2 * 3)) + (l0_2.length : Int))) 9⟩ : S62) [.bool true, .int .i64 0, .int .i64 x6_2, .int .i64 (Int.tmod (wrap64 ((wrap64 (x6_2 * 3)) + (l0_2.length : Int))) 9)] from (k62_mkM _ _ _ (⟨true, 0, x6_2, Int.tmod (wrap64 ((wrap64 (x6_2 * 3)) + (l0_2.length : Int))) 9⟩ : S62) )) (Reps.none _ _)))))
      intro v162 w20 ho21 hb hg_ hnew_
      clear hg_ hnew_
      (first | rw [← Ny161.out] at ho21 | (simp only [Int.reduceToNat] at ho21; rw [← Ny161.out] at ho21))
      have n0_ := Aside0.mk (Kd.R_elder' (by (with_reducible repeat (first | apply Kd.R_alloc | apply Kd.R_drewN | apply Kd.R_drew)); exact HO_5.out) (Kd.R_base ho21) hb)
      have n1_ := Aside0.mk (Kd.R_lower (Kd.R_new' ho21 (Kd.R_lt (by (with_reducible repeat (first | apply Kd.R_alloc | apply Kd.R_drewN | apply Kd.R_drew)); exact HO_5.out))) (below_size (zw1 HB.out GE150.out)))
      have n2_ := Aside0.mk (zbb BK150.out hb)
      have n3_ := Aside0.mk (below_step (zw1 HB.out GE150.out) hb)
      clear HO_5
      clear BK150
      clear HB
      have HO_5 := n0_
      have HO163 := n1_
      have BK150 := n2_
      have HB := n3_
      clear n0_ n1_ n2_ n3_
      clear hb ho21
      obtain ⟨Ao23, co23, eo23⟩ := Kd.R_slice HO163.out
      (first | subst eo23 | (injection eo23 with f1_ f2_ f3_; have f4_ := f1_.symm; have f5_ := f3_.symm; clear f1_ f2_ f3_; subst f4_; subst f5_))
      refine hK.out _ _ ⟨(blk_cell BK150.out 0).trans rfl, (blk_cell BK150.out 1).trans rfl, (blk_cell BK150.out 2).trans rfl, (blk_cell BK150.out 3).trans rfl, ((HB.out.cell (World.block_lt_of_cell? w _ hw160_0)).trans hw160_0), ((HB.out.cell (World.block_lt_of_cell? w _ hw160_1)).trans hw160_1)⟩ (fun hHeld => ?_)
      clear hK K
      refine norm_ (a' := ?_) ?_ ?_
      rotate_left
      ·show Act.put _ (some 49) _ = _
       simp only [Act.put, List.setIfInBounds_toArray, List.set_cons_zero, List.set_cons_succ, i64_w, i32_w]
       rfl
      refine one_ (i := 22) (N := some 50) #[true,true,true,true,true,true,true,true,true,true,true,true,true,true,true,true,true,true,true,true,true,true,true,false] rfl rfl (one_of HT_.out (by kernel_rfl)) (by decide) (fun K hK => ?_)
      refine Kd.R_append_rows_step k62 (w0 := w) w.heap.size (by rfl) (.tmp 28) (.tmp 49) 52 62 (.agg #[(.bool false), (.int .i64 0), (.int .i64 0), (.int .i64 0)]) 32 rfl Try.underlying52 info62 rfl (by decide) (by omega) u5 x5_2 y161 _ _ _ (fun k_ => some k_ ≠ (.slice Ao23 y161.length co23 : Value).ownBlock) (fun _ => False) rfl rfl ?aO ?aR (fun _ _ h => h) (fun _ h => h.elim) ?aF ?aB ?aS ?aL ?_
      (case aR => repeat (first | exact (Kd.R_reads' HO163.out).2.2 | (with_reducible refine Kd.C_alloc ?_ _) | (with_reducible refine Kd.C_drewN ?_ _) | (with_reducible refine Kd.C_drew ?_)))
      (case aB => exact (zw1 HB.out GE150.out))
      (case aF => exact (fun k_ hk => Kd.fresh' (Kd.R_lt (by (with_reducible repeat (first | apply Kd.R_alloc | apply Kd.R_drewN | apply Kd.R_drew)); exact HO163.out)) k_ hk))
      (case aO => exact (by (with_reducible repeat (first | apply Kd.R_alloc | apply Kd.R_drewN | apply Kd.R_drew)); exact Kd.R_mono HO_5.out (fun _ hk => hk.2)))
      (case aS => exact (below_size (zw1 HB.out GE150.out)))
      (case aL => have := LMc18.out; omega)
      intro v165 w22 ho hb hg hat
      rw [← Ny164.out] at ho
      have n0_ := Aside0.mk (blk_grown (g := gb150) (o := .cells #[.slice A0_0 l0_0.length c0_0, .slice A0_1 l0_1.length c0_1, .slice A0_2 l0_2.length c0_2, .slice A0_3 l0_3.length c0_3] 54 (0, 0)) (zb BK150.out) hg (Kd.R_ne HO_5.out BK150.out (by decide)))
      have n1_ := Aside0.mk (Kd.R_after (ok := (fun _ => True)) (by (with_reducible repeat (first | apply Kd.R_alloc | apply Kd.R_drewN | apply Kd.R_drew)); exact HO163.out) hg hat)
      have n2_ := Aside0.mk (hb)
      have n3_ := Aside0.mk (ho)
      clear BK150
      clear HO163
      clear HB
      clear HO_5
      have BK150 := n0_
      have HO163 := n1_
      have HB := n2_
      have HO166 := n3_
      clear n0_ n1_ n2_ n3_
      clear ho hb hg hat
      refine hK.out _ _ ⟨(blk_cell BK150.out 0).trans rfl, (blk_cell BK150.out 1).trans rfl, (blk_cell BK150.out 2).trans rfl, (blk_cell BK150.out 3).trans rfl, ((HB.out.cell (World.block_lt_of_cell? w _ hw160_0)).trans hw160_0), ((HB.out.cell (World.block_lt_of_cell? w _ hw160_1)).trans hw160_1)⟩ (fun hHeld => ?_)
      clear hK K
      refine norm_ (a' := ?_) ?_ ?_
      rotate_left
      ·show Act.put _ (some 50) _ = _
       simp only [Act.put, List.setIfInBounds_toArray, List.set_cons_zero, List.set_cons_succ, i64_w, i32_w]
       rfl
      refine zq 23 (some 5) HT_ ?_
      refine done_ (done_of HT_.out (by kernel_rfl)) ?_
      try go_wp2
      go_roundg k2
      case measure => have := HJ3.out; have := HK2.out; omega
      case rel => exact ⟨(y164), (wrap64 (x6_2 + 1)), (zr), H', ⟨by have := HJ3.out; have := HK2.out; omega⟩, ⟨by (with_reducible repeat (first | apply Kd.R_alloc | apply Kd.R_drewN | apply Kd.R_drew)); exact Kd.R_mono HO166.out (fun _ hk => trivial)⟩, ⟨zb BK150.out⟩, ⟨zw1 HB.out GE150.out⟩⟩
 ·rw [if_neg c3] at H
  exact absurd H (by simp)

/-! bytes_up -/
def bytes_up.f (a0 : Int) (a1 : Int) : Option (Bool) := if a0 ≥ 0 then (some (decide (a0 ≤ a1))) else (some false)
set_option maxHeartbeats 8000000 in
set_option maxRecDepth 100000 in
theorem bytes_up.calls (a0 : Int) (a1 : Int) (r : Bool) (w : World) (h : bytes_up.f a0 a1 = some r) :
  Calls Try.prog 100 #[.int .i64 a0, .int .i64 a1] w fun e w' => e = .returned (.bool r) ∧ Drawn0 w w' := by
 have H : (if a0 ≥ 0 then (some (decide (a0 ≤ a1))) else (some false)) = some r := h
 clear h
 by_cases c3 : a0 ≥ 0
 ·rw [if_pos c3] at H
  have c3b0 : decide (0 ≤ a0) = true := decide_eq_true c3
  clear c3
  obtain rfl := Option.some.inj H
  go_enter Try.func100, Try.ntmps100
  go_wp2
  go_ret
  exact ⟨zr, by repeat (first | exact Drawn0.refl _ | apply Drawn0.step)⟩
 ·rw [if_neg c3] at H
  have c3b0 : decide (0 ≤ a0) = false := decide_eq_false c3
  clear c3
  obtain rfl := Option.some.inj H
  go_enter Try.func100, Try.ntmps100
  go_wp2
  go_ret
  exact ⟨zr, by repeat (first | exact Drawn0.refl _ | apply Drawn0.step)⟩

/-! bytes_Is -/
def bytes_Is.f (a0_0 : Int) (a0_1 : Int) (a0_2 : Int) (a0_3 : Int) (a0_4 : Int) : Option (Bool) := if a0_0 = 0 then (some (a0_0 == 0 && (a0_1 == 0 && (a0_2 == 0 && (a0_3 == 0 && (a0_4 == 0)))))) else (if a0_0 = 1 then ((bytes_up.f a0_1 255).bind fun t168 => (if t168 = true then (some (a0_0 == 1 && (a0_2 == 0 && (a0_3 == 0 && (a0_4 == 0))))) else (some false))) else (if a0_0 = 2 then (if a0_1 = 0 then (if a0_2 ≥ 1 then (if a0_2 ≤ 32 then ((bytes_up.f a0_3 32).bind fun t169 => (if t169 = true then ((bytes_up.f a0_4 3).bind fun t170 => (some t170)) else (some false))) else (some false)) else (some false)) else (some false)) else (some false)))
set_option maxHeartbeats 8000000 in
set_option maxRecDepth 100000 in
theorem bytes_Is.calls (a0_0 : Int) (a0_1 : Int) (a0_2 : Int) (a0_3 : Int) (a0_4 : Int) (r : Bool) (w : World) (h : bytes_Is.f a0_0 a0_1 a0_2 a0_3 a0_4 = some r) :
  Calls Try.prog 124 #[.agg #[.int .i64 a0_0, .int .i64 a0_1, .int .i64 a0_2, .int .i64 a0_3, .int .i64 a0_4]] w fun e w' => e = .returned (.bool r) ∧ Below w.heap.size w w' := by
 have hu74 := Try.underlying74
 have HB := Aside0.mk (Below.refl w.heap.size w)
 have H : (if a0_0 = 0 then (some (a0_0 == 0 && (a0_1 == 0 && (a0_2 == 0 && (a0_3 == 0 && (a0_4 == 0)))))) else (if a0_0 = 1 then ((bytes_up.f a0_1 255).bind fun t168 => (if t168 = true then (some (a0_0 == 1 && (a0_2 == 0 && (a0_3 == 0 && (a0_4 == 0))))) else (some false))) else (if a0_0 = 2 then (if a0_1 = 0 then (if a0_2 ≥ 1 then (if a0_2 ≤ 32 then ((bytes_up.f a0_3 32).bind fun t169 => (if t169 = true then ((bytes_up.f a0_4 3).bind fun t170 => (some t170)) else (some false))) else (some false)) else (some false)) else (some false)) else (some false)))) = some r := h
 clear h
 by_cases c2 : a0_0 = 0
 ·rw [if_pos c2] at H
  have c2b0 : (a0_0 == 0) = true := beq_iff_eq.mpr c2
  have c2b1 : (a0_0 != 0) = false := bne_eq_false_iff_eq.mpr c2
  clear c2
  obtain rfl := Option.some.inj H
  go_enter Try.func124, Try.ntmps124
  go_wp2_with (first | ((with_reducible refine gate_dst (N := 1) rfl ?_); refine zbox (N := 1) (cs := #[.int .i64 a0_0, .int .i64 a0_1, .int .i64 a0_2, .int .i64 a0_3, .int .i64 a0_4]) (t := 74) ?_; intro gb167 hg w3 hbox hb; have n0_ := Aside0.mk (below_step (zw0 HB.out) hb); have BK167 := Aside0.mk (hbox); have GW167 := Aside0.mk (zg hg (below_size (zw0 HB.out))); have GE167 := GW167; clear HB; have HB := n0_; clear n0_; clear hb hbox hg; have hcz4_0 := zc BK167.out 0; have hcz4_1 := zc BK167.out 1; have hcz4_2 := zc BK167.out 2; have hcz4_3 := zc BK167.out 3; have hcz4_4 := zc BK167.out 4; have hfz4_0 := blk_frozen BK167.out 0; have hfz4_1 := blk_frozen BK167.out 1; have hfz4_2 := blk_frozen BK167.out 2; have hfz4_3 := blk_frozen BK167.out 3; have hfz4_4 := blk_frozen BK167.out 4))
  go_ret
  exact ⟨ze, zw1 HB.out GE167.out⟩
 ·rw [if_neg c2] at H
  have c2b0 : (a0_0 == 0) = false := beq_eq_false_iff_ne.mpr c2
  have c2b1 : (a0_0 != 0) = true := bne_iff_ne.mpr c2
  by_cases c5 : a0_0 = 1
  ·rw [if_pos c5] at H
   have c5b0 : (a0_0 == 1) = true := beq_iff_eq.mpr c5
   have c5b1 : (a0_0 != 1) = false := bne_eq_false_iff_eq.mpr c5
   clear c5
   replace H := Option.bind_eq_some_iff.mp H
   obtain ⟨t168, A60, H⟩ := H
   replace H : (if t168 = true then (some (a0_0 == 1 && (a0_2 == 0 && (a0_3 == 0 && (a0_4 == 0))))) else (some false)) = some r := H
   have A6 := Aside0.mk A60
   clear A60
   by_cases c7 : t168 = true
   ·subst c7
    have H1 : (some (a0_0 == 1 && (a0_2 == 0 && (a0_3 == 0 && (a0_4 == 0))))) = some r := by rw [if_pos rfl] at H; exact H
    clear H
    have H := H1
    clear H1
    obtain rfl := Option.some.inj H
    go_enter Try.func124, Try.ntmps124
    go_wp2_with (first | ((with_reducible refine gate_dst (N := 1) rfl ?_); refine zbox (N := 1) (cs := #[.int .i64 a0_0, .int .i64 a0_1, .int .i64 a0_2, .int .i64 a0_3, .int .i64 a0_4]) (t := 74) ?_; intro gb167 hg w8 hbox hb; have n0_ := Aside0.mk (below_step (zw0 HB.out) hb); have BK167 := Aside0.mk (hbox); have GW167 := Aside0.mk (zg hg (below_size (zw0 HB.out))); have GE167 := GW167; clear HB; have HB := n0_; clear n0_; clear hb hbox hg; have hcz9_0 := zc BK167.out 0; have hcz9_1 := zc BK167.out 1; have hcz9_2 := zc BK167.out 2; have hcz9_3 := zc BK167.out 3; have hcz9_4 := zc BK167.out 4; have hfz9_0 := blk_frozen BK167.out 0; have hfz9_1 := blk_frozen BK167.out 1; have hfz9_2 := blk_frozen BK167.out 2; have hfz9_3 := blk_frozen BK167.out 3; have hfz9_4 := blk_frozen BK167.out 4) | ((with_reducible refine gate_callee (f := 100) rfl ?_); refine zgo (some 14) Try.func100 #[.int .i64 a0_1, .int .i64 255] ?_; (with_reducible refine (bytes_up.calls a0_1 255 true _ A6.out).mono ?_); rintro e w' ⟨rfl, ⟨nd, rfl⟩⟩; refine ⟨_, rfl, ?_⟩))
    go_ret
    exact ⟨ze, zw1 HB.out GE167.out⟩
   replace c7 := Bool.eq_false_iff.mpr c7
   subst c7
   have H1 : (some false) = some r := by rw [if_neg (show ¬ (false = true) by decide)] at H; exact H
   clear H
   have H := H1
   clear H1
   obtain rfl := Option.some.inj H
   go_enter Try.func124, Try.ntmps124
   go_wp2_with (first | ((with_reducible refine gate_dst (N := 1) rfl ?_); refine zbox (N := 1) (cs := #[.int .i64 a0_0, .int .i64 a0_1, .int .i64 a0_2, .int .i64 a0_3, .int .i64 a0_4]) (t := 74) ?_; intro gb167 hg w10 hbox hb; have n0_ := Aside0.mk (below_step (zw0 HB.out) hb); have BK167 := Aside0.mk (hbox); have GW167 := Aside0.mk (zg hg (below_size (zw0 HB.out))); have GE167 := GW167; clear HB; have HB := n0_; clear n0_; clear hb hbox hg; have hcz11_0 := zc BK167.out 0; have hcz11_1 := zc BK167.out 1; have hcz11_2 := zc BK167.out 2; have hcz11_3 := zc BK167.out 3; have hcz11_4 := zc BK167.out 4; have hfz11_0 := blk_frozen BK167.out 0; have hfz11_1 := blk_frozen BK167.out 1; have hfz11_2 := blk_frozen BK167.out 2; have hfz11_3 := blk_frozen BK167.out 3; have hfz11_4 := blk_frozen BK167.out 4) | ((with_reducible refine gate_callee (f := 100) rfl ?_); refine zgo (some 14) Try.func100 #[.int .i64 a0_1, .int .i64 255] ?_; (with_reducible refine (bytes_up.calls a0_1 255 false _ A6.out).mono ?_); rintro e w' ⟨rfl, ⟨nd, rfl⟩⟩; refine ⟨_, rfl, ?_⟩))
   go_ret
   exact ⟨ze, zw1 HB.out GE167.out⟩
  ·rw [if_neg c5] at H
   have c5b0 : (a0_0 == 1) = false := beq_eq_false_iff_ne.mpr c5
   have c5b1 : (a0_0 != 1) = true := bne_iff_ne.mpr c5
   by_cases c12 : a0_0 = 2
   ·rw [if_pos c12] at H
    have c12b0 : (a0_0 == 2) = true := beq_iff_eq.mpr c12
    have c12b1 : (a0_0 != 2) = false := bne_eq_false_iff_eq.mpr c12
    clear c12
    by_cases c13 : a0_1 = 0
    rotate_left
    ·rw [if_neg c13] at H
     have c13b0 : (a0_1 == 0) = false := beq_eq_false_iff_ne.mpr c13
     have c13b1 : (a0_1 != 0) = true := bne_iff_ne.mpr c13
     obtain rfl := Option.some.inj H
     go_enter Try.func124, Try.ntmps124
     go_wp2_with (first | ((with_reducible refine gate_dst (N := 1) rfl ?_); refine zbox (N := 1) (cs := #[.int .i64 a0_0, .int .i64 a0_1, .int .i64 a0_2, .int .i64 a0_3, .int .i64 a0_4]) (t := 74) ?_; intro gb167 hg w27 hbox hb; have n0_ := Aside0.mk (below_step (zw0 HB.out) hb); have BK167 := Aside0.mk (hbox); have GW167 := Aside0.mk (zg hg (below_size (zw0 HB.out))); have GE167 := GW167; clear HB; have HB := n0_; clear n0_; clear hb hbox hg; have hcz28_0 := zc BK167.out 0; have hcz28_1 := zc BK167.out 1; have hcz28_2 := zc BK167.out 2; have hcz28_3 := zc BK167.out 3; have hcz28_4 := zc BK167.out 4; have hfz28_0 := blk_frozen BK167.out 0; have hfz28_1 := blk_frozen BK167.out 1; have hfz28_2 := blk_frozen BK167.out 2; have hfz28_3 := blk_frozen BK167.out 3; have hfz28_4 := blk_frozen BK167.out 4))
     go_ret
     exact ⟨ze, zw1 HB.out GE167.out⟩
    rw [if_pos c13] at H
    have c13b0 : (a0_1 == 0) = true := beq_iff_eq.mpr c13
    have c13b1 : (a0_1 != 0) = false := bne_eq_false_iff_eq.mpr c13
    clear c13
    by_cases c14 : a0_2 ≥ 1
    rotate_left
    ·rw [if_neg c14] at H
     have c14b0 : decide (1 ≤ a0_2) = false := decide_eq_false c14
     clear c14
     obtain rfl := Option.some.inj H
     go_enter Try.func124, Try.ntmps124
     go_wp2_with (first | ((with_reducible refine gate_dst (N := 1) rfl ?_); refine zbox (N := 1) (cs := #[.int .i64 a0_0, .int .i64 a0_1, .int .i64 a0_2, .int .i64 a0_3, .int .i64 a0_4]) (t := 74) ?_; intro gb167 hg w25 hbox hb; have n0_ := Aside0.mk (below_step (zw0 HB.out) hb); have BK167 := Aside0.mk (hbox); have GW167 := Aside0.mk (zg hg (below_size (zw0 HB.out))); have GE167 := GW167; clear HB; have HB := n0_; clear n0_; clear hb hbox hg; have hcz26_0 := zc BK167.out 0; have hcz26_1 := zc BK167.out 1; have hcz26_2 := zc BK167.out 2; have hcz26_3 := zc BK167.out 3; have hcz26_4 := zc BK167.out 4; have hfz26_0 := blk_frozen BK167.out 0; have hfz26_1 := blk_frozen BK167.out 1; have hfz26_2 := blk_frozen BK167.out 2; have hfz26_3 := blk_frozen BK167.out 3; have hfz26_4 := blk_frozen BK167.out 4))
     go_ret
     exact ⟨ze, zw1 HB.out GE167.out⟩
    rw [if_pos c14] at H
    have c14b0 : decide (1 ≤ a0_2) = true := decide_eq_true c14
    clear c14
    by_cases c15 : a0_2 ≤ 32
    rotate_left
    ·rw [if_neg c15] at H
     have c15b0 : decide (a0_2 ≤ 32) = false := decide_eq_false c15
     clear c15
     obtain rfl := Option.some.inj H
     go_enter Try.func124, Try.ntmps124
     go_wp2_with (first | ((with_reducible refine gate_dst (N := 1) rfl ?_); refine zbox (N := 1) (cs := #[.int .i64 a0_0, .int .i64 a0_1, .int .i64 a0_2, .int .i64 a0_3, .int .i64 a0_4]) (t := 74) ?_; intro gb167 hg w23 hbox hb; have n0_ := Aside0.mk (below_step (zw0 HB.out) hb); have BK167 := Aside0.mk (hbox); have GW167 := Aside0.mk (zg hg (below_size (zw0 HB.out))); have GE167 := GW167; clear HB; have HB := n0_; clear n0_; clear hb hbox hg; have hcz24_0 := zc BK167.out 0; have hcz24_1 := zc BK167.out 1; have hcz24_2 := zc BK167.out 2; have hcz24_3 := zc BK167.out 3; have hcz24_4 := zc BK167.out 4; have hfz24_0 := blk_frozen BK167.out 0; have hfz24_1 := blk_frozen BK167.out 1; have hfz24_2 := blk_frozen BK167.out 2; have hfz24_3 := blk_frozen BK167.out 3; have hfz24_4 := blk_frozen BK167.out 4))
     go_ret
     exact ⟨ze, zw1 HB.out GE167.out⟩
    rw [if_pos c15] at H
    have c15b0 : decide (a0_2 ≤ 32) = true := decide_eq_true c15
    clear c15
    replace H := Option.bind_eq_some_iff.mp H
    obtain ⟨t169, A160, H⟩ := H
    replace H : (if t169 = true then ((bytes_up.f a0_4 3).bind fun t170 => (some t170)) else (some false)) = some r := H
    have A16 := Aside0.mk A160
    clear A160
    by_cases c17 : t169 = true
    rotate_left
    ·replace c17 := Bool.eq_false_iff.mpr c17
     subst c17
     have H1 : (some false) = some r := by rw [if_neg (show ¬ (false = true) by decide)] at H; exact H
     clear H
     have H := H1
     clear H1
     obtain rfl := Option.some.inj H
     go_enter Try.func124, Try.ntmps124
     go_wp2_with (first | ((with_reducible refine gate_dst (N := 1) rfl ?_); refine zbox (N := 1) (cs := #[.int .i64 a0_0, .int .i64 a0_1, .int .i64 a0_2, .int .i64 a0_3, .int .i64 a0_4]) (t := 74) ?_; intro gb167 hg w21 hbox hb; have n0_ := Aside0.mk (below_step (zw0 HB.out) hb); have BK167 := Aside0.mk (hbox); have GW167 := Aside0.mk (zg hg (below_size (zw0 HB.out))); have GE167 := GW167; clear HB; have HB := n0_; clear n0_; clear hb hbox hg; have hcz22_0 := zc BK167.out 0; have hcz22_1 := zc BK167.out 1; have hcz22_2 := zc BK167.out 2; have hcz22_3 := zc BK167.out 3; have hcz22_4 := zc BK167.out 4; have hfz22_0 := blk_frozen BK167.out 0; have hfz22_1 := blk_frozen BK167.out 1; have hfz22_2 := blk_frozen BK167.out 2; have hfz22_3 := blk_frozen BK167.out 3; have hfz22_4 := blk_frozen BK167.out 4) | (go_at_call 100; (with_reducible refine (bytes_up.calls a0_3 32 false _ A16.out).mono ?_); rintro e w' ⟨rfl, ⟨nd, rfl⟩⟩))
     go_ret
     exact ⟨ze, zw1 HB.out GE167.out⟩
    subst c17
    have H1 : ((bytes_up.f a0_4 3).bind fun t170 => (some t170)) = some r := by rw [if_pos rfl] at H; exact H
    clear H
    have H := H1
    clear H1
    replace H := Option.bind_eq_some_iff.mp H
    obtain ⟨t170, A180, H⟩ := H
    replace H : (some t170) = some r := H
    have A18 := Aside0.mk A180
    clear A180
    obtain rfl := Option.some.inj H
    go_enter Try.func124, Try.ntmps124
    go_wp2_with (first | ((with_reducible refine gate_dst (N := 1) rfl ?_); refine zbox (N := 1) (cs := #[.int .i64 a0_0, .int .i64 a0_1, .int .i64 a0_2, .int .i64 a0_3, .int .i64 a0_4]) (t := 74) ?_; intro gb167 hg w19 hbox hb; have n0_ := Aside0.mk (below_step (zw0 HB.out) hb); have BK167 := Aside0.mk (hbox); have GW167 := Aside0.mk (zg hg (below_size (zw0 HB.out))); have GE167 := GW167; clear HB; have HB := n0_; clear n0_; clear hb hbox hg; have hcz20_0 := zc BK167.out 0; have hcz20_1 := zc BK167.out 1; have hcz20_2 := zc BK167.out 2; have hcz20_3 := zc BK167.out 3; have hcz20_4 := zc BK167.out 4; have hfz20_0 := blk_frozen BK167.out 0; have hfz20_1 := blk_frozen BK167.out 1; have hfz20_2 := blk_frozen BK167.out 2; have hfz20_3 := blk_frozen BK167.out 3; have hfz20_4 := blk_frozen BK167.out 4) | (go_at_call 100; (with_reducible refine (bytes_up.calls a0_3 32 true _ A16.out).mono ?_); rintro e w' ⟨rfl, ⟨nd, rfl⟩⟩) | (go_at_call 100; (with_reducible refine (bytes_up.calls a0_4 3 t170 _ A18.out).mono ?_); rintro e w' ⟨rfl, ⟨nd, rfl⟩⟩))
    go_ret
    exact ⟨ze, zw1 HB.out GE167.out⟩
   ·rw [if_neg c12] at H
    have c12b0 : (a0_0 == 2) = false := beq_eq_false_iff_ne.mpr c12
    have c12b1 : (a0_0 != 2) = true := bne_iff_ne.mpr c12
    obtain rfl := Option.some.inj H
    go_enter Try.func124, Try.ntmps124
    go_wp2_with (first | ((with_reducible refine gate_dst (N := 1) rfl ?_); refine zbox (N := 1) (cs := #[.int .i64 a0_0, .int .i64 a0_1, .int .i64 a0_2, .int .i64 a0_3, .int .i64 a0_4]) (t := 74) ?_; intro gb167 hg w29 hbox hb; have n0_ := Aside0.mk (below_step (zw0 HB.out) hb); have BK167 := Aside0.mk (hbox); have GW167 := Aside0.mk (zg hg (below_size (zw0 HB.out))); have GE167 := GW167; clear HB; have HB := n0_; clear n0_; clear hb hbox hg; have hcz30_0 := zc BK167.out 0; have hcz30_1 := zc BK167.out 1; have hcz30_2 := zc BK167.out 2; have hcz30_3 := zc BK167.out 3; have hcz30_4 := zc BK167.out 4; have hfz30_0 := blk_frozen BK167.out 0; have hfz30_1 := blk_frozen BK167.out 1; have hfz30_2 := blk_frozen BK167.out 2; have hfz30_3 := blk_frozen BK167.out 3; have hfz30_4 := blk_frozen BK167.out 4))
    go_ret
    exact ⟨ze, zw1 HB.out GE167.out⟩

/-! mem_block_1 -/
def mem_block_1.f (a0_0 : Int) (a0_1 : Int) (a0_2 : Int) (a0_3 : Int) (a0_4 : Int) : Option (Bool) := (bytes_Is.f a0_0 a0_1 a0_2 a0_3 a0_4).bind fun t172 => (some (!t172))
set_option maxHeartbeats 8000000 in
set_option maxRecDepth 100000 in
theorem mem_block_1.calls (a0_0 : Int) (a0_1 : Int) (a0_2 : Int) (a0_3 : Int) (a0_4 : Int) (r : Bool) (w : World) (h : mem_block_1.f a0_0 a0_1 a0_2 a0_3 a0_4 = some r) :
  Calls Try.prog 123 #[.agg #[.int .i64 a0_0, .int .i64 a0_1, .int .i64 a0_2, .int .i64 a0_3, .int .i64 a0_4]] w fun e w' => e = .returned (.bool r) ∧ Below w.heap.size w w' := by
 have hu74 := Try.underlying74
 have HB := Aside0.mk (Below.refl w.heap.size w)
 have H : ((bytes_Is.f a0_0 a0_1 a0_2 a0_3 a0_4).bind fun t172 => (some (!t172))) = some r := h
 clear h
 replace H := Option.bind_eq_some_iff.mp H
 obtain ⟨t172, A20, H⟩ := H
 replace H : (some (!t172)) = some r := H
 have A2 := Aside0.mk A20
 clear A20
 obtain rfl := Option.some.inj H
 go_enter Try.func123, Try.ntmps123
 go_wp2_with (first | ((with_reducible refine gate_dst (N := 1) rfl ?_); refine zbox (N := 1) (cs := #[.int .i64 a0_0, .int .i64 a0_1, .int .i64 a0_2, .int .i64 a0_3, .int .i64 a0_4]) (t := 74) ?_; intro gb171 hg w3 hbox hb; have n0_ := Aside0.mk (below_step (zw0 HB.out) hb); have BK171 := Aside0.mk (hbox); have GW171 := Aside0.mk (zg hg (below_size (zw0 HB.out))); have GE171 := GW171; clear HB; have HB := n0_; clear n0_; clear hb hbox hg; have hcz4_0 := zc BK171.out 0; have hcz4_1 := zc BK171.out 1; have hcz4_2 := zc BK171.out 2; have hcz4_3 := zc BK171.out 3; have hcz4_4 := zc BK171.out 4; have hfz4_0 := blk_frozen BK171.out 0; have hfz4_1 := blk_frozen BK171.out 1; have hfz4_2 := blk_frozen BK171.out 2; have hfz4_3 := blk_frozen BK171.out 3; have hfz4_4 := blk_frozen BK171.out 4) | ((with_reducible refine gate_callee (f := 124) rfl ?_); refine zgo (some 4) Try.func124 #[.agg #[.int .i64 a0_0, .int .i64 a0_1, .int .i64 a0_2, .int .i64 a0_3, .int .i64 a0_4]] ?_; (with_reducible refine (bytes_Is.calls a0_0 a0_1 a0_2 a0_3 a0_4 t172 _ A2.out).mono ?_); rintro e w5 ⟨rfl, hb⟩; refine ⟨_, rfl, ?_⟩; have n0_ := Aside0.mk (zbb BK171.out hb); have n1_ := Aside0.mk (below_step (zw1 HB.out GE171.out) hb); clear BK171 HB; have BK171 := n0_; have HB := n1_; clear n0_ n1_; (try clear hb); (try clear hb2); (try clear hk); (try clear hi)))
 go_ret
 exact ⟨ze, zw1 HB.out GE171.out⟩

/-! slices.IndexFunc[[]cellar/api.Byte,cellar/api.Byte] -/
set_option maxHeartbeats 4000000 in
set_option maxRecDepth 100000 in
theorem IndexFunc_T74 (p : S74 → Option Bool) (g : Nat) (lb : Array Value) (eg : ∀ args w, (callFunc g args).run Try.prog w = .ok (.enter g args) w) (A : Option Addr) (c : Nat) (l : List S74) (r : Int) (w : World)
    (hr : Kd.C k74 w A l.length l) (hp : PredK Try.prog k74 g lb (fun cs => .agg cs.toArray) p w) (h : idxO p 0 l = some r) :
    Calls Try.prog 130 #[.slice A l.length c, .func (.func g) #[] lb] w fun e w' => e = .returned (.int .i64 r) ∧ Below w.heap.size w w' := by
  have hbig := hr.2.1
  have HR := Aside0.mk hr
  have HP := Aside0.mk hp
  have H0 := Aside0.mk h
  have hu := Try.underlying74
  clear hr hp h
  go_enter Try.func130, Try.ntmps130
  go_wp2
  go_loopg [5, 8] l.length (fun gg _ s8 wr => ∃ kk : Nat, kk ≤ l.length ∧ l.length - kk ≤ gg ∧ s8 = .int .i64 kk ∧ Aside0 (Below w.heap.size w wr) ∧ Aside0 (idxO p kk (l.drop kk) = some r))
  case atStart => exact ⟨0, Nat.zero_le _, by omega, rfl, ⟨Below.refl _ w⟩, H0⟩
  case round =>
    obtain ⟨kk, hkk, hg, rfl, BW, A0_⟩ := hrel
    clear H0
    by_cases hlt : kk < l.length
    · have hltz : (kk : Int) < (l.length : Int) := by omega
      obtain ⟨ad, e0, hx0, hx1, hx2, hx3, hx4⟩ := at_T74 (Kd.C_below HR.out BW.out) (kk : Int) (by omega) (by omega)
      cases e0
      rw [Int.toNat_natCast] at hx0 hx1 hx2 hx3 hx4
      have hA := A0_.out
      have hd : l.drop kk = rd_T74 l (kk : Int) :: l.drop (kk + 1) := by
        show l.drop kk = l.getD kk z74 :: l.drop (kk + 1)
        rw [List.drop_eq_getElem_cons hlt, List.getD_eq_getElem?_getD, List.getElem?_eq_getElem hlt]
        rfl
      rw [hd] at hA
      simp only [idxO] at hA
      obtain ⟨b, hb, hA⟩ := Option.bind_eq_some_iff.1 hA
      have hcall := HP.out wr (rd_T74 l (kk : Int)) _ b BW.out (k74_mk wr _) hb
      clear hd hb A0_
      cases b with
      | true =>
        rw [if_pos rfl] at hA
        injection hA with hA
        subst hA
        go_wp2_with (go_at_fn g; refine hcall.mono ?_; rintro e w' ⟨rfl, hb'⟩)
        go_ret
        exact ⟨by first | rfl | (simp; done), below_step BW.out hb'⟩
      | false =>
        rw [if_neg (by decide)] at hA
        have HA := Aside0.mk hA
        clear hA
        go_wp2_with (go_at_fn g; refine hcall.mono ?_; rintro e w' ⟨rfl, hb'⟩)
        go_roundg (l.length - (kk + 1))
        case measure => omega
        case rel => exact ⟨kk + 1, by omega, by omega, by go_num, ⟨below_step BW.out hb'⟩, ⟨by have := HA.out; simpa using this⟩⟩
    · have hltz : ¬ (kk : Int) < (l.length : Int) := by omega
      have hA := A0_.out
      rw [List.drop_eq_nil_of_le (by omega)] at hA
      simp only [idxO, Option.some.injEq] at hA
      subst hA
      clear A0_
      go_wp2
      go_ret
      exact ⟨by first | rfl | (simp; done), BW.out⟩

/-! slices.ContainsFunc[[]cellar/api.Byte,cellar/api.Byte] -/
set_option maxHeartbeats 4000000 in
theorem ContainsFunc_T74 (p : S74 → Option Bool) (g : Nat) (lb : Array Value) (eg : ∀ args w, (callFunc g args).run Try.prog w = .ok (.enter g args) w) (A : Option Addr) (c : Nat) (l : List S74) (r : Bool) (w : World)
    (hr : Kd.C k74 w A l.length l) (hp : PredK Try.prog k74 g lb (fun cs => .agg cs.toArray) p w) (h : anyO p l = some r) :
    Calls Try.prog 122 #[.slice A l.length c, .func (.func g) #[] lb] w fun e w' => e = .returned (.bool r) ∧ Below w.heap.size w w' := by
  obtain ⟨j, hj, hd⟩ := idx_any p l 0 r (Int.le_refl 0) h
  have HI := Aside0.mk (IndexFunc_T74 p g lb eg A c l j w hr hp hj)
  subst hd
  clear hr hp h hj
  go_enter Try.func122, Try.ntmps122
  go_wp2_with (go_at_call 130; refine HI.out.mono ?_; rintro e w' ⟨rfl, hb'⟩)
  go_ret
  exact ⟨by first | rfl | (simp; done), hb'⟩
def api_Byte_122.f (l : List S74) (g : Nat) : Option Bool := if g = 123 then anyO (fun x => mem_block_1.f x.f0 x.f1 x.f2 x.f3 x.f4) l else (none)
theorem api_Byte_122.calls (A0 : Option Addr) (c0 : Nat) (l : List S74) (g : Nat) (r : Bool) (w : World) (hr0 : Kd.C k74 w A0 l.length l) (hc0 : l.length ≤ c0) (h : api_Byte_122.f l g = some r) :
    Calls Try.prog 122 #[.slice A0 l.length c0, .func (.func g) #[] #[]] w fun e w' => e = .returned (.bool r) ∧ Below w.heap.size w w' := by
  unfold api_Byte_122.f at h
  by_cases e123 : g = 123
  · subst e123
    rw [if_pos rfl] at h
    exact ContainsFunc_T74 _ 123 #[] (enters_of Try.func123 (by kernel_rfl) rfl) A0 c0 l r w hr0 (fun W x cs b hb hK hx => by
      obtain rfl := k74_open hK
      exact (mem_block_1.calls x.f0 x.f1 x.f2 x.f3 x.f4 b W hx).mono fun e w' ⟨he, hd⟩ => ⟨he, hd⟩) h
  rw [if_neg e123] at h
  exact absurd h (by simp)

/-! mem_block -/
def mem_block.f (a0_0 : Int) (l0_1 : List (S74)) : Option (Bool) := if a0_0 < 0 then (some false) else (if a0_0 > 3 then (some false) else (if (l0_1.length : Int) > 32 then (some false) else (if a0_0 = 1 then ((api_Byte_122.f l0_1 123).bind fun t174 => (some (!t174))) else (if (l0_1.length : Int) > 0 then (some false) else ((api_Byte_122.f l0_1 123).bind fun t175 => (some (!t175)))))))
set_option maxHeartbeats 8000000 in
set_option maxRecDepth 100000 in
theorem mem_block.calls (a0_0 : Int) (A0_1 : Option Addr) (c0_1 : Nat) (l0_1 : List (S74)) (r : Bool) (w : World) (hr0_1 : Kd.C k74 w A0_1 l0_1.length l0_1) (hc0_1 : l0_1.length ≤ c0_1) (h : mem_block.f a0_0 l0_1 = some r) :
  Calls Try.prog 109 #[.agg #[.int .i64 a0_0, .slice A0_1 l0_1.length c0_1]] w fun e w' => e = .returned (.bool r) ∧ Below w.heap.size w w' := by
 have hu76 := Try.underlying76
 have HR0_1 := Aside0.mk hr0_1
 have HC0_1 := Aside0.mk hc0_1
 clear hr0_1 hc0_1
 have HB := Aside0.mk (Below.refl w.heap.size w)
 have H : (if a0_0 < 0 then (some false) else (if a0_0 > 3 then (some false) else (if (l0_1.length : Int) > 32 then (some false) else (if a0_0 = 1 then ((api_Byte_122.f l0_1 123).bind fun t174 => (some (!t174))) else (if (l0_1.length : Int) > 0 then (some false) else ((api_Byte_122.f l0_1 123).bind fun t175 => (some (!t175)))))))) = some r := h
 clear h
 by_cases c2 : a0_0 < 0
 ·rw [if_pos c2] at H
  have c2b0 : decide (a0_0 < 0) = true := decide_eq_true c2
  clear c2
  obtain rfl := Option.some.inj H
  go_enter Try.func109, Try.ntmps109
  go_wp2_with (first | ((with_reducible refine gate_dst (N := 1) rfl ?_); (try (refine gate_guard (by rfl) ?_; dsimp only)); refine zbox (N := 1) (cs := #[.int .i64 a0_0, .slice A0_1 l0_1.length c0_1]) (t := 76) ?_; intro gb173 hg w3 hbox hb; have n0_ := Aside0.mk (below_step (zw0 HB.out) hb); have BK173 := Aside0.mk (hbox); have GW173 := Aside0.mk (zg hg (below_size (zw0 HB.out))); have GE173 := GW173; clear HB; have HB := n0_; clear n0_; clear hb hbox hg; have hcz4_0 := zc BK173.out 0; have hcz4_1 := zc BK173.out 1; have hfz4_0 := blk_frozen BK173.out 0; have hfz4_1 := blk_frozen BK173.out 1))
  go_ret
  exact ⟨ze, zw1 HB.out GE173.out⟩
 ·rw [if_neg c2] at H
  have c2b0 : decide (a0_0 < 0) = false := decide_eq_false c2
  clear c2
  by_cases c5 : a0_0 > 3
  ·rw [if_pos c5] at H
   have c5b0 : decide (3 < a0_0) = true := decide_eq_true c5
   clear c5
   obtain rfl := Option.some.inj H
   go_enter Try.func109, Try.ntmps109
   go_wp2_with (first | ((with_reducible refine gate_dst (N := 1) rfl ?_); (try (refine gate_guard (by rfl) ?_; dsimp only)); refine zbox (N := 1) (cs := #[.int .i64 a0_0, .slice A0_1 l0_1.length c0_1]) (t := 76) ?_; intro gb173 hg w6 hbox hb; have n0_ := Aside0.mk (below_step (zw0 HB.out) hb); have BK173 := Aside0.mk (hbox); have GW173 := Aside0.mk (zg hg (below_size (zw0 HB.out))); have GE173 := GW173; clear HB; have HB := n0_; clear n0_; clear hb hbox hg; have hcz7_0 := zc BK173.out 0; have hcz7_1 := zc BK173.out 1; have hfz7_0 := blk_frozen BK173.out 0; have hfz7_1 := blk_frozen BK173.out 1))
   go_ret
   exact ⟨ze, zw1 HB.out GE173.out⟩
  ·rw [if_neg c5] at H
   have c5b0 : decide (3 < a0_0) = false := decide_eq_false c5
   clear c5
   by_cases c8 : (l0_1.length : Int) > 32
   ·rw [if_pos c8] at H
    have c8b0 : decide (32 < (l0_1.length : Int)) = true := decide_eq_true c8
    have c8b1 : decide (32 < l0_1.length) = true := decide_eq_true (by omega)
    clear c8
    obtain rfl := Option.some.inj H
    go_enter Try.func109, Try.ntmps109
    go_wp2_with (first | ((with_reducible refine gate_dst (N := 1) rfl ?_); (try (refine gate_guard (by rfl) ?_; dsimp only)); refine zbox (N := 1) (cs := #[.int .i64 a0_0, .slice A0_1 l0_1.length c0_1]) (t := 76) ?_; intro gb173 hg w9 hbox hb; have n0_ := Aside0.mk (below_step (zw0 HB.out) hb); have BK173 := Aside0.mk (hbox); have GW173 := Aside0.mk (zg hg (below_size (zw0 HB.out))); have GE173 := GW173; clear HB; have HB := n0_; clear n0_; clear hb hbox hg; have hcz10_0 := zc BK173.out 0; have hcz10_1 := zc BK173.out 1; have hfz10_0 := blk_frozen BK173.out 0; have hfz10_1 := blk_frozen BK173.out 1))
    go_ret
    exact ⟨ze, zw1 HB.out GE173.out⟩
   ·rw [if_neg c8] at H
    have c8b0 : decide (32 < (l0_1.length : Int)) = false := decide_eq_false c8
    have c8b1 : decide (32 < l0_1.length) = false := decide_eq_false (by omega)
    clear c8
    by_cases c11 : a0_0 = 1
    ·rw [if_pos c11] at H
     have c11b0 : (a0_0 == 1) = true := beq_iff_eq.mpr c11
     have c11b1 : (a0_0 != 1) = false := bne_eq_false_iff_eq.mpr c11
     clear c11
     replace H := Option.bind_eq_some_iff.mp H
     obtain ⟨t174, A120, H⟩ := H
     replace H : (some (!t174)) = some r := H
     have A12 := Aside0.mk A120
     clear A120
     obtain rfl := Option.some.inj H
     go_enter Try.func109, Try.ntmps109
     go_wp2_with (first | ((with_reducible refine gate_dst (N := 1) rfl ?_); (try (refine gate_guard (by rfl) ?_; dsimp only)); refine zbox (N := 1) (cs := #[.int .i64 a0_0, .slice A0_1 l0_1.length c0_1]) (t := 76) ?_; intro gb173 hg w13 hbox hb; have n0_ := Aside0.mk (below_step (zw0 HB.out) hb); have BK173 := Aside0.mk (hbox); have GW173 := Aside0.mk (zg hg (below_size (zw0 HB.out))); have GE173 := GW173; clear HB; have HB := n0_; clear n0_; clear hb hbox hg; have hcz14_0 := zc BK173.out 0; have hcz14_1 := zc BK173.out 1; have hfz14_0 := blk_frozen BK173.out 0; have hfz14_1 := blk_frozen BK173.out 1) | ((with_reducible refine gate_callee (f := 122) rfl ?_); refine zgo (some 30) Try.func122 #[.slice A0_1 l0_1.length c0_1, .func (.func 123) #[] #[]] ?_; (with_reducible refine (api_Byte_122.calls _ _ l0_1 123 t174 _ ?side1 ?side2 A12.out).mono ?_); (case side1 => repeat (first | exact (Kd.C_below HR0_1.out HB.out) | (with_reducible refine Kd.C_alloc ?_ _) | (with_reducible refine Kd.C_drewN ?_ _) | (with_reducible refine Kd.C_drew ?_))); (case side2 => exact HC0_1.out); rintro e w15 ⟨rfl, hb⟩; refine ⟨_, rfl, ?_⟩; have n0_ := Aside0.mk (zbb BK173.out hb); have n1_ := Aside0.mk (below_step (zw1 HB.out GE173.out) hb); clear BK173 HB; have BK173 := n0_; have HB := n1_; clear n0_ n1_; (try clear hb); (try clear hb2); (try clear hk); (try clear hi)))
     go_ret
     exact ⟨ze, zw1 HB.out GE173.out⟩
    ·rw [if_neg c11] at H
     have c11b0 : (a0_0 == 1) = false := beq_eq_false_iff_ne.mpr c11
     have c11b1 : (a0_0 != 1) = true := bne_iff_ne.mpr c11
     by_cases c16 : (l0_1.length : Int) > 0
     ·rw [if_pos c16] at H
      have c16b0 : decide (0 < (l0_1.length : Int)) = true := decide_eq_true c16
      have c16b1 : decide (0 < l0_1.length) = true := decide_eq_true (by omega)
      clear c16
      obtain rfl := Option.some.inj H
      go_enter Try.func109, Try.ntmps109
      go_wp2_with (first | ((with_reducible refine gate_dst (N := 1) rfl ?_); (try (refine gate_guard (by rfl) ?_; dsimp only)); refine zbox (N := 1) (cs := #[.int .i64 a0_0, .slice A0_1 l0_1.length c0_1]) (t := 76) ?_; intro gb173 hg w17 hbox hb; have n0_ := Aside0.mk (below_step (zw0 HB.out) hb); have BK173 := Aside0.mk (hbox); have GW173 := Aside0.mk (zg hg (below_size (zw0 HB.out))); have GE173 := GW173; clear HB; have HB := n0_; clear n0_; clear hb hbox hg; have hcz18_0 := zc BK173.out 0; have hcz18_1 := zc BK173.out 1; have hfz18_0 := blk_frozen BK173.out 0; have hfz18_1 := blk_frozen BK173.out 1))
      go_ret
      exact ⟨ze, zw1 HB.out GE173.out⟩
     ·rw [if_neg c16] at H
      have c16b0 : decide (0 < (l0_1.length : Int)) = false := decide_eq_false c16
      have c16b1 : decide (0 < l0_1.length) = false := decide_eq_false (by omega)
      clear c16
      replace H := Option.bind_eq_some_iff.mp H
      obtain ⟨t175, A190, H⟩ := H
      replace H : (some (!t175)) = some r := H
      have A19 := Aside0.mk A190
      clear A190
      obtain rfl := Option.some.inj H
      go_enter Try.func109, Try.ntmps109
      go_wp2_with (first | ((with_reducible refine gate_dst (N := 1) rfl ?_); (try (refine gate_guard (by rfl) ?_; dsimp only)); refine zbox (N := 1) (cs := #[.int .i64 a0_0, .slice A0_1 l0_1.length c0_1]) (t := 76) ?_; intro gb173 hg w20 hbox hb; have n0_ := Aside0.mk (below_step (zw0 HB.out) hb); have BK173 := Aside0.mk (hbox); have GW173 := Aside0.mk (zg hg (below_size (zw0 HB.out))); have GE173 := GW173; clear HB; have HB := n0_; clear n0_; clear hb hbox hg; have hcz21_0 := zc BK173.out 0; have hcz21_1 := zc BK173.out 1; have hfz21_0 := blk_frozen BK173.out 0; have hfz21_1 := blk_frozen BK173.out 1) | ((with_reducible refine gate_callee (f := 122) rfl ?_); refine zgo (some 30) Try.func122 #[.slice A0_1 l0_1.length c0_1, .func (.func 123) #[] #[]] ?_; (with_reducible refine (api_Byte_122.calls _ _ l0_1 123 t175 _ ?side1 ?side2 A19.out).mono ?_); (case side1 => repeat (first | exact (Kd.C_below HR0_1.out HB.out) | (with_reducible refine Kd.C_alloc ?_ _) | (with_reducible refine Kd.C_drewN ?_ _) | (with_reducible refine Kd.C_drew ?_))); (case side2 => exact HC0_1.out); rintro e w22 ⟨rfl, hb⟩; refine ⟨_, rfl, ?_⟩; have n0_ := Aside0.mk (zbb BK173.out hb); have n1_ := Aside0.mk (below_step (zw1 HB.out GE173.out) hb); clear BK173 HB; have BK173 := n0_; have HB := n1_; clear n0_ n1_; (try clear hb); (try clear hb2); (try clear hk); (try clear hi)))
      go_ret
      exact ⟨ze, zw1 HB.out GE173.out⟩

end Go.Proofs.Ytjoplkillkhiaaa.St
