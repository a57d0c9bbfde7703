-- Written by this session's own edition of the print.
import Derived.Test.YtjoplkillkhiaaaMx0
import Derived.Test.YtjoplkillkhiaaaMx3
import Derived.Test.YtjoplkillkhiaaaSq
import Derived.Test.YtjoplkillkhiaaaSq2
namespace Go.Proofs.Ytjoplkillkhiaaa.M
open Go.RowKit Go.Proofs.Ytjoplkillkhiaaa.Fn Go.Proofs.YtjoplkillkhiaaaW.PrintWords Go.Proofs.YtjoplkillkhiaaaW.PrintLast Go.Proofs.YtjoplkillkhiaaaW.PrintMore
attribute [local go_sem] max2_int min2_int max_two min_two max_three min_three max_four min_four   -- for this text's walks alone
set_option linter.unusedVariables false
set_option linter.unusedSimpArgs false

/-! cellarlaw9_pointers -/
mutual
def cellarlaw9_pointers.j0 : Nat → List (S76) → List (S62) → List (List (S76)) → List (S62) → List Int → List (S29) → Option ((List (S62)))
 | 0, _, _, _, _, _, _ => none
 | k + 1, x1, x5, x142000, x142001, x142002, x142003 => cellarlaw9_pointers.l0 k x1 x5 1 x142000 x142001 x142002 x142003
def cellarlaw9_pointers.l0 : Nat → List (S76) → List (S62) → Int → List (List (S76)) → List (S62) → List Int → List (S29) → Option ((List (S62)))
 | 0, _, _, _, _, _, _, _ => none
 | k + 1, x1, x5, x6, x142000, x142001, x142002, x142003 => if x6 < (x1.length : Int) then (if x6 < 7 then (if 0 ≤ x6 then ((some (([(⟨true, 0, x6, 0⟩ : S62), (⟨true, 0, x6, mn (((rd_T76 x1 x6).f1).length : Int) 32⟩ : S62), (⟨true, 0, x6, Int.tmod (wrap64 ((wrap64 (x6 * 3)) + (x142002.length : Int))) 9⟩ : S62)] : List (S62)) : List (S62))).bind fun y152 => (if x5.length + y152.length < 4398046511104 then (cellarlaw9_pointers.l0 k x1 (x5 ++ y152) (wrap64 (x6 + 1)) x142000 x142001 x142002 x142003) else (none))) else (none)) else (some x5)) else (some x5)
end
def cellarlaw9_pointers.f (k : Nat) (l0_0 : List (List (S76))) (l0_1 : List (S62)) (l0_2 : List Int) (l0_3 : List (S29)) (l1 : List (S76)) : Option ((List (S62))) := (some (([(⟨true, 0, 0, 0⟩ : S62), (⟨true, 0, 50, 0⟩ : S62)] : List (S62)) : List (S62))).bind fun y142 => (if y142.length + l0_1.length < 4398046511104 then ((some (y142 ++ l0_1 : List (S62))).bind fun y145 => (if (y145.length : Int) > 7 then (if 7 ≤ (y145.length : Int) then (cellarlaw9_pointers.j0 k l1 (y145.take (7 : Int).toNat) l0_0 l0_1 l0_2 l0_3) else (none)) else (cellarlaw9_pointers.j0 k l1 y145 l0_0 l0_1 l0_2 l0_3))) else (none))
theorem cellarlaw9_pointers.mono_l : ∀ k, (∀ y0 y1 y2 y3 y4 y5, LeO (cellarlaw9_pointers.j0 k y0 y1 y2 y3 y4 y5) (cellarlaw9_pointers.j0 (k + 1) y0 y1 y2 y3 y4 y5)) ∧ (∀ y0 y1 y2 y3 y4 y5 y6, LeO (cellarlaw9_pointers.l0 k y0 y1 y2 y3 y4 y5 y6) (cellarlaw9_pointers.l0 (k + 1) y0 y1 y2 y3 y4 y5 y6))
 | 0 => ⟨fun _ _ _ _ _ _ r h => by simp [cellarlaw9_pointers.j0] at h, fun _ _ _ _ _ _ _ r h => by simp [cellarlaw9_pointers.l0] at h⟩
 | k + 1 => by
  obtain ⟨ih0, ih1⟩ := cellarlaw9_pointers.mono_l k
  refine ⟨?_, ?_⟩
  ·intro y0 y1 y2 y3 y4 y5
   unfold cellarlaw9_pointers.j0
   repeat' first
   | (with_reducible apply ih0)
   | (with_reducible apply ih1)
   | (with_reducible apply LeO.refl)
   | (with_reducible apply LeO.none)
   | (with_reducible refine LeO.ite ?_ ?_)
   | (with_reducible refine LeO.bind ?_ (fun _ => ?_))
  ·intro y0 y1 y2 y3 y4 y5 y6
   unfold cellarlaw9_pointers.l0
   repeat' first
   | (with_reducible apply ih0)
   | (with_reducible apply ih1)
   | (with_reducible apply LeO.refl)
   | (with_reducible apply LeO.none)
   | (with_reducible refine LeO.ite ?_ ?_)
   | (with_reducible refine LeO.bind ?_ (fun _ => ?_))
theorem cellarlaw9_pointers.mono : ∀ a0 a1 a2 a3 a4 k, LeO (cellarlaw9_pointers.f k a0 a1 a2 a3 a4) (cellarlaw9_pointers.f (k + 1) a0 a1 a2 a3 a4) := by
 intro a0 a1 a2 a3 a4 k
 obtain ⟨ih0, ih1⟩ := cellarlaw9_pointers.mono_l k
 unfold cellarlaw9_pointers.f
 repeat' first
   | (with_reducible apply ih0)
   | (with_reducible apply ih1)
   | (with_reducible apply LeO.refl)
   | (with_reducible apply LeO.none)
   | (with_reducible refine LeO.ite ?_ ?_)
   | (with_reducible refine LeO.bind ?_ (fun _ => ?_))
def cellarlaw9_pointers.T7 : Bool × List (List Nat × List Nat) := (true, [([], []), ([], []), ([1], [1]), ([], []), ([], []), ([], []), ([4, 5], [4, 5]), ([6], [6]), ([7], [7]), ([8], [8]), ([9], [9]), ([3, 10], [3, 10]), ([], []), ([], []), ([13], [13]), ([], []), ([15], [15]), ([16], [16]), ([14, 17], [14, 17]), ([18], [18]), ([12, 19], [12, 19]), ([2, 11, 20], [2, 11, 20]), ([0, 21], [0, 21]), ([22, 22, 0, 1, 2, 3, 4, 5, 6, 7, 8, 9, 10, 11, 12, 13, 14, 15, 16, 17, 18, 19, 20, 21, 22], [0, 22])])
def cellarlaw9_pointers.B7 : List Nat := [0, 0, 2, 0, 0, 0, 48, 112, 240, 496, 1008, 2040, 0, 0, 8192, 0, 32768, 98304, 253952, 516096, 1044480, 2097150, 4194303, 8388607]
theorem cellarlaw9_pointers.tab7 : rtab .any (opsOf Try.f29 7) = cellarlaw9_pointers.T7 := by kernel_rfl
theorem cellarlaw9_pointers.bits7 : waitsOk cellarlaw9_pointers.T7.2 cellarlaw9_pointers.B7 = true := by kernel_rfl
set_option maxHeartbeats 8000000 in
set_option maxRecDepth 100000 in
theorem cellarlaw9_pointers.calls (k : Nat) (A0_0 : Option Addr) (c0_0 : Nat) (l0_0 : List (List (S76))) (A0_1 : Option Addr) (c0_1 : Nat) (l0_1 : List (S62)) (A0_2 : Option Addr) (c0_2 : Nat) (l0_2 : List Int) (A0_3 : Option Addr) (c0_3 : Nat) (l0_3 : List (S29)) (A1 : Option Addr) (c1 : Nat) (l1 : List (S76)) (r : List (S62)) (w : World) (hr0_0 : Kd.C (Kd.slice 76 k76) w A0_0 l0_0.length l0_0) (hc0_0 : l0_0.length ≤ c0_0) (hr0_1 : Kd.C k62 w A0_1 l0_1.length l0_1) (hc0_1 : l0_1.length ≤ c0_1) (hr0_2 : Kd.C (Kd.int .i64) w A0_2 l0_2.length l0_2) (hc0_2 : l0_2.length ≤ c0_2) (hr0_3 : Kd.C k29 w A0_3 l0_3.length l0_3) (hc0_3 : l0_3.length ≤ c0_3) (hr1 : Kd.C k76 w A1 l1.length l1) (hc1 : l1.length ≤ c1) (h : cellarlaw9_pointers.f k l0_0 l0_1 l0_2 l0_3 l1 = some r) :
  Calls Try.prog 29 #[.agg #[.slice A0_0 l0_0.length c0_0, .slice A0_1 l0_1.length c0_1, .slice A0_2 l0_2.length c0_2, .slice A0_3 l0_3.length c0_3], .slice A1 l1.length c1] w fun e w' => ∃ v0_ : Value, e = .returned (v0_) ∧ Kd.R k62 62 w' w.heap.size (fun _ => True) v0_ r ∧ Below w.heap.size w w' := by
 have hu54 := Try.underlying54
 have hu62 := Try.underlying62
 have HR0_0 := Aside0.mk hr0_0
 have HC0_0 := Aside0.mk hc0_0
 clear hr0_0 hc0_0
 have HR0_1 := Aside0.mk hr0_1
 have HC0_1 := Aside0.mk hc0_1
 clear hr0_1 hc0_1
 have HR0_2 := Aside0.mk hr0_2
 have HC0_2 := Aside0.mk hc0_2
 clear hr0_2 hc0_2
 have HR0_3 := Aside0.mk hr0_3
 have HC0_3 := Aside0.mk hc0_3
 clear hr0_3 hc0_3
 have HR1 := Aside0.mk hr1
 have HC1 := Aside0.mk hc1
 clear hr1 hc1
 have HB := Aside0.mk (Below.refl w.heap.size w)
 have H : ((some (([(⟨true, 0, 0, 0⟩ : S62), (⟨true, 0, 50, 0⟩ : S62)] : List (S62)) : List (S62))).bind fun y142 => (if y142.length + l0_1.length < 4398046511104 then ((some (y142 ++ l0_1 : List (S62))).bind fun y145 => (if (y145.length : Int) > 7 then (if 7 ≤ (y145.length : Int) then (cellarlaw9_pointers.j0 k l1 (y145.take (7 : Int).toNat) l0_0 l0_1 l0_2 l0_3) else (none)) else (cellarlaw9_pointers.j0 k l1 y145 l0_0 l0_1 l0_2 l0_3))) else (none))) = some r := h
 clear h
 obtain ⟨y142, hy142⟩ : ∃ y_ : List (S62), y_ = (([(⟨true, 0, 0, 0⟩ : S62), (⟨true, 0, 50, 0⟩ : S62)] : List (S62))) := ⟨_, rfl⟩
 replace H : (if y142.length + l0_1.length < 4398046511104 then ((some (y142 ++ l0_1 : List (S62))).bind fun y145 => (if (y145.length : Int) > 7 then (if 7 ≤ (y145.length : Int) then (cellarlaw9_pointers.j0 k l1 (y145.take (7 : Int).toNat) l0_0 l0_1 l0_2 l0_3) else (none)) else (cellarlaw9_pointers.j0 k l1 y145 l0_0 l0_1 l0_2 l0_3))) else (none)) = some r := by first | (rw [hy142]; with_reducible exact H) | (have H2_ := (Option.bind_some _ _).symm.trans H; rw [hy142]; with_reducible exact H2_) | (have H2_ := (Option.bind_some _ _).symm.trans H; with_reducible exact H2_) | with_reducible exact H | (rw [hy142]; exact H) | exact H
 have Ny142 := Aside0.mk hy142
 clear hy142
 by_cases c3 : y142.length + l0_1.length < 4398046511104
 ·rw [if_pos c3] at H
  have LMc3 := Aside0.mk c3
  clear c3
  obtain ⟨y145, hy145⟩ : ∃ y_ : List (S62), y_ = (y142 ++ l0_1) := ⟨_, rfl⟩
  replace H : (if (y145.length : Int) > 7 then (if 7 ≤ (y145.length : Int) then (cellarlaw9_pointers.j0 k l1 (y145.take (7 : Int).toNat) l0_0 l0_1 l0_2 l0_3) else (none)) else (cellarlaw9_pointers.j0 k l1 y145 l0_0 l0_1 l0_2 l0_3)) = some r := by first | (rw [hy145]; with_reducible exact H) | (have H2_ := (Option.bind_some _ _).symm.trans H; rw [hy145]; with_reducible exact H2_) | (have H2_ := (Option.bind_some _ _).symm.trans H; with_reducible exact H2_) | with_reducible exact H | (rw [hy145]; exact H) | exact H
  have Ny145 := Aside0.mk hy145
  clear hy145
  have HC4 := Aside0.mk H
  clear H
  go_enter Try.func29, Try.ntmps29
  go_upto_if 15 with (first | ((with_reducible refine gate_dst (N := 2) rfl ?_); refine zbox (N := 2) (cs := #[.slice A0_0 l0_0.length c0_0, .slice A0_1 l0_1.length c0_1, .slice A0_2 l0_2.length c0_2, .slice A0_3 l0_3.length c0_3]) (t := 54) ?_; intro gb141 hg w5 hbox hb; have n0_ := Aside0.mk (below_step (zw0 HB.out) hb); have BK141 := Aside0.mk (hbox); have GW141 := Aside0.mk (zg hg (below_size (zw0 HB.out))); have GE141 := GW141; clear HB; have HB := n0_; clear n0_; clear hb hbox hg) | ((with_reducible refine gate_dst (N := 9) rfl ?_); refine Kd.R_lit k62 _ 62 ?hg (N := 9) ?hd (xs := ([(⟨true, 0, 0, 0⟩ : S62), (⟨true, 0, 50, 0⟩ : S62)] : List (S62))) (inner := [.bool true, .int .i64 0, .int .i64 0, .int .i64 0, .bool true, .int .i64 0, .int .i64 50, .int .i64 0]) (ok := fun _ => True) (okp := fun _ => True) ?hr ?hp (fun _ hk => hk) trivial (Below.refl _ _) (Nat.le_refl _) (by simp) ?_; (case hd => rfl); (case hg => rfl); (case hr => first | (go_simp; done) | (go_simp; rfl)); (case hp => exact (Reps.c4 (show Kd.M k62 _ _ _ (⟨true, 0, 0, 0⟩ : S62) [.bool true, .int .i64 0, .int .i64 0, .int .i64 0] from (k62_mkM _ _ _ (⟨true, 0, 0, 0⟩ : S62) )) (Reps.c4 (show Kd.M k62 _ _ _ (⟨true, 0, 50, 0⟩ : S62) [.bool true, .int .i64 0, .int .i64 50, .int .i64 0] from (k62_mkM _ _ _ (⟨true, 0, 50, 0⟩ : S62) )) (Reps.none _ _)))); intro v143 w6 ho7 hb hg_ hnew_; clear hg_ hnew_; (first | rw [← Ny142.out] at ho7 | (simp only [Int.reduceToNat] at ho7; rw [← Ny142.out] at ho7)); have HO144 := Aside0.mk (Kd.R_lower ho7 (below_size (zw1 HB.out GE141.out))); have n1_ := Aside0.mk (zbb BK141.out hb); have n2_ := Aside0.mk (below_step (zw1 HB.out GE141.out) hb); clear BK141 HB; have BK141 := n1_; have HB := n2_; clear n1_ n2_; clear hb ho7; have hcz8_0 := zc BK141.out 0; have hcz8_1 := zc BK141.out 1; have hcz8_2 := zc BK141.out 2; have hcz8_3 := zc BK141.out 3; have hfz8_0 := blk_frozen BK141.out 0; have hfz8_1 := blk_frozen BK141.out 1; have hfz8_2 := blk_frozen BK141.out 2; have hfz8_3 := blk_frozen BK141.out 3) | ((with_reducible refine gate_builtin (b := .append) (xs := #[.tmp 9, .tmp 11]) rfl ?_); at_builtin; refine Kd.R_append_rows k62 (w0 := w) w.heap.size rfl (.tmp 9) (.tmp 11) 52 62 (.agg #[(.bool false), (.int .i64 0), (.int .i64 0), (.int .i64 0)]) 32 rfl Try.underlying52 info62 rfl (by decide) (by omega) v143 y142 l0_1 _ _ _ (fun _ => True) (fun _ => False) rfl rfl ?aO ?aR (fun _ _ h => h) (fun _ h => h.elim) ?aF ?aB ?aS ?aL ?_; (case aR => repeat (first | exact (Kd.C_below HR0_1.out HB.out) | (with_reducible refine Kd.C_alloc ?_ _) | (with_reducible refine Kd.C_drewN ?_ _) | (with_reducible refine Kd.C_drew ?_))); (case aB => exact (zw1 HB.out GE141.out)); (case aF => exact (fun _ _ => trivial)); (case aO => exact (by (with_reducible repeat (first | apply Kd.R_alloc | apply Kd.R_drewN | apply Kd.R_drew)); exact HO144.out)); (case aS => exact (below_size (zw1 HB.out GE141.out))); (case aL => have := LMc3.out; omega); intro v146 w9 ho hb hg hat; rw [← Ny145.out] at ho; have n0_ := Aside0.mk (blk_grown (g := gb141) (o := .cells #[.slice A0_0 l0_0.length c0_0, .slice A0_1 l0_1.length c0_1, .slice A0_2 l0_2.length c0_2, .slice A0_3 l0_3.length c0_3] 54 (0, 0)) (zb BK141.out) hg (Kd.R_ne HO144.out BK141.out (by decide))); have n1_ := Aside0.mk (hb); have HO147 := Aside0.mk (ho); clear BK141 HB HO144; have BK141 := n0_; have HB := n1_; clear n0_ n1_; clear ho hb hg hat; obtain ⟨Ao10, co10, eo10⟩ := Kd.R_slice HO147.out; subst eo10))
  (try simp only [Act.put, List.setIfInBounds_toArray, List.set_cons_zero, List.set_cons_succ])
  go_cut [5] (fun v5 wc => ∃ (kq : Nat) (x5_3 : List (S62)), Aside0 (cellarlaw9_pointers.j0 kq l1 x5_3 l0_0 l0_1 l0_2 l0_3 = some r) ∧ Aside0 (kq ≤ k) ∧ Aside0 (Kd.R k62 62 wc w.heap.size (fun _ => True) v5 x5_3) ∧ Aside0 (wc.heap[gb141]? = some (.cells #[(.slice A0_0 l0_0.length c0_0), (.slice A0_1 l0_1.length c0_1), (.slice A0_2 l0_2.length c0_2), (.slice A0_3 l0_3.length c0_3)] 54 (0, 0))) ∧ Aside0 (Below w.heap.size w wc))
  case first =>
   have H := HC4.out
   clear HC4
   by_cases c11 : (y145.length : Int) > 7
   rotate_left
   ·rw [if_neg c11] at H
    have c11b0 : decide (7 < (y145.length : Int)) = false := decide_eq_false c11
    have c11b1 : decide (7 < y145.length) = false := decide_eq_false (by omega)
    clear c11
    (first | rw [c11b0] | (simp only [i64_w, i32_w]; rw [c11b0]) | skip)
    have H' := Aside0.mk H
    clear H
    go_wp2
    go_meet
    case rel => exact ⟨_, (y145), H', ⟨by first | omega | exact Nat.le_refl _⟩, ⟨by (with_reducible repeat (first | apply Kd.R_alloc | apply Kd.R_drewN | apply Kd.R_drew)); exact HO147.out⟩, ⟨zb BK141.out⟩, ⟨zw1 HB.out GE141.out⟩⟩
   rw [if_pos c11] at H
   have c11b0 : decide (7 < (y145.length : Int)) = true := decide_eq_true c11
   have c11b1 : decide (7 < y145.length) = true := decide_eq_true (by omega)
   clear c11
   (first | rw [c11b0] | (simp only [i64_w, i32_w]; rw [c11b0]) | skip)
   by_cases c12 : 7 ≤ (y145.length : Int)
   rotate_left
   ·rw [if_neg c12] at H
    exact absurd H (by simp)
   rw [if_pos c12] at H
   have c12b0 := eq_true c12
   have c12b1 : decide (7 ≤ (y145.length : Int)) = true := decide_eq_true c12
   clear c12
   obtain ⟨y148, hy148⟩ : ∃ y_ : List (S62), y_ = (y145.take (7 : Int).toNat) := ⟨_, rfl⟩
   replace H : (cellarlaw9_pointers.j0 k l1 y148 l0_0 l0_1 l0_2 l0_3) = some r := by first | (rw [hy148]; with_reducible exact H) | (have H2_ := (Option.bind_some _ _).symm.trans H; rw [hy148]; with_reducible exact H2_) | (have H2_ := (Option.bind_some _ _).symm.trans H; with_reducible exact H2_) | with_reducible exact H | (rw [hy148]; exact H) | exact H
   have Ny148 := Aside0.mk hy148
   clear hy148
   have H' := Aside0.mk H
   clear H
   have q13 : (7 : Int) ≤ ((y145.length : Int) : Int) := zdec
   obtain ⟨i013, hi013, _, hsz13, _⟩ := info_parts info62
   have hcut13 := cut_to (P := Try.prog) 52 62 .i64 Try.underlying52 hi013 Ao10 y145.length co10 7 (by omega) q13 (Kd.R_reads' HO147.out).2.1
   have hr13 := Kd.R_take (m := (7 : Int).toNat) HO147.out (by omega)
   have hy13 : y148.length = (7 : Int).toNat := (by rw [Ny148.out, List.length_take]; omega)
   rw [← Ny148.out] at hr13
   rw [← hy13] at hr13 hcut13
   clear hy13 hi013 hsz13 HO147
   have HO150 := Aside0.mk hr13
   clear hr13
   replace q13 := eq_true q13
   go_wp2
   go_meet
   case rel => exact ⟨_, (y148), H', ⟨by first | omega | exact Nat.le_refl _⟩, ⟨by (with_reducible repeat (first | apply Kd.R_alloc | apply Kd.R_drewN | apply Kd.R_drew)); exact HO150.out⟩, ⟨zb BK141.out⟩, ⟨zw1 HB.out GE141.out⟩⟩
  case rest =>
   clear HC4
   try clear c1; try clear q1; try clear c2; try clear p2; try clear c3; try clear c4; try clear c11; try clear c11b0; try clear c11b1; try clear c12; try clear c12b0; try clear c12b1; try clear q13; try clear q13
   obtain ⟨kq, x5_3, HA, HJ3, HO_5, BK141, HB⟩ := hcut
   cases kq with
   | zero => exact absurd HA.out (by simp [cellarlaw9_pointers.j0])
   | succ kj3 =>
    have H := HA.out
    clear HA
    simp only [cellarlaw9_pointers.j0] at H
    have H' := Aside0.mk H
    clear H
    go_wp2
    go_loopg [5, 6] kj3 (fun kq v5 v6 w' => ∃ (x5_2 : List (S62)) (x6_2 : Int), v6 = .int .i64 x6_2 ∧ Aside0 (cellarlaw9_pointers.l0 kq l1 x5_2 x6_2 l0_0 l0_1 l0_2 l0_3 = some r) ∧ Aside0 (kq ≤ kj3) ∧ Aside0 (Kd.R k62 62 w' w.heap.size (fun _ => True) v5 x5_2) ∧ Aside0 (w'.heap[gb141]? = some (.cells #[(.slice A0_0 l0_0.length c0_0), (.slice A0_1 l0_1.length c0_1), (.slice A0_2 l0_2.length c0_2), (.slice A0_3 l0_3.length c0_3)] 54 (0, 0))) ∧ Aside0 (Below w.heap.size w w'))
    case atStart => exact ⟨(x5_3), (1), (zr), H', ⟨Nat.le_refl _⟩, ⟨by (with_reducible repeat (first | apply Kd.R_alloc | apply Kd.R_drewN | apply Kd.R_drew)); exact HO_5.out⟩, ⟨zb BK141.out⟩, ⟨zw1 HB.out GE141.out⟩⟩
    case round =>
     clear H'
     try clear c1; try clear q1; try clear c2; try clear p2; try clear c3; try clear c4; try clear c11; try clear c11b0; try clear c11b1; try clear c12; try clear c12b0; try clear c12b1; try clear q13; try clear p2; try clear q1; try clear q13
     obtain ⟨x5_2, x6_2, rfl, HA, HK2, HO_5, BK141, HB⟩ := hrel
     cases gk with
     | zero => exact absurd HA.out (by simp [cellarlaw9_pointers.l0])
     | succ k2 =>
      have H := HA.out
      clear HA
      simp only [cellarlaw9_pointers.l0] at H
      by_cases c14 : x6_2 < (l1.length : Int)
      rotate_left
      ·rw [if_neg c14] at H
       have c14b0 : decide (x6_2 < (l1.length : Int)) = false := decide_eq_false c14
       clear c14
       obtain rfl := Option.some.inj H
       go_wp2
       go_ret
       exact ⟨_, ze, by (with_reducible repeat (first | apply Kd.R_alloc | apply Kd.R_drewN | apply Kd.R_drew)); exact HO_5.out, zw1 HB.out GE141.out⟩
      rw [if_pos c14] at H
      have c14b0 : decide (x6_2 < (l1.length : Int)) = true := decide_eq_true c14
      clear c14
      by_cases c15 : x6_2 < 7
      rotate_left
      ·rw [if_neg c15] at H
       have c15b0 : decide (x6_2 < 7) = false := decide_eq_false c15
       clear c15
       obtain rfl := Option.some.inj H
       go_wp2
       go_ret
       exact ⟨_, ze, by (with_reducible repeat (first | apply Kd.R_alloc | apply Kd.R_drewN | apply Kd.R_drew)); exact HO_5.out, zw1 HB.out GE141.out⟩
      rw [if_pos c15] at H
      have c15b0 : decide (x6_2 < 7) = true := decide_eq_true c15
      clear c15
      by_cases c16 : 0 ≤ x6_2
      rotate_left
      ·rw [if_neg c16] at H
       exact absurd H (by simp)
      rw [if_pos c16] at H
      have c16b0 : decide (0 ≤ x6_2) = true := decide_eq_true c16
      clear c16
      obtain ⟨ji17, hji17⟩ : ∃ j_ : Int, (mn (((rd_T76 l1 x6_2).f1).length : Int) 32) = j_ := ⟨_, rfl⟩
      replace H : ((some (([(⟨true, 0, x6_2, 0⟩ : S62), (⟨true, 0, x6_2, ji17⟩ : S62), (⟨true, 0, x6_2, Int.tmod (wrap64 ((wrap64 (x6_2 * 3)) + (l0_2.length : Int))) 9⟩ : S62)] : List (S62)) : List (S62))).bind fun y152 => (if x5_2.length + y152.length < 4398046511104 then (cellarlaw9_pointers.l0 k2 l1 (x5_2 ++ y152) (wrap64 (x6_2 + 1)) l0_0 l0_1 l0_2 l0_3) else (none))) = some r := by first | (rw [hji17] at H; exact H) | (simp only [hji17] at H ⊢; exact H)
      have hji17_ : (if 32 < (((rd_T76 l1 x6_2).f1).length : Int) then 32 else (((rd_T76 l1 x6_2).f1).length : Int)) = ji17 := hji17
      obtain ⟨y152, hy152⟩ : ∃ y_ : List (S62), y_ = (([(⟨true, 0, x6_2, 0⟩ : S62), (⟨true, 0, x6_2, ji17⟩ : S62), (⟨true, 0, x6_2, Int.tmod (wrap64 ((wrap64 (x6_2 * 3)) + (l0_2.length : Int))) 9⟩ : S62)] : List (S62))) := ⟨_, rfl⟩
      replace H : (if x5_2.length + y152.length < 4398046511104 then (cellarlaw9_pointers.l0 k2 l1 (x5_2 ++ y152) (wrap64 (x6_2 + 1)) l0_0 l0_1 l0_2 l0_3) else (none)) = some r := by first | (rw [hy152]; with_reducible exact H) | (have H2_ := (Option.bind_some _ _).symm.trans H; rw [hy152]; with_reducible exact H2_) | (have H2_ := (Option.bind_some _ _).symm.trans H; with_reducible exact H2_) | with_reducible exact H | (rw [hy152]; exact H) | exact H
      have Ny152 := Aside0.mk hy152
      clear hy152
      by_cases c18 : x5_2.length + y152.length < 4398046511104
      rotate_left
      ·rw [if_neg c18] at H
       exact absurd H (by simp)
      rw [if_pos c18] at H
      have LMc18 := Aside0.mk c18
      clear c18
      obtain ⟨y155, hy155⟩ : ∃ y_ : List (S62), y_ = (x5_2 ++ y152) := ⟨_, rfl⟩
      replace H : (cellarlaw9_pointers.l0 k2 l1 y155 (wrap64 (x6_2 + 1)) l0_0 l0_1 l0_2 l0_3) = some r := by first | (rw [hy155]; with_reducible exact H) | (have H2_ := (Option.bind_some _ _).symm.trans H; rw [hy155]; with_reducible exact H2_) | (have H2_ := (Option.bind_some _ _).symm.trans H; with_reducible exact H2_) | with_reducible exact H | (rw [hy155]; exact H) | exact H
      have Ny155 := Aside0.mk hy155
      clear hy155
      have H' := Aside0.mk H
      clear H
      try go_wp2
      have n0_ := Aside0.mk (Kd.R_drew HO_5.out)
      have n1_ := Aside0.mk (blk_drew BK141.out)
      have n2_ := Aside0.mk (below_drew1 HB.out)
      clear HO_5
      clear BK141
      clear HB
      have HO_5 := n0_
      have BK141 := n1_
      have HB := n2_
      clear n0_ n1_ n2_
      have p151 : 0 ≤ (x6_2 : Int) := zdec
      have q151 : x6_2 < (l1.length : Int) := zdec
      obtain ⟨ad151, A151_1, c151_1, e151, hx151_0, hx151_1, hl151_1, hi151_1⟩ := at_T76 HR1.out x6_2 p151 q151
      have hw151_1 := hx151_1
      have hw151_0 := hx151_0
      cases e151
      replace hx151_0 := zh HB.out hx151_0
      replace hx151_1 := zh HB.out hx151_1
      have HR151_1 := Aside0.mk hi151_1
      have HC151_1 := Aside0.mk hl151_1
      clear hi151_1 hl151_1
      replace p151 := eq_true p151
      replace q151 := eq_true q151
      refine start_ (n := 24) (S := fun w' => w'.cell? ⟨gb141, 0, none⟩ = some (.slice A0_0 l0_0.length c0_0) ∧ w'.cell? ⟨gb141, 1, none⟩ = some (.slice A0_1 l0_1.length c0_1) ∧ w'.cell? ⟨gb141, 2, none⟩ = some (.slice A0_2 l0_2.length c0_2) ∧ w'.cell? ⟨gb141, 3, none⟩ = some (.slice A0_3 l0_3.length c0_3) ∧ w'.cell? (ad151.add ((x6_2).toNat * 2)) = some (.int .i64 ((rd_T76 l1 x6_2).f0)) ∧ w'.cell? ⟨(ad151.add ((x6_2).toNat * 2)).block, (ad151.add ((x6_2).toNat * 2)).off + 1, none⟩ = some (.slice A151_1 ((rd_T76 l1 x6_2).f1).length c151_1)) (ds := []) #[false,false,false,false,false,false,false,false,false,false,false,false,false,false,false,false,false,false,false,false,false,false,false,false] (by kernel_rfl) rfl rfl ⟨(blk_cell BK141.out 0).trans rfl, (blk_cell BK141.out 1).trans rfl, (blk_cell BK141.out 2).trans rfl, (blk_cell BK141.out 3).trans rfl, ((HB.out.cell (World.block_lt_of_cell? w _ hw151_0)).trans hw151_0), ((HB.out.cell (World.block_lt_of_cell? w _ hw151_1)).trans hw151_1)⟩ (fun hHeld => ?_); refine with_tabW cellarlaw9_pointers.tab7 cellarlaw9_pointers.bits7 (fun HT_ HW_ => ?_)
      generalize wr.drew = w19 at HO_5 BK141 HB HR151_1 hx151_0 hx151_1 hHeld ⊢
      refine zp (i := 0) (N := some 28) #[true,false,false,false,false,false,false,false,false,false,false,false,false,false,false,false,false,false,false,false,false,false,false,false] (any_of HT_.out (by kernel_rfl)) ?_
      refine zp (i := 1) (N := some 29) #[true,true,false,false,false,false,false,false,false,false,false,false,false,false,false,false,false,false,false,false,false,false,false,false] (any_of HT_.out (by kernel_rfl)) ?_
      refine zp (i := 2) (N := some 30) #[true,true,true,false,false,false,false,false,false,false,false,false,false,false,false,false,false,false,false,false,false,false,false,false] (any_of HT_.out (by kernel_rfl)) ?_
      refine zp (i := 3) (N := some 31) #[true,true,true,true,false,false,false,false,false,false,false,false,false,false,false,false,false,false,false,false,false,false,false,false] (any_of HT_.out (by kernel_rfl)) ?_
      refine zp (i := 4) (N := some 32) #[true,true,true,true,true,false,false,false,false,false,false,false,false,false,false,false,false,false,false,false,false,false,false,false] (any_of HT_.out (by kernel_rfl)) ?_
      refine zp (i := 5) (N := some 33) #[true,true,true,true,true,true,false,false,false,false,false,false,false,false,false,false,false,false,false,false,false,false,false,false] (any_of HT_.out (by kernel_rfl)) ?_
      refine zp (i := 6) (N := some 34) #[true,true,true,true,true,true,true,false,false,false,false,false,false,false,false,false,false,false,false,false,false,false,false,false] (any_of HT_.out (by kernel_rfl)) ?_
      refine zp (i := 7) (N := some 35) #[true,true,true,true,true,true,true,true,false,false,false,false,false,false,false,false,false,false,false,false,false,false,false,false] (any_of HT_.out (by kernel_rfl)) ?_
      refine zp (i := 12) (N := some 40) #[true,true,true,true,true,true,true,true,false,false,false,false,true,false,false,false,false,false,false,false,false,false,false,false] (any_of HT_.out (by kernel_rfl)) ?_
      refine zp (i := 13) (N := some 41) #[true,true,true,true,true,true,true,true,false,false,false,false,true,true,false,false,false,false,false,false,false,false,false,false] (any_of HT_.out (by kernel_rfl)) ?_
      refine zp (i := 14) (N := some 42) #[true,true,true,true,true,true,true,true,false,false,false,false,true,true,true,false,false,false,false,false,false,false,false,false] (any_of HT_.out (by kernel_rfl)) ?_
      refine zp (i := 15) (N := some 43) #[true,true,true,true,true,true,true,true,false,false,false,false,true,true,true,true,false,false,false,false,false,false,false,false] (any_of HT_.out (by kernel_rfl)) ?_
      refine take_ (i := 8) (N := some 36) (v := ?_) (a' := ?_) #[true,true,true,true,true,true,true,true,true,false,false,false,true,true,true,true,false,false,false,false,false,false,false,false] rfl rfl (take_ofW HT_.out HW_.out (by kernel_rfl)) (fun _ _ _ h => h) (Or.inl ⟨by rfl, ?_⟩) hHeld ?_ ?_
      rotate_left
      ·rintro w' ⟨s0, s1, s2, s3, s4, s5⟩
       go_simp
       with_reducible rfl
      rotate_left
      ·simp only [Act.put, List.setIfInBounds_toArray, List.set_cons_zero, List.set_cons_succ, i64_w, i32_w]
       rfl
      refine zp (i := 9) (N := some 37) #[true,true,true,true,true,true,true,true,true,true,false,false,true,true,true,true,false,false,false,false,false,false,false,false] (any_of HT_.out (by kernel_rfl)) ?_
      refine zp (i := 10) (N := some 38) #[true,true,true,true,true,true,true,true,true,true,true,false,true,true,true,true,false,false,false,false,false,false,false,false] (any_of HT_.out (by kernel_rfl)) ?_
      refine zp (i := 11) (N := some 39) #[true,true,true,true,true,true,true,true,true,true,true,true,true,true,true,true,false,false,false,false,false,false,false,false] (any_of HT_.out (by kernel_rfl)) ?_
      refine take_ (i := 16) (N := some 44) (v := ?_) (a' := ?_) #[true,true,true,true,true,true,true,true,true,true,true,true,true,true,true,true,true,false,false,false,false,false,false,false] rfl rfl (take_ofW HT_.out HW_.out (by kernel_rfl)) (fun _ _ _ h => h) (Or.inl ⟨by rfl, ?_⟩) hHeld ?_ ?_
      rotate_left
      ·rintro w' ⟨s0, s1, s2, s3, s4, s5⟩
       go_simp
       with_reducible rfl
      rotate_left
      ·simp only [Act.put, List.setIfInBounds_toArray, List.set_cons_zero, List.set_cons_succ, i64_w, i32_w]
       rfl
      refine zp (i := 17) (N := some 45) #[true,true,true,true,true,true,true,true,true,true,true,true,true,true,true,true,true,true,false,false,false,false,false,false] (any_of HT_.out (by kernel_rfl)) ?_
      refine zp (i := 18) (N := some 46) #[true,true,true,true,true,true,true,true,true,true,true,true,true,true,true,true,true,true,true,false,false,false,false,false] (any_of HT_.out (by kernel_rfl)) ?_
      refine zp (i := 19) (N := some 47) #[true,true,true,true,true,true,true,true,true,true,true,true,true,true,true,true,true,true,true,true,false,false,false,false] (any_of HT_.out (by kernel_rfl)) ?_
      refine zp (i := 20) (N := some 48) #[true,true,true,true,true,true,true,true,true,true,true,true,true,true,true,true,true,true,true,true,true,false,false,false] (any_of HT_.out (by kernel_rfl)) ?_
      refine one_ (i := 21) (N := some 49) #[true,true,true,true,true,true,true,true,true,true,true,true,true,true,true,true,true,true,true,true,true,true,false,false] rfl rfl (one_of HT_.out (by kernel_rfl)) (by decide) (fun K hK => ?_)
      refine Kd.R_lit_step k62 _ 62 ?hg (N := 49) ?hd (xs := ([(⟨true, 0, x6_2, 0⟩ : S62), (⟨true, 0, x6_2, ji17⟩ : S62), (⟨true, 0, x6_2, Int.tmod (wrap64 ((wrap64 (x6_2 * 3)) + (l0_2.length : Int))) 9⟩ : S62)] : List (S62))) (inner := [.bool true, .int .i64 0, .int .i64 x6_2, .int .i64 0, .bool true, .int .i64 0, .int .i64 x6_2, .int .i64 ji17, .bool true, .int .i64 0, .int .i64 x6_2, .int .i64 (Int.tmod (wrap64 ((wrap64 (x6_2 * 3)) + (l0_2.length : Int))) 9)]) (ok := fun _ => True) (okp := fun _ => True) ?hr ?hp (fun _ hk => hk) trivial (Below.refl _ _) (Nat.le_refl _) (by simp) ?_; (case hd => rfl); (case hg => rfl); (case hr => first | (go_simp; done) | (go_simp; rfl)); (case hp => exact (Reps.c4 (show Kd.M k62 _ _ _ (⟨true, 0, x6_2, 0⟩ : S62) [.bool true, .int .i64 0, .int .i64 x6_2, .int .i64 0] from (k62_mkM _ _ _ (⟨true, 0, x6_2, 0⟩ : S62) )) (Reps.c4 (show Kd.M k62 _ _ _ (⟨true, 0, x6_2, ji17⟩ : S62) [.bool true, .int .i64 0, .int .i64 x6_2, .int .i64 ji17] from (k62_mkM _ _ _ (⟨true, 0, x6_2, ji17⟩ : S62) )) (Reps.c4 (show Kd.M k62 _ _ _ (⟨true, 0, x6_2, Int.tmod (wrap64 ((wrap64 (x6_2 * 3)) + (l0_2.length : Int))) 9⟩ : S62) [.bool true, .int .i64 0, .int .i64 x6_2, .int .i64 (Int.tmod (wrap64 ((wrap64 (x6_2 * 3)) + (l0_2.length : Int))) 9)] from (k62_mkM _ _ _ (⟨true, 0, x6_2, Int.tmod (wrap64 ((wrap64 (x6_2 * 3)) + (l0_2.length : Int))) 9⟩ : S62) )) (Reps.none _ _)))))
      intro v153 w20 ho21 hb hg_ hnew_
      clear hg_ hnew_
      (first | rw [← Ny152.out] at ho21 | (simp only [Int.reduceToNat] at ho21; rw [← Ny152.out] at ho21))
      have n0_ := Aside0.mk (Kd.R_elder' (by (with_reducible repeat (first | apply Kd.R_alloc | apply Kd.R_drewN | apply Kd.R_drew)); exact HO_5.out) (Kd.R_base ho21) hb)
      have n1_ := Aside0.mk (Kd.R_lower (Kd.R_new' ho21 (Kd.R_lt (by (with_reducible repeat (first | apply Kd.R_alloc | apply Kd.R_drewN | apply Kd.R_drew)); exact HO_5.out))) (below_size (zw1 HB.out GE141.out)))
      have n2_ := Aside0.mk (zbb BK141.out hb)
      have n3_ := Aside0.mk (below_step (zw1 HB.out GE141.out) hb)
      clear HO_5
      clear BK141
      clear HB
      have HO_5 := n0_
      have HO154 := n1_
      have BK141 := n2_
      have HB := n3_
      clear n0_ n1_ n2_ n3_
      clear hb ho21
      obtain ⟨Ao23, co23, eo23⟩ := Kd.R_slice HO154.out
      (first | subst eo23 | (injection eo23 with f1_ f2_ f3_; have f4_ := f1_.symm; have f5_ := f3_.symm; clear f1_ f2_ f3_; subst f4_; subst f5_))
      refine hK.out _ _ ⟨(blk_cell BK141.out 0).trans rfl, (blk_cell BK141.out 1).trans rfl, (blk_cell BK141.out 2).trans rfl, (blk_cell BK141.out 3).trans rfl, ((HB.out.cell (World.block_lt_of_cell? w _ hw151_0)).trans hw151_0), ((HB.out.cell (World.block_lt_of_cell? w _ hw151_1)).trans hw151_1)⟩ (fun hHeld => ?_)
      clear hK K
      refine norm_ (a' := ?_) ?_ ?_
      rotate_left
      ·show Act.put _ (some 49) _ = _
       simp only [Act.put, List.setIfInBounds_toArray, List.set_cons_zero, List.set_cons_succ, i64_w, i32_w]
       rfl
      refine one_ (i := 22) (N := some 50) #[true,true,true,true,true,true,true,true,true,true,true,true,true,true,true,true,true,true,true,true,true,true,true,false] rfl rfl (one_of HT_.out (by kernel_rfl)) (by decide) (fun K hK => ?_)
      refine Kd.R_append_rows_step k62 (w0 := w) w.heap.size (by rfl) (.tmp 28) (.tmp 49) 52 62 (.agg #[(.bool false), (.int .i64 0), (.int .i64 0), (.int .i64 0)]) 32 rfl Try.underlying52 info62 rfl (by decide) (by omega) u5 x5_2 y152 _ _ _ (fun k_ => some k_ ≠ (.slice Ao23 y152.length co23 : Value).ownBlock) (fun _ => False) rfl rfl ?aO ?aR (fun _ _ h => h) (fun _ h => h.elim) ?aF ?aB ?aS ?aL ?_
      (case aR => repeat (first | exact (Kd.R_reads' HO154.out).2.2 | (with_reducible refine Kd.C_alloc ?_ _) | (with_reducible refine Kd.C_drewN ?_ _) | (with_reducible refine Kd.C_drew ?_)))
      (case aB => exact (zw1 HB.out GE141.out))
      (case aF => exact (fun k_ hk => Kd.fresh' (Kd.R_lt (by (with_reducible repeat (first | apply Kd.R_alloc | apply Kd.R_drewN | apply Kd.R_drew)); exact HO154.out)) k_ hk))
      (case aO => exact (by (with_reducible repeat (first | apply Kd.R_alloc | apply Kd.R_drewN | apply Kd.R_drew)); exact Kd.R_mono HO_5.out (fun _ hk => hk.2)))
      (case aS => exact (below_size (zw1 HB.out GE141.out)))
      (case aL => have := LMc18.out; omega)
      intro v156 w22 ho hb hg hat
      rw [← Ny155.out] at ho
      have n0_ := Aside0.mk (blk_grown (g := gb141) (o := .cells #[.slice A0_0 l0_0.length c0_0, .slice A0_1 l0_1.length c0_1, .slice A0_2 l0_2.length c0_2, .slice A0_3 l0_3.length c0_3] 54 (0, 0)) (zb BK141.out) hg (Kd.R_ne HO_5.out BK141.out (by decide)))
      have n1_ := Aside0.mk (Kd.R_after (ok := (fun _ => True)) (by (with_reducible repeat (first | apply Kd.R_alloc | apply Kd.R_drewN | apply Kd.R_drew)); exact HO154.out) hg hat)
      have n2_ := Aside0.mk (hb)
      have n3_ := Aside0.mk (ho)
      clear BK141
      clear HO154
      clear HB
      clear HO_5
      have BK141 := n0_
      have HO154 := n1_
      have HB := n2_
      have HO157 := n3_
      clear n0_ n1_ n2_ n3_
      clear ho hb hg hat
      refine hK.out _ _ ⟨(blk_cell BK141.out 0).trans rfl, (blk_cell BK141.out 1).trans rfl, (blk_cell BK141.out 2).trans rfl, (blk_cell BK141.out 3).trans rfl, ((HB.out.cell (World.block_lt_of_cell? w _ hw151_0)).trans hw151_0), ((HB.out.cell (World.block_lt_of_cell? w _ hw151_1)).trans hw151_1)⟩ (fun hHeld => ?_)
      clear hK K
      refine norm_ (a' := ?_) ?_ ?_
      rotate_left
      ·show Act.put _ (some 50) _ = _
       simp only [Act.put, List.setIfInBounds_toArray, List.set_cons_zero, List.set_cons_succ, i64_w, i32_w]
       rfl
      refine zp (i := 23) (N := some 5) #[true,true,true,true,true,true,true,true,true,true,true,true,true,true,true,true,true,true,true,true,true,true,true,true] (any_of HT_.out (by kernel_rfl)) ?_
      refine done_ (done_of HT_.out (by kernel_rfl)) ?_
      try go_wp2
      go_roundg k2
      case measure => have := HJ3.out; have := HK2.out; omega
      case rel => exact ⟨(y155), (wrap64 (x6_2 + 1)), (zr), H', ⟨by have := HJ3.out; have := HK2.out; omega⟩, ⟨by (with_reducible repeat (first | apply Kd.R_alloc | apply Kd.R_drewN | apply Kd.R_drew)); exact Kd.R_mono HO157.out (fun _ hk => trivial)⟩, ⟨zb BK141.out⟩, ⟨zw1 HB.out GE141.out⟩⟩
 ·rw [if_neg c3] at H
  exact absurd H (by simp)

/-! cellarref1_Number -/
def cellarref1_Number.f (a0 : Int) (a1 : Int) : Option (Bool) := if 0 ≤ a1 then ((cellarref0_Num.f a0 (wrap64 ((shl .i64 1 a1) - 1))).bind fun t158 => (some t158)) else (none)
set_option maxHeartbeats 8000000 in
set_option maxRecDepth 100000 in
theorem cellarref1_Number.calls (a0 : Int) (a1 : Int) (r : Bool) (w : World) (h : cellarref1_Number.f a0 a1 = some r) :
  Calls Try.prog 46 #[.int .i64 a0, .int .i64 a1] w fun e w' => e = .returned (.bool r) ∧ Drawn0 w w' := by
 have H : (if 0 ≤ a1 then ((cellarref0_Num.f a0 (wrap64 ((shl .i64 1 a1) - 1))).bind fun t158 => (some t158)) else (none)) = some r := h
 clear h
 by_cases c3 : 0 ≤ a1
 ·rw [if_pos c3] at H
  have c3b0 := eq_true c3
  have c3b1 : decide (0 ≤ a1) = true := decide_eq_true c3
  clear c3
  obtain ⟨ji4, hji4⟩ : ∃ j_ : Int, (shl .i64 1 a1) = j_ := ⟨_, rfl⟩
  replace H : ((cellarref0_Num.f a0 (wrap64 ((ji4) - 1))).bind fun t158 => (some t158)) = some r := by first | (rw [hji4] at H; exact H) | (simp only [hji4] at H ⊢; exact H)
  have hji4_ : (IntKind.i64.wrap (1 * 2 ^ min a1.toNat 64)) = ji4 := hji4
  have hji4z : a1 ≤ 64 → (IntKind.i64.wrap (1 * 2 ^ a1.toNat)) = ji4 := shl_small hji4
  have hji4u : (IntKind.i64.wrap (2 ^ min a1.toNat 64)) = ji4 := by have h_ := hji4_; rw [Int.one_mul] at h_; exact h_
  have hji4v : a1 ≤ 64 → (IntKind.i64.wrap (2 ^ a1.toNat)) = ji4 := fun hle_ => by have h_ := hji4z hle_; rw [Int.one_mul] at h_; exact h_
  have hji4y : (wrap64 (1 * 2 ^ min a1.toNat 64)) = ji4 := (i64_w _).symm.trans hji4_
  have hji4x : a1 ≤ 64 → (wrap64 (1 * 2 ^ a1.toNat)) = ji4 := fun h_ => (i64_w _).symm.trans (hji4z h_)
  replace H := Option.bind_eq_some_iff.mp H
  obtain ⟨t158, A50, H⟩ := H
  replace H : (some t158) = some r := H
  have A5 := Aside0.mk A50
  clear A50
  obtain rfl := Option.some.inj H
  go_enter Try.func46, Try.ntmps46
  go_wp2_with (first | ((with_reducible refine gate_callee (f := 18) rfl ?_); refine goesL_ (some 9) rfl rfl Try.func18 (by kernel_rfl) rfl #[.int .i64 a0, .int .i64 (wrap64 ((ji4) - 1))] rfl (by (try simp only [List.map_toArray, List.map_cons, List.map_nil]); first | done | (simp only [hji4]; rfl) | rfl | (simp only [List.length_drop, List.length_take]; rfl)) ?_; (with_reducible refine (cellarref0_Num.calls a0 (wrap64 ((ji4) - 1)) t158 _ A5.out).mono ?_); rintro e w' ⟨rfl, ⟨nd, rfl⟩⟩; refine ⟨_, rfl, ?_⟩))
  go_ret
  exact ⟨by first | rfl | (simp; done) | (simp only [← hji4] <;> (first | rfl | simp)) | (simp [*]; done), by repeat (first | exact Drawn0.refl _ | apply Drawn0.step)⟩
 ·rw [if_neg c3] at H
  exact absurd H (by simp)

/-! cellarref1_Width -/
mutual
def cellarref1_Width.j0 : Nat → Int → Bool → Option (Int)
 | 0, _, _ => none
 | k + 1, x3, x4 => if x4 = true then (some 8) else (if x3 = 3 then (cellarref1_Width.j1 k x3 (x3 == 3)) else (cellarref1_Width.j1 k x3 (x3 == 4)))
def cellarref1_Width.j1 : Nat → Int → Bool → Option (Int)
 | 0, _, _ => none
 | k + 1, x3, x7 => if x7 = true then (some 16) else (if x3 = 5 then (some 32) else (if x3 = 6 then (some 32) else (some 0)))
end
def cellarref1_Width.f (k : Nat) (a0 : Int) : Option (Int) := if a0 = 1 then (cellarref1_Width.j0 k a0 (a0 == 1)) else (cellarref1_Width.j0 k a0 (a0 == 2))
theorem cellarref1_Width.mono_l : ∀ k, (∀ y0 y1, LeO (cellarref1_Width.j0 k y0 y1) (cellarref1_Width.j0 (k + 1) y0 y1)) ∧ (∀ y0 y1, LeO (cellarref1_Width.j1 k y0 y1) (cellarref1_Width.j1 (k + 1) y0 y1))
 | 0 => ⟨fun _ _ r h => by simp [cellarref1_Width.j0] at h, fun _ _ r h => by simp [cellarref1_Width.j1] at h⟩
 | k + 1 => by
  obtain ⟨ih0, ih1⟩ := cellarref1_Width.mono_l k
  refine ⟨?_, ?_⟩
  ·intro y0 y1
   unfold cellarref1_Width.j0
   repeat' first
   | (with_reducible apply ih0)
   | (with_reducible apply ih1)
   | (with_reducible apply LeO.refl)
   | (with_reducible apply LeO.none)
   | (with_reducible refine LeO.ite ?_ ?_)
   | (with_reducible refine LeO.bind ?_ (fun _ => ?_))
  ·intro y0 y1
   unfold cellarref1_Width.j1
   repeat' first
   | (with_reducible apply ih0)
   | (with_reducible apply ih1)
   | (with_reducible apply LeO.refl)
   | (with_reducible apply LeO.none)
   | (with_reducible refine LeO.ite ?_ ?_)
   | (with_reducible refine LeO.bind ?_ (fun _ => ?_))
theorem cellarref1_Width.mono : ∀ a0 k, LeO (cellarref1_Width.f k a0) (cellarref1_Width.f (k + 1) a0) := by
 intro a0 k
 obtain ⟨ih0, ih1⟩ := cellarref1_Width.mono_l k
 unfold cellarref1_Width.f
 repeat' first
   | (with_reducible apply ih0)
   | (with_reducible apply ih1)
   | (with_reducible apply LeO.refl)
   | (with_reducible apply LeO.none)
   | (with_reducible refine LeO.ite ?_ ?_)
   | (with_reducible refine LeO.bind ?_ (fun _ => ?_))
set_option maxHeartbeats 8000000 in
set_option maxRecDepth 100000 in
theorem cellarref1_Width.calls (k : Nat) (a0 : Int) (r : Int) (w : World) (h : cellarref1_Width.f k a0 = some r) :
  Calls Try.prog 70 #[.int .i64 a0] w fun e w' => e = .returned (.int .i64 r) ∧ Drawn0 w w' := by
 have H : (if a0 = 1 then (cellarref1_Width.j0 k a0 (a0 == 1)) else (cellarref1_Width.j0 k a0 (a0 == 2))) = some r := h
 clear h
 have HC2 := Aside0.mk H
 clear H
 go_enter Try.func70, Try.ntmps70
 go_upto_if 4 with (fail)
 go_cut [4] (fun v4 wc => ∃ (kq : Nat) (x4_1 : Bool), v4 = .bool x4_1 ∧ Aside0 (cellarref1_Width.j0 kq a0 x4_1 = some r) ∧ Aside0 (kq ≤ k) ∧ Drawn0 w wc)
 case first =>
  have H := HC2.out
  clear HC2
  by_cases c3 : a0 = 1
  rotate_left
  ·rw [if_neg c3] at H
   have c3b0 : (a0 == 1) = false := beq_eq_false_iff_ne.mpr c3
   have c3b1 : (a0 != 1) = true := bne_iff_ne.mpr c3
   (first | rw [c3b0] | (simp only [i64_w, i32_w]; rw [c3b0]) | skip)
   have H' := Aside0.mk H
   clear H
   go_wp2
   go_meet
   case rel => exact ⟨_, ((a0 == 2)), (zr), H', ⟨by first | omega | exact Nat.le_refl _⟩, by repeat (first | exact Drawn0.refl _ | apply Drawn0.step)⟩
  rw [if_pos c3] at H
  have c3b0 : (a0 == 1) = true := beq_iff_eq.mpr c3
  have c3b1 : (a0 != 1) = false := bne_eq_false_iff_eq.mpr c3
  clear c3
  (first | rw [c3b0] | (simp only [i64_w, i32_w]; rw [c3b0]) | skip)
  have H' := Aside0.mk H
  clear H
  go_wp2
  go_meet
  case rel => exact ⟨_, ((a0 == 1)), (zr), H', ⟨by first | omega | exact Nat.le_refl _⟩, by repeat (first | exact Drawn0.refl _ | apply Drawn0.step)⟩
 case rest =>
  clear HC2
  try clear p2; try clear c3; try clear c3b0; try clear c3b1
  obtain ⟨kq, x4_1, rfl, HA, HJ1, ⟨mc1, rfl⟩⟩ := hcut
  cases kq with
  | zero => exact absurd HA.out (by simp [cellarref1_Width.j0])
  | succ kj1 =>
   have H := HA.out
   clear HA
   simp only [cellarref1_Width.j0] at H
   by_cases c4 : x4_1 = true
   ·subst c4
    have H1 : (some 8) = some r := by rw [if_pos rfl] at H; exact H
    clear H
    have H := H1
    clear H1
    obtain rfl := Option.some.inj H
    go_wp2
    go_ret
    exact ⟨zr, by repeat (first | exact Drawn0.refl _ | apply Drawn0.step)⟩
   ·replace c4 := Bool.eq_false_iff.mpr c4
    subst c4
    have H1 : (if a0 = 3 then (cellarref1_Width.j1 kj1 a0 (a0 == 3)) else (cellarref1_Width.j1 kj1 a0 (a0 == 4))) = some r := by rw [if_neg (show ¬ (false = true) by decide)] at H; exact H
    clear H
    have H := H1
    clear H1
    have HC5 := Aside0.mk H
    clear H
    go_upto_if 7 with (fail)
    go_cut [7] (fun v7 wc => ∃ (kq : Nat) (x7_4 : Bool), v7 = .bool x7_4 ∧ Aside0 (cellarref1_Width.j1 kq a0 x7_4 = some r) ∧ Aside0 (kq ≤ kj1) ∧ Drawn0 w wc)
    case first =>
     have H := HC5.out
     clear HC5
     by_cases c6 : a0 = 3
     rotate_left
     ·rw [if_neg c6] at H
      have c6b0 : (a0 == 3) = false := beq_eq_false_iff_ne.mpr c6
      have c6b1 : (a0 != 3) = true := bne_iff_ne.mpr c6
      (first | rw [c6b0] | (simp only [i64_w, i32_w]; rw [c6b0]) | skip)
      have H' := Aside0.mk H
      clear H
      go_wp2
      go_meet
      case rel => exact ⟨_, ((a0 == 4)), (zr), H', ⟨by have := HJ1.out; first | omega | exact Nat.le_refl _⟩, by repeat (first | exact Drawn0.refl _ | apply Drawn0.step)⟩
     rw [if_pos c6] at H
     have c6b0 : (a0 == 3) = true := beq_iff_eq.mpr c6
     have c6b1 : (a0 != 3) = false := bne_eq_false_iff_eq.mpr c6
     clear c6
     (first | rw [c6b0] | (simp only [i64_w, i32_w]; rw [c6b0]) | skip)
     have H' := Aside0.mk H
     clear H
     go_wp2
     go_meet
     case rel => exact ⟨_, ((a0 == 3)), (zr), H', ⟨by have := HJ1.out; first | omega | exact Nat.le_refl _⟩, by repeat (first | exact Drawn0.refl _ | apply Drawn0.step)⟩
    case rest =>
     clear HC5
     try clear c1; try clear p2; try clear c3; try clear c3b0; try clear c3b1; try clear c4; try clear c6; try clear c6b0; try clear c6b1; try clear p2
     obtain ⟨kq, x7_4, rfl, HA, HJ4, ⟨mc4, rfl⟩⟩ := hcut
     cases kq with
     | zero => exact absurd HA.out (by simp [cellarref1_Width.j1])
     | succ kj4 =>
      have H := HA.out
      clear HA
      simp only [cellarref1_Width.j1] at H
      by_cases c7 : x7_4 = true
      ·subst c7
       have H1 : (some 16) = some r := by rw [if_pos rfl] at H; exact H
       clear H
       have H := H1
       clear H1
       obtain rfl := Option.some.inj H
       go_wp2
       go_ret
       exact ⟨zr, by repeat (first | exact Drawn0.refl _ | apply Drawn0.step)⟩
      ·replace c7 := Bool.eq_false_iff.mpr c7
       subst c7
       have H1 : (if a0 = 5 then (some 32) else (if a0 = 6 then (some 32) else (some 0))) = some r := by rw [if_neg (show ¬ (false = true) by decide)] at H; exact H
       clear H
       have H := H1
       clear H1
       by_cases c8 : a0 = 5
       ·rw [if_pos c8] at H
        have c8b0 : (a0 == 5) = true := beq_iff_eq.mpr c8
        have c8b1 : (a0 != 5) = false := bne_eq_false_iff_eq.mpr c8
        clear c8
        obtain rfl := Option.some.inj H
        go_wp2
        go_ret
        exact ⟨zr, by repeat (first | exact Drawn0.refl _ | apply Drawn0.step)⟩
       ·rw [if_neg c8] at H
        have c8b0 : (a0 == 5) = false := beq_eq_false_iff_ne.mpr c8
        have c8b1 : (a0 != 5) = true := bne_iff_ne.mpr c8
        by_cases c9 : a0 = 6
        ·rw [if_pos c9] at H
         have c9b0 : (a0 == 6) = true := beq_iff_eq.mpr c9
         have c9b1 : (a0 != 6) = false := bne_eq_false_iff_eq.mpr c9
         clear c9
         obtain rfl := Option.some.inj H
         go_wp2
         go_ret
         exact ⟨zr, by repeat (first | exact Drawn0.refl _ | apply Drawn0.step)⟩
        ·rw [if_neg c9] at H
         have c9b0 : (a0 == 6) = false := beq_eq_false_iff_ne.mpr c9
         have c9b1 : (a0 != 6) = true := bne_iff_ne.mpr c9
         obtain rfl := Option.some.inj H
         go_wp2
         go_ret
         exact ⟨zr, by repeat (first | exact Drawn0.refl _ | apply Drawn0.step)⟩

end Go.Proofs.Ytjoplkillkhiaaa.M
