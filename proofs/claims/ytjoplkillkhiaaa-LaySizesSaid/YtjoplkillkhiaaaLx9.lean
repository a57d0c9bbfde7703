-- Written by this session's own edition of the print.
import Derived.Test.YtjoplkillkhiaaaLx0
import Derived.Test.YtjoplkillkhiaaaLx4
import Derived.Test.YtjoplkillkhiaaaLx6
import Derived.Test.YtjoplkillkhiaaaLx8
import Derived.Test.YtjoplkillkhiaaaUSq
import Derived.Test.YtjoplkillkhiaaaUSq2
namespace Go.Proofs.Ytjoplkillkhiaaa.L
open Go.RowKit Go.Proofs.Ytjoplkillkhiaaa.Fn Go.Proofs.YtjoplkillkhiaaaW.PrintWords Go.Proofs.YtjoplkillkhiaaaW.PrintLast Go.Proofs.YtjoplkillkhiaaaW.PrintMore
attribute [local go_sem] max2_int min2_int max_two min_two max_three min_three max_four min_four   -- for this text's walks alone
set_option linter.unusedVariables false
set_option linter.unusedSimpArgs false

/-! cellarref7_Offsets -/
def cellarref7_Offsets.l0 : Nat → List (S31) → Int → List Int → List Int → List Int → Int → Int → Option (List Int)
 | 0, _, _, _, _, _, _, _ => none
 | k + 1, x1, x2, x7, x8, x10, x11, x12 => if 0 ≤ x2 then (if x2 < (x1.length : Int) then (if x12 < (((rd_T31 x1 x2).f4).length : Int) then (if 0 ≤ x12 then (if 0 ≤ (rd ((rd_T31 x1 x2).f4) x12) then (if (rd ((rd_T31 x1 x2).f4) x12) < (x8.length : Int) then ((cellarref7_up.f x11 (rd x8 (rd ((rd_T31 x1 x2).f4) x12))).bind fun t314 => (if ((rd_T31 x1 x2).f0) = 10 then (if x10.length < 17592186044416 then (if (rd ((rd_T31 x1 x2).f4) x12) < (x7.length : Int) then (cellarref7_Offsets.l0 k x1 x2 x7 x8 (x10 ++ [0]) (wrap64 (0 + (rd x7 (rd ((rd_T31 x1 x2).f4) x12)))) (wrap64 (x12 + 1))) else (none)) else (none)) else (if x10.length < 17592186044416 then (if (rd ((rd_T31 x1 x2).f4) x12) < (x7.length : Int) then (cellarref7_Offsets.l0 k x1 x2 x7 x8 (x10 ++ [t314]) (wrap64 (t314 + (rd x7 (rd ((rd_T31 x1 x2).f4) x12)))) (wrap64 (x12 + 1))) else (none)) else (none)))) else (none)) else (none)) else (none)) else (some x10)) else (none)) else (none)
def cellarref7_Offsets.f (k : Nat) (a0_0 : Bool) (a0_1 : Int) (l1 : List (S31)) (a2 : Int) : Option (List Int) := (cellarref7_Types.f k a0_0 a0_1 l1).bind fun bt303 => (cellarref7_Offsets.l0 k l1 a2 bt303.1 bt303.2.1 ([] : List Int) 0 0)
theorem cellarref7_Offsets.mono_l : ∀ k, (∀ y0 y1 y2 y3 y4 y5 y6, LeO (cellarref7_Offsets.l0 k y0 y1 y2 y3 y4 y5 y6) (cellarref7_Offsets.l0 (k + 1) y0 y1 y2 y3 y4 y5 y6))
 | 0 => fun _ _ _ _ _ _ _ r h => by simp [cellarref7_Offsets.l0] at h
 | k + 1 => by
  have ih0 := cellarref7_Offsets.mono_l k
  ·intro y0 y1 y2 y3 y4 y5 y6
   unfold cellarref7_Offsets.l0
   repeat' first
   | (with_reducible apply ih0)
   | (with_reducible apply cellarref7_Types.mono)
   | (with_reducible apply LeO.refl)
   | (with_reducible apply LeO.none)
   | (with_reducible refine LeO.ite ?_ ?_)
   | (with_reducible refine LeO.bind ?_ (fun _ => ?_))
theorem cellarref7_Offsets.mono : ∀ a0 a1 a2 a3 k, LeO (cellarref7_Offsets.f k a0 a1 a2 a3) (cellarref7_Offsets.f (k + 1) a0 a1 a2 a3) := by
 intro a0 a1 a2 a3 k
 have ih0 := cellarref7_Offsets.mono_l k
 unfold cellarref7_Offsets.f
 repeat' first
   | (with_reducible apply ih0)
   | (with_reducible apply cellarref7_Types.mono)
   | (with_reducible apply LeO.refl)
   | (with_reducible apply LeO.none)
   | (with_reducible refine LeO.ite ?_ ?_)
   | (with_reducible refine LeO.bind ?_ (fun _ => ?_))
set_option maxHeartbeats 8000000 in
set_option maxRecDepth 100000 in
theorem cellarref7_Offsets.calls (k : Nat) (a0_0 : Bool) (a0_1 : Int) (A1 : Option Addr) (c1 : Nat) (l1 : List (S31)) (a2 : Int) (r : List Int) (w : World) (hr1 : Kd.C k31 w A1 l1.length l1) (hc1 : l1.length ≤ c1) (h : cellarref7_Offsets.f k a0_0 a0_1 l1 a2 = some r) :
  Calls Try.prog 60 #[.agg #[.bool a0_0, .int .i64 a0_1], .slice A1 l1.length c1, .int .i64 a2] w fun e w' => ∃ v0_ : Value, e = .returned (v0_) ∧ Kd.R (Kd.int .i64) 3 w' w.heap.size (fun _ => True) v0_ r ∧ Below w.heap.size w w' := by
 have hu29 := Try.underlying29
 have HR1 := Aside0.mk hr1
 have HC1 := Aside0.mk hc1
 clear hr1 hc1
 have HB := Aside0.mk (Below.refl w.heap.size w)
 have H : ((cellarref7_Types.f k a0_0 a0_1 l1).bind fun bt303 => (cellarref7_Offsets.l0 k l1 a2 bt303.1 bt303.2.1 ([] : List Int) 0 0)) = some r := h
 clear h
 replace H := Option.bind_eq_some_iff.mp H
 obtain ⟨⟨t303, t306, t309⟩, A40, H⟩ := H
 replace H : (cellarref7_Offsets.l0 k l1 a2 t303 t306 ([] : List Int) 0 0) = some r := H
 have A4 := Aside0.mk A40
 clear A40
 have H' := Aside0.mk H
 clear H
 go_enter Try.func60, Try.ntmps60
 go_wp2_with (first | ((with_reducible refine gate_dst (N := 3) rfl ?_); refine zbox (N := 3) (cs := #[.bool a0_0, .int .i64 a0_1]) (t := 29) ?_; intro gb302 hg w5 hbox hb; have n0_ := Aside0.mk (below_step (zw0 HB.out) hb); have BK302 := Aside0.mk (hbox); have GW302 := Aside0.mk (zg hg (below_size (zw0 HB.out))); have GE302 := GW302; clear HB; have HB := n0_; clear n0_; clear hb hbox hg; have hcz6_0 := zc BK302.out 0; have hcz6_1 := zc BK302.out 1; have hfz6_0 := blk_frozen BK302.out 0; have hfz6_1 := blk_frozen BK302.out 1) | ((with_reducible refine gate_callee (f := 17) rfl ?_); refine zgo (some 18) Try.func17 #[.agg #[.bool a0_0, .int .i64 a0_1], .slice A1 l1.length c1] ?_; (with_reducible refine (cellarref7_Types.calls k a0_0 a0_1 _ _ l1 t303 t306 t309 _ ?side1 ?side2 A4.out).mono ?_); (case side1 => repeat (first | exact (Kd.C_below HR1.out HB.out) | (with_reducible refine Kd.C_alloc ?_ _) | (with_reducible refine Kd.C_drewN ?_ _) | (with_reducible refine Kd.C_drew ?_))); (case side2 => exact HC1.out); rintro e w7 ⟨v304, v307, rfl, ho0, ho1, hb⟩; refine ⟨_, rfl, ?_⟩; have HO305 := Aside0.mk (Kd.R_lower ho0 (below_size (zw1 HB.out GE302.out))); have HO308 := Aside0.mk (Kd.R_lower ho1 (below_size (zw1 HB.out GE302.out))); have n2_ := Aside0.mk (zbb BK302.out hb); have n3_ := Aside0.mk (below_step (zw1 HB.out GE302.out) hb); clear BK302 HB; have BK302 := n2_; have HB := n3_; clear n2_ n3_; (try clear hb); (try clear hb2); (try clear hk); (try clear hi); (try clear ho0); (try clear ho1)))
 go_loopg [10, 11, 12] k (fun kq v10 v11 v12 w' => ∃ (x10_1 : List Int) (x11_1 : Int) (x12_1 : Int), v11 = .int .i64 x11_1 ∧ v12 = .int .i64 x12_1 ∧ Aside0 (cellarref7_Offsets.l0 kq l1 a2 t303 t306 x10_1 x11_1 x12_1 = some r) ∧ Aside0 (kq ≤ k) ∧ Aside0 (Kd.R (Kd.int .i64) 3 w' w.heap.size (fun k_ => some k_ ≠ (v307 : Value).ownBlock ∧ some k_ ≠ (v10 : Value).ownBlock) v304 t303) ∧ Aside0 (Kd.R (Kd.int .i64) 3 w' w.heap.size (fun k_ => some k_ ≠ (v304 : Value).ownBlock ∧ some k_ ≠ (v10 : Value).ownBlock) v307 t306) ∧ Aside0 (Kd.R (Kd.int .i64) 3 w' w.heap.size (fun k_ => some k_ ≠ (v304 : Value).ownBlock ∧ some k_ ≠ (v307 : Value).ownBlock) v10 x10_1) ∧ Aside0 (w'.heap[gb302]? = some (.cells #[.bool a0_0, .int .i64 a0_1] 29 (0, 0))) ∧ Aside0 (Below w.heap.size w w'))
 case atStart => exact ⟨(([] : List Int)), (0), (0), (zr), (zr), H', ⟨Nat.le_refl _⟩, ⟨by (with_reducible repeat (first | apply Kd.R_alloc | apply Kd.R_drewN | apply Kd.R_drew)); exact Kd.R_mono HO305.out (fun _ hk => ⟨hk, (by simp [Value.ownBlock])⟩)⟩, ⟨by (with_reducible repeat (first | apply Kd.R_alloc | apply Kd.R_drewN | apply Kd.R_drew)); exact Kd.R_mono HO308.out (fun _ hk => ⟨hk, (by simp [Value.ownBlock])⟩)⟩, ⟨by first | exact Kd.R_nil _ _ _ _ _ | exact Kd.N_nil _ _ _ _ _ | exact Kd.V_nil _ _ _ _ _ | exact Kd.Q_nil _ _ _ _ _ | exact Kd.S_nil _ _ _ _ _⟩, ⟨zb BK302.out⟩, ⟨zw1 HB.out GE302.out⟩⟩
 case round =>
  clear H'
  try clear c1; try clear p2; try clear c6
  obtain ⟨x10_1, x11_1, x12_1, rfl, rfl, HA, HK1, HO_7, HO_8, HO_10, BK302, HB⟩ := hrel
  cases gk with
  | zero => exact absurd HA.out (by simp [cellarref7_Offsets.l0])
  | succ k1 =>
   have H := HA.out
   clear HA
   simp only [cellarref7_Offsets.l0] at H
   by_cases c8 : 0 ≤ a2
   ·rw [if_pos c8] at H
    have c8b0 : decide (0 ≤ a2) = true := decide_eq_true c8
    clear c8
    by_cases c9 : a2 < (l1.length : Int)
    rotate_left
    ·rw [if_neg c9] at H
     exact absurd H (by simp)
    rw [if_pos c9] at H
    have c9b0 : decide (a2 < (l1.length : Int)) = true := decide_eq_true c9
    clear c9
    by_cases c10 : x12_1 < (((rd_T31 l1 a2).f4).length : Int)
    rotate_left
    ·rw [if_neg c10] at H
     have c10b0 : decide (x12_1 < (((rd_T31 l1 a2).f4).length : Int)) = false := decide_eq_false c10
     clear c10
     obtain rfl := Option.some.inj H
     have p310 : 0 ≤ (a2 : Int) := zdec
     have q310 : a2 < (l1.length : Int) := zdec
     obtain ⟨ad310, A310_3, c310_3, A310_4, c310_4, e310, hx310_0, hx310_1, hx310_2, hx310_3, hx310_4, hl310_3, hi310_3, hl310_4, hi310_4⟩ := at_T31 HR1.out a2 p310 q310
     cases e310
     replace hx310_0 := zh HB.out hx310_0
     replace hx310_1 := zh HB.out hx310_1
     replace hx310_2 := zh HB.out hx310_2
     replace hx310_3 := zh HB.out hx310_3
     replace hx310_4 := zh HB.out hx310_4
     have HR310_3 := Aside0.mk hi310_3
     have HC310_3 := Aside0.mk hl310_3
     clear hi310_3 hl310_3
     have HR310_4 := Aside0.mk hi310_4
     have HC310_4 := Aside0.mk hl310_4
     clear hi310_4 hl310_4
     replace p310 := eq_true p310
     replace q310 := eq_true q310
     go_wp2
     go_ret
     exact ⟨_, ze, by (with_reducible repeat (first | apply Kd.R_alloc | apply Kd.R_drewN | apply Kd.R_drew)); exact Kd.R_mono HO_10.out (fun _ hk => trivial), zw1 HB.out GE302.out⟩
    rw [if_pos c10] at H
    have c10b0 : decide (x12_1 < (((rd_T31 l1 a2).f4).length : Int)) = true := decide_eq_true c10
    clear c10
    by_cases c11 : 0 ≤ x12_1
    rotate_left
    ·rw [if_neg c11] at H
     exact absurd H (by simp)
    rw [if_pos c11] at H
    have c11b0 : decide (0 ≤ x12_1) = true := decide_eq_true c11
    clear c11
    by_cases c12 : 0 ≤ (rd ((rd_T31 l1 a2).f4) x12_1)
    rotate_left
    ·rw [if_neg c12] at H
     exact absurd H (by simp)
    rw [if_pos c12] at H
    have c12b0 : decide (0 ≤ (rd ((rd_T31 l1 a2).f4) x12_1)) = true := decide_eq_true c12
    clear c12
    by_cases c13 : (rd ((rd_T31 l1 a2).f4) x12_1) < (t306.length : Int)
    rotate_left
    ·rw [if_neg c13] at H
     exact absurd H (by simp)
    rw [if_pos c13] at H
    have c13b0 : decide ((rd ((rd_T31 l1 a2).f4) x12_1) < (t306.length : Int)) = true := decide_eq_true c13
    clear c13
    replace H := Option.bind_eq_some_iff.mp H
    obtain ⟨t314, A140, H⟩ := H
    replace H : (if ((rd_T31 l1 a2).f0) = 10 then (if x10_1.length < 17592186044416 then (if (rd ((rd_T31 l1 a2).f4) x12_1) < (t303.length : Int) then (cellarref7_Offsets.l0 k1 l1 a2 t303 t306 (x10_1 ++ [0]) (wrap64 (0 + (rd t303 (rd ((rd_T31 l1 a2).f4) x12_1)))) (wrap64 (x12_1 + 1))) else (none)) else (none)) else (if x10_1.length < 17592186044416 then (if (rd ((rd_T31 l1 a2).f4) x12_1) < (t303.length : Int) then (cellarref7_Offsets.l0 k1 l1 a2 t303 t306 (x10_1 ++ [t314]) (wrap64 (t314 + (rd t303 (rd ((rd_T31 l1 a2).f4) x12_1)))) (wrap64 (x12_1 + 1))) else (none)) else (none))) = some r := H
    have A14 := Aside0.mk A140
    clear A140
    by_cases c15 : ((rd_T31 l1 a2).f0) = 10
    ·rw [if_pos c15] at H
     have c15b0 : (((rd_T31 l1 a2).f0) == 10) = true := beq_iff_eq.mpr c15
     have c15b1 : (((rd_T31 l1 a2).f0) != 10) = false := bne_eq_false_iff_eq.mpr c15
     clear c15
     by_cases c16 : x10_1.length < 17592186044416
     rotate_left
     ·rw [if_neg c16] at H
      exact absurd H (by simp)
     rw [if_pos c16] at H
     have LMc16 := Aside0.mk c16
     clear c16
     obtain ⟨y316, hy316⟩ : ∃ y_ : List Int, y_ = (x10_1 ++ [0]) := ⟨_, rfl⟩
     replace H : (if (rd ((rd_T31 l1 a2).f4) x12_1) < (t303.length : Int) then (cellarref7_Offsets.l0 k1 l1 a2 t303 t306 y316 (wrap64 (0 + (rd t303 (rd ((rd_T31 l1 a2).f4) x12_1)))) (wrap64 (x12_1 + 1))) else (none)) = some r := by first | (rw [hy316]; with_reducible exact H) | (have H2_ := (Option.bind_some _ _).symm.trans H; rw [hy316]; with_reducible exact H2_) | (have H2_ := (Option.bind_some _ _).symm.trans H; with_reducible exact H2_) | with_reducible exact H | (rw [hy316]; exact H) | exact H
     have Ny316 := Aside0.mk hy316
     clear hy316
     by_cases c17 : (rd ((rd_T31 l1 a2).f4) x12_1) < (t303.length : Int)
     rotate_left
     ·rw [if_neg c17] at H
      exact absurd H (by simp)
     rw [if_pos c17] at H
     have c17b0 : decide ((rd ((rd_T31 l1 a2).f4) x12_1) < (t303.length : Int)) = true := decide_eq_true c17
     clear c17
     have H' := Aside0.mk H
     clear H
     have p310 : 0 ≤ (a2 : Int) := zdec
     have q310 : a2 < (l1.length : Int) := zdec
     obtain ⟨ad310, A310_3, c310_3, A310_4, c310_4, e310, hx310_0, hx310_1, hx310_2, hx310_3, hx310_4, hl310_3, hi310_3, hl310_4, hi310_4⟩ := at_T31 HR1.out a2 p310 q310
     cases e310
     replace hx310_0 := zh HB.out hx310_0
     replace hx310_1 := zh HB.out hx310_1
     replace hx310_2 := zh HB.out hx310_2
     replace hx310_3 := zh HB.out hx310_3
     replace hx310_4 := zh HB.out hx310_4
     have HR310_3 := Aside0.mk hi310_3
     have HC310_3 := Aside0.mk hl310_3
     clear hi310_3 hl310_3
     have HR310_4 := Aside0.mk hi310_4
     have HC310_4 := Aside0.mk hl310_4
     clear hi310_4 hl310_4
     replace p310 := eq_true p310
     replace q310 := eq_true q310
     have p311 : 0 ≤ (a2 : Int) := zdec
     have q311 : a2 < (l1.length : Int) := zdec
     obtain ⟨ad311, A311_3, c311_3, A311_4, c311_4, e311, hx311_0, hx311_1, hx311_2, hx311_3, hx311_4, hl311_3, hi311_3, hl311_4, hi311_4⟩ := at_T31 HR1.out a2 p311 q311
     obtain rfl : ad310 = ad311 := (by injection e311)
     replace hx311_0 := zh HB.out hx311_0
     replace hx311_1 := zh HB.out hx311_1
     replace hx311_2 := zh HB.out hx311_2
     replace hx311_3 := zh HB.out hx311_3
     replace hx311_4 := zh HB.out hx311_4
     have HR311_3 := Aside0.mk hi311_3
     have HC311_3 := Aside0.mk hl311_3
     clear hi311_3 hl311_3
     have HR311_4 := Aside0.mk hi311_4
     have HC311_4 := Aside0.mk hl311_4
     clear hi311_4 hl311_4
     replace p311 := eq_true p311
     replace q311 := eq_true q311
     have ea_ := Option.some.inj (hx310_3.symm.trans hx311_3)
     injection ea_ with ea_ en_ ec_
     subst ea_
     subst ec_
     clear en_
     have ea_ := Option.some.inj (hx310_4.symm.trans hx311_4)
     injection ea_ with ea_ en_ ec_
     subst ea_
     subst ec_
     clear en_
     have p312 : 0 ≤ (x12_1 : Int) := zdec
     have q312 : x12_1 < (((rd_T31 l1 a2).f4).length : Int) := zdec
     obtain ⟨ad312, e312, hx312_0⟩ := Kd.at_int HR311_4.out x12_1 p312 q312
     cases e312
     replace hx312_0 := zh HB.out hx312_0
     replace p312 := eq_true p312
     replace q312 := eq_true q312
     obtain ⟨Ao18, co18, eo18⟩ := Kd.R_slice HO_8.out
     subst eo18
     have p313 : 0 ≤ ((rd ((rd_T31 l1 a2).f4) x12_1) : Int) := zdec
     have q313 : (rd ((rd_T31 l1 a2).f4) x12_1) < (t306.length : Int) := zdec
     obtain ⟨ad313, e313, hx313_0⟩ := Kd.at_int (Kd.R_reads' HO_8.out).2.2 (rd ((rd_T31 l1 a2).f4) x12_1) p313 q313
     cases e313
     replace p313 := eq_true p313
     replace q313 := eq_true q313
     go_wp2_with (first | ((with_reducible refine gate_callee (f := 91) rfl ?_); refine zgo (some 45) Try.func91 #[.int .i64 x11_1, .int .i64 (rd t306 (rd ((rd_T31 l1 a2).f4) x12_1))] ?_; (with_reducible refine (cellarref7_up.calls x11_1 (rd t306 (rd ((rd_T31 l1 a2).f4) x12_1)) t314 _ A14.out).mono ?_); rintro e w' ⟨rfl, ⟨nd, rfl⟩⟩; refine ⟨_, rfl, ?_⟩; have p315 : 0 ≤ (a2 : Int) := zdec; have q315 : a2 < (l1.length : Int) := zdec; obtain ⟨ad315, A315_3, c315_3, A315_4, c315_4, e315, hx315_0, hx315_1, hx315_2, hx315_3, hx315_4, hl315_3, hi315_3, hl315_4, hi315_4⟩ := at_T31 HR1.out a2 p315 q315; obtain rfl : ad310 = ad315 := (by injection e315); replace hx315_0 := zh HB.out hx315_0; replace hx315_1 := zh HB.out hx315_1; replace hx315_2 := zh HB.out hx315_2; replace hx315_3 := zh HB.out hx315_3; replace hx315_4 := zh HB.out hx315_4; have HR315_3 := Aside0.mk hi315_3; have HC315_3 := Aside0.mk hl315_3; clear hi315_3 hl315_3; have HR315_4 := Aside0.mk hi315_4; have HC315_4 := Aside0.mk hl315_4; clear hi315_4 hl315_4; replace p315 := eq_true p315; replace q315 := eq_true q315; have ea_ := Option.some.inj (hx310_3.symm.trans hx315_3); injection ea_ with ea_ en_ ec_; subst ea_; subst ec_; clear en_; have ea_ := Option.some.inj (hx310_4.symm.trans hx315_4); injection ea_ with ea_ en_ ec_; subst ea_; subst ec_; clear en_) | ((with_reducible refine gate_builtin (b := .append) (xs := #[.tmp 52, .tmp 54]) rfl ?_); at_builtin; refine Kd.R_append (Kd.int .i64) (w0 := w) w.heap.size rfl (.tmp 52) (.tmp 54) 25 3 (.int .i64 0) 8 rfl Try.underlying25 info3 rfl (by decide) (by omega) u10 x10_1 0 [.int .i64 0] (fun k_ => some k_ ≠ (v304 : Value).ownBlock ∧ some k_ ≠ (.slice (some ad313) t306.length co18 : Value).ownBlock) (fun _ => False) rfl rfl ?aP (fun _ hk => hk.elim) ?aF ?aO ?aB ?aS ?aL ?_; (case aP => exact rfl); (case aB => exact (zw1 HB.out GE302.out)); (case aF => exact (fun k_ hk => ⟨Kd.fresh' (Kd.R_lt (by (with_reducible repeat (first | apply Kd.R_alloc | apply Kd.R_drewN | apply Kd.R_drew)); exact HO_7.out)) k_ hk, Kd.fresh' (Kd.R_lt (by (with_reducible repeat (first | apply Kd.R_alloc | apply Kd.R_drewN | apply Kd.R_drew)); exact HO_8.out)) k_ hk⟩)); (case aO => exact (by (with_reducible repeat (first | apply Kd.R_alloc | apply Kd.R_drewN | apply Kd.R_drew)); exact HO_10.out)); (case aS => exact (below_size (zw1 HB.out GE302.out))); (case aL => have := LMc16.out; omega); intro v317 w19 ho hb hg hat; rw [← Ny316.out] at ho; have n0_ := Aside0.mk (Kd.R_after (ok := (fun k_ => some k_ ≠ (.slice (some ad313) t306.length co18 : Value).ownBlock)) (by (with_reducible repeat (first | apply Kd.R_alloc | apply Kd.R_drewN | apply Kd.R_drew)); exact HO_7.out) hg hat); have n1_ := Aside0.mk (Kd.R_after (ok := (fun k_ => some k_ ≠ (v304 : Value).ownBlock)) (by (with_reducible repeat (first | apply Kd.R_alloc | apply Kd.R_drewN | apply Kd.R_drew)); exact HO_8.out) hg hat); have n2_ := Aside0.mk (blk_grown (g := gb302) (o := .cells #[.bool a0_0, .int .i64 a0_1] 29 (0, 0)) (zb BK302.out) hg (Kd.R_ne HO_10.out BK302.out (by decide))); have n3_ := Aside0.mk (hb); have HO318 := Aside0.mk (ho); clear HO_7 HO_8 BK302 HB HO_10; have HO_7 := n0_; have HO_8 := n1_; have BK302 := n2_; have HB := n3_; clear n0_ n1_ n2_ n3_; clear ho hb hg hat; obtain ⟨Ao20, co20, eo20⟩ := Kd.R_slice HO_7.out; subst eo20; have p319 : 0 ≤ ((rd ((rd_T31 l1 a2).f4) x12_1) : Int) := zdec; have q319 : (rd ((rd_T31 l1 a2).f4) x12_1) < (t303.length : Int) := zdec; obtain ⟨ad319, e319, hx319_0⟩ := Kd.at_int (Kd.R_reads' HO_7.out).2.2 (rd ((rd_T31 l1 a2).f4) x12_1) p319 q319; cases e319; replace p319 := eq_true p319; replace q319 := eq_true q319))
     go_roundg k1
     case measure => have := HK1.out; omega
     case rel => exact ⟨(y316), (wrap64 (0 + (rd t303 (rd ((rd_T31 l1 a2).f4) x12_1)))), (wrap64 (x12_1 + 1)), (zr), (zr), H', ⟨by have := HK1.out; omega⟩, ⟨by (with_reducible repeat (first | apply Kd.R_alloc | apply Kd.R_drewN | apply Kd.R_drew)); exact HO_7.out⟩, ⟨by (with_reducible repeat (first | apply Kd.R_alloc | apply Kd.R_drewN | apply Kd.R_drew)); exact HO_8.out⟩, ⟨by (with_reducible repeat (first | apply Kd.R_alloc | apply Kd.R_drewN | apply Kd.R_drew)); exact HO318.out⟩, ⟨zb BK302.out⟩, ⟨zw1 HB.out GE302.out⟩⟩
    rw [if_neg c15] at H
    have c15b0 : (((rd_T31 l1 a2).f0) == 10) = false := beq_eq_false_iff_ne.mpr c15
    have c15b1 : (((rd_T31 l1 a2).f0) != 10) = true := bne_iff_ne.mpr c15
    by_cases c21 : x10_1.length < 17592186044416
    rotate_left
    ·rw [if_neg c21] at H
     exact absurd H (by simp)
    rw [if_pos c21] at H
    have LMc21 := Aside0.mk c21
    clear c21
    obtain ⟨y320, hy320⟩ : ∃ y_ : List Int, y_ = (x10_1 ++ [t314]) := ⟨_, rfl⟩
    replace H : (if (rd ((rd_T31 l1 a2).f4) x12_1) < (t303.length : Int) then (cellarref7_Offsets.l0 k1 l1 a2 t303 t306 y320 (wrap64 (t314 + (rd t303 (rd ((rd_T31 l1 a2).f4) x12_1)))) (wrap64 (x12_1 + 1))) else (none)) = some r := by first | (rw [hy320]; with_reducible exact H) | (have H2_ := (Option.bind_some _ _).symm.trans H; rw [hy320]; with_reducible exact H2_) | (have H2_ := (Option.bind_some _ _).symm.trans H; with_reducible exact H2_) | with_reducible exact H | (rw [hy320]; exact H) | exact H
    have Ny320 := Aside0.mk hy320
    clear hy320
    by_cases c22 : (rd ((rd_T31 l1 a2).f4) x12_1) < (t303.length : Int)
    rotate_left
    ·rw [if_neg c22] at H
     exact absurd H (by simp)
    rw [if_pos c22] at H
    have c22b0 : decide ((rd ((rd_T31 l1 a2).f4) x12_1) < (t303.length : Int)) = true := decide_eq_true c22
    clear c22
    have H' := Aside0.mk H
    clear H
    have p310 : 0 ≤ (a2 : Int) := zdec
    have q310 : a2 < (l1.length : Int) := zdec
    obtain ⟨ad310, A310_3, c310_3, A310_4, c310_4, e310, hx310_0, hx310_1, hx310_2, hx310_3, hx310_4, hl310_3, hi310_3, hl310_4, hi310_4⟩ := at_T31 HR1.out a2 p310 q310
    cases e310
    replace hx310_0 := zh HB.out hx310_0
    replace hx310_1 := zh HB.out hx310_1
    replace hx310_2 := zh HB.out hx310_2
    replace hx310_3 := zh HB.out hx310_3
    replace hx310_4 := zh HB.out hx310_4
    have HR310_3 := Aside0.mk hi310_3
    have HC310_3 := Aside0.mk hl310_3
    clear hi310_3 hl310_3
    have HR310_4 := Aside0.mk hi310_4
    have HC310_4 := Aside0.mk hl310_4
    clear hi310_4 hl310_4
    replace p310 := eq_true p310
    replace q310 := eq_true q310
    have p311 : 0 ≤ (a2 : Int) := zdec
    have q311 : a2 < (l1.length : Int) := zdec
    obtain ⟨ad311, A311_3, c311_3, A311_4, c311_4, e311, hx311_0, hx311_1, hx311_2, hx311_3, hx311_4, hl311_3, hi311_3, hl311_4, hi311_4⟩ := at_T31 HR1.out a2 p311 q311
    obtain rfl : ad310 = ad311 := (by injection e311)
    replace hx311_0 := zh HB.out hx311_0
    replace hx311_1 := zh HB.out hx311_1
    replace hx311_2 := zh HB.out hx311_2
    replace hx311_3 := zh HB.out hx311_3
    replace hx311_4 := zh HB.out hx311_4
    have HR311_3 := Aside0.mk hi311_3
    have HC311_3 := Aside0.mk hl311_3
    clear hi311_3 hl311_3
    have HR311_4 := Aside0.mk hi311_4
    have HC311_4 := Aside0.mk hl311_4
    clear hi311_4 hl311_4
    replace p311 := eq_true p311
    replace q311 := eq_true q311
    have ea_ := Option.some.inj (hx310_3.symm.trans hx311_3)
    injection ea_ with ea_ en_ ec_
    subst ea_
    subst ec_
    clear en_
    have ea_ := Option.some.inj (hx310_4.symm.trans hx311_4)
    injection ea_ with ea_ en_ ec_
    subst ea_
    subst ec_
    clear en_
    have p312 : 0 ≤ (x12_1 : Int) := zdec
    have q312 : x12_1 < (((rd_T31 l1 a2).f4).length : Int) := zdec
    obtain ⟨ad312, e312, hx312_0⟩ := Kd.at_int HR311_4.out x12_1 p312 q312
    cases e312
    replace hx312_0 := zh HB.out hx312_0
    replace p312 := eq_true p312
    replace q312 := eq_true q312
    obtain ⟨Ao23, co23, eo23⟩ := Kd.R_slice HO_8.out
    subst eo23
    have p313 : 0 ≤ ((rd ((rd_T31 l1 a2).f4) x12_1) : Int) := zdec
    have q313 : (rd ((rd_T31 l1 a2).f4) x12_1) < (t306.length : Int) := zdec
    obtain ⟨ad313, e313, hx313_0⟩ := Kd.at_int (Kd.R_reads' HO_8.out).2.2 (rd ((rd_T31 l1 a2).f4) x12_1) p313 q313
    cases e313
    replace p313 := eq_true p313
    replace q313 := eq_true q313
    go_wp2_with (first | ((with_reducible refine gate_callee (f := 91) rfl ?_); refine zgo (some 45) Try.func91 #[.int .i64 x11_1, .int .i64 (rd t306 (rd ((rd_T31 l1 a2).f4) x12_1))] ?_; (with_reducible refine (cellarref7_up.calls x11_1 (rd t306 (rd ((rd_T31 l1 a2).f4) x12_1)) t314 _ A14.out).mono ?_); rintro e w' ⟨rfl, ⟨nd, rfl⟩⟩; refine ⟨_, rfl, ?_⟩; have p315 : 0 ≤ (a2 : Int) := zdec; have q315 : a2 < (l1.length : Int) := zdec; obtain ⟨ad315, A315_3, c315_3, A315_4, c315_4, e315, hx315_0, hx315_1, hx315_2, hx315_3, hx315_4, hl315_3, hi315_3, hl315_4, hi315_4⟩ := at_T31 HR1.out a2 p315 q315; obtain rfl : ad310 = ad315 := (by injection e315); replace hx315_0 := zh HB.out hx315_0; replace hx315_1 := zh HB.out hx315_1; replace hx315_2 := zh HB.out hx315_2; replace hx315_3 := zh HB.out hx315_3; replace hx315_4 := zh HB.out hx315_4; have HR315_3 := Aside0.mk hi315_3; have HC315_3 := Aside0.mk hl315_3; clear hi315_3 hl315_3; have HR315_4 := Aside0.mk hi315_4; have HC315_4 := Aside0.mk hl315_4; clear hi315_4 hl315_4; replace p315 := eq_true p315; replace q315 := eq_true q315; have ea_ := Option.some.inj (hx310_3.symm.trans hx315_3); injection ea_ with ea_ en_ ec_; subst ea_; subst ec_; clear en_; have ea_ := Option.some.inj (hx310_4.symm.trans hx315_4); injection ea_ with ea_ en_ ec_; subst ea_; subst ec_; clear en_) | ((with_reducible refine gate_builtin (b := .append) (xs := #[.tmp 52, .tmp 54]) rfl ?_); at_builtin; refine Kd.R_append (Kd.int .i64) (w0 := w) w.heap.size rfl (.tmp 52) (.tmp 54) 25 3 (.int .i64 0) 8 rfl Try.underlying25 info3 rfl (by decide) (by omega) u10 x10_1 t314 [.int .i64 t314] (fun k_ => some k_ ≠ (v304 : Value).ownBlock ∧ some k_ ≠ (.slice (some ad313) t306.length co23 : Value).ownBlock) (fun _ => False) rfl rfl ?aP (fun _ hk => hk.elim) ?aF ?aO ?aB ?aS ?aL ?_; (case aP => exact rfl); (case aB => exact (zw1 HB.out GE302.out)); (case aF => exact (fun k_ hk => ⟨Kd.fresh' (Kd.R_lt (by (with_reducible repeat (first | apply Kd.R_alloc | apply Kd.R_drewN | apply Kd.R_drew)); exact HO_7.out)) k_ hk, Kd.fresh' (Kd.R_lt (by (with_reducible repeat (first | apply Kd.R_alloc | apply Kd.R_drewN | apply Kd.R_drew)); exact HO_8.out)) k_ hk⟩)); (case aO => exact (by (with_reducible repeat (first | apply Kd.R_alloc | apply Kd.R_drewN | apply Kd.R_drew)); exact HO_10.out)); (case aS => exact (below_size (zw1 HB.out GE302.out))); (case aL => have := LMc21.out; omega); intro v321 w24 ho hb hg hat; rw [← Ny320.out] at ho; have n0_ := Aside0.mk (Kd.R_after (ok := (fun k_ => some k_ ≠ (.slice (some ad313) t306.length co23 : Value).ownBlock)) (by (with_reducible repeat (first | apply Kd.R_alloc | apply Kd.R_drewN | apply Kd.R_drew)); exact HO_7.out) hg hat); have n1_ := Aside0.mk (Kd.R_after (ok := (fun k_ => some k_ ≠ (v304 : Value).ownBlock)) (by (with_reducible repeat (first | apply Kd.R_alloc | apply Kd.R_drewN | apply Kd.R_drew)); exact HO_8.out) hg hat); have n2_ := Aside0.mk (blk_grown (g := gb302) (o := .cells #[.bool a0_0, .int .i64 a0_1] 29 (0, 0)) (zb BK302.out) hg (Kd.R_ne HO_10.out BK302.out (by decide))); have n3_ := Aside0.mk (hb); have HO322 := Aside0.mk (ho); clear HO_7 HO_8 BK302 HB HO_10; have HO_7 := n0_; have HO_8 := n1_; have BK302 := n2_; have HB := n3_; clear n0_ n1_ n2_ n3_; clear ho hb hg hat; obtain ⟨Ao25, co25, eo25⟩ := Kd.R_slice HO_7.out; subst eo25; have p323 : 0 ≤ ((rd ((rd_T31 l1 a2).f4) x12_1) : Int) := zdec; have q323 : (rd ((rd_T31 l1 a2).f4) x12_1) < (t303.length : Int) := zdec; obtain ⟨ad323, e323, hx323_0⟩ := Kd.at_int (Kd.R_reads' HO_7.out).2.2 (rd ((rd_T31 l1 a2).f4) x12_1) p323 q323; cases e323; replace p323 := eq_true p323; replace q323 := eq_true q323))
    go_roundg k1
    case measure => have := HK1.out; omega
    case rel => exact ⟨(y320), (wrap64 (t314 + (rd t303 (rd ((rd_T31 l1 a2).f4) x12_1)))), (wrap64 (x12_1 + 1)), (zr), (zr), H', ⟨by have := HK1.out; omega⟩, ⟨by (with_reducible repeat (first | apply Kd.R_alloc | apply Kd.R_drewN | apply Kd.R_drew)); exact HO_7.out⟩, ⟨by (with_reducible repeat (first | apply Kd.R_alloc | apply Kd.R_drewN | apply Kd.R_drew)); exact HO_8.out⟩, ⟨by (with_reducible repeat (first | apply Kd.R_alloc | apply Kd.R_drewN | apply Kd.R_drew)); exact HO322.out⟩, ⟨zb BK302.out⟩, ⟨zw1 HB.out GE302.out⟩⟩
   ·rw [if_neg c8] at H
    exact absurd H (by simp)

/-! cellarref7_Field -/
mutual
def cellarref7_Field.j0 : Nat → List (S31) → Int → ByteArray → Bool → Bool → Int → Option (Int × Int × Int)
 | 0, _, _, _, _, _, _ => none
 | k + 1, x1, x2, x3, x26, x325000, x325001 => if x26 = true then (some (0, 0, 5)) else ((cellarref7_Offsets.f k x325000 x325001 x1 x2).bind fun t327 => (cellarref7_Field.l0 k x1 x2 x3 t327 0))
def cellarref7_Field.l0 : Nat → List (S31) → Int → ByteArray → List Int → Int → Option (Int × Int × Int)
 | 0, _, _, _, _, _ => none
 | k + 1, x1, x2, x3, x11, x12 => if x12 < (x11.length : Int) then (if 0 ≤ x2 then (if x2 < (x1.length : Int) then (if 0 ≤ x12 then (if x12 < (((rd_T31 x1 x2).f3).length : Int) then (if (rdOf ByteArray.empty ((rd_T31 x1 x2).f3) x12).toList = x3.toList then (if x12 < (((rd_T31 x1 x2).f4).length : Int) then (some (rd x11 x12, rd ((rd_T31 x1 x2).f4) x12, 0)) else (none)) else (cellarref7_Field.l0 k x1 x2 x3 x11 (wrap64 (x12 + 1)))) else (none)) else (none)) else (none)) else (none)) else (some (0, 0, 6))
end
def cellarref7_Field.f (k : Nat) (a0_0 : Bool) (a0_1 : Int) (l1 : List (S31)) (a2 : Int) (a3 : ByteArray) : Option (Int × Int × Int) := if 0 ≤ a2 then (if a2 < (l1.length : Int) then (if ((rd_T31 l1 a2).f0) = 9 then (cellarref7_Field.j0 k l1 a2 a3 false a0_0 a0_1) else (cellarref7_Field.j0 k l1 a2 a3 (((rd_T31 l1 a2).f0) != 10) a0_0 a0_1)) else (none)) else (none)
theorem cellarref7_Field.mono_l : ∀ k, (∀ y0 y1 y2 y3 y4 y5, LeO (cellarref7_Field.j0 k y0 y1 y2 y3 y4 y5) (cellarref7_Field.j0 (k + 1) y0 y1 y2 y3 y4 y5)) ∧ (∀ y0 y1 y2 y3 y4, LeO (cellarref7_Field.l0 k y0 y1 y2 y3 y4) (cellarref7_Field.l0 (k + 1) y0 y1 y2 y3 y4))
 | 0 => ⟨fun _ _ _ _ _ _ r h => by simp [cellarref7_Field.j0] at h, fun _ _ _ _ _ r h => by simp [cellarref7_Field.l0] at h⟩
 | k + 1 => by
  obtain ⟨ih0, ih1⟩ := cellarref7_Field.mono_l k
  refine ⟨?_, ?_⟩
  ·intro y0 y1 y2 y3 y4 y5
   unfold cellarref7_Field.j0
   repeat' first
   | (with_reducible apply ih0)
   | (with_reducible apply ih1)
   | (with_reducible apply cellarref7_Offsets.mono)
   | (with_reducible apply LeO.refl)
   | (with_reducible apply LeO.none)
   | (with_reducible refine LeO.ite ?_ ?_)
   | (with_reducible refine LeO.bind ?_ (fun _ => ?_))
  ·intro y0 y1 y2 y3 y4
   unfold cellarref7_Field.l0
   repeat' first
   | (with_reducible apply ih0)
   | (with_reducible apply ih1)
   | (with_reducible apply cellarref7_Offsets.mono)
   | (with_reducible apply LeO.refl)
   | (with_reducible apply LeO.none)
   | (with_reducible refine LeO.ite ?_ ?_)
   | (with_reducible refine LeO.bind ?_ (fun _ => ?_))
theorem cellarref7_Field.mono : ∀ a0 a1 a2 a3 a4 k, LeO (cellarref7_Field.f k a0 a1 a2 a3 a4) (cellarref7_Field.f (k + 1) a0 a1 a2 a3 a4) := by
 intro a0 a1 a2 a3 a4 k
 obtain ⟨ih0, ih1⟩ := cellarref7_Field.mono_l k
 unfold cellarref7_Field.f
 repeat' first
   | (with_reducible apply ih0)
   | (with_reducible apply ih1)
   | (with_reducible apply cellarref7_Offsets.mono)
   | (with_reducible apply LeO.refl)
   | (with_reducible apply LeO.none)
   | (with_reducible refine LeO.ite ?_ ?_)
   | (with_reducible refine LeO.bind ?_ (fun _ => ?_))
set_option maxHeartbeats 8000000 in
set_option maxRecDepth 100000 in
theorem cellarref7_Field.calls (k : Nat) (a0_0 : Bool) (a0_1 : Int) (A1 : Option Addr) (c1 : Nat) (l1 : List (S31)) (a2 : Int) (a3 : ByteArray) (r1 : Int) (r2 : Int) (r3 : Int) (w : World) (hr1 : Kd.C k31 w A1 l1.length l1) (hc1 : l1.length ≤ c1) (h : cellarref7_Field.f k a0_0 a0_1 l1 a2 a3 = some (r1, r2, r3)) :
  Calls Try.prog 22 #[.agg #[.bool a0_0, .int .i64 a0_1], .slice A1 l1.length c1, .int .i64 a2, .string a3] w fun e w' => e = .returned (.tuple #[.int .i64 r1, .int .i64 r2, .int .i64 r3]) ∧ Below w.heap.size w w' := by
 have hu29 := Try.underlying29
 have HR1 := Aside0.mk hr1
 have HC1 := Aside0.mk hc1
 clear hr1 hc1
 have HB := Aside0.mk (Below.refl w.heap.size w)
 have H : (if 0 ≤ a2 then (if a2 < (l1.length : Int) then (if ((rd_T31 l1 a2).f0) = 9 then (cellarref7_Field.j0 k l1 a2 a3 false a0_0 a0_1) else (cellarref7_Field.j0 k l1 a2 a3 (((rd_T31 l1 a2).f0) != 10) a0_0 a0_1)) else (none)) else (none)) = some (r1, r2, r3) := h
 clear h
 have HC5 := Aside0.mk H
 clear H
 go_enter Try.func22, Try.ntmps22
 go_upto_region 1 with (first | ((with_reducible refine gate_dst (N := 4) rfl ?_); refine zbox (N := 4) (cs := #[.bool a0_0, .int .i64 a0_1]) (t := 29) ?_; intro gb324 hg w6 hbox hb; have n0_ := Aside0.mk (below_step (zw0 HB.out) hb); have BK324 := Aside0.mk (hbox); have GW324 := Aside0.mk (zg hg (below_size (zw0 HB.out))); have GE324 := GW324; clear HB; have HB := n0_; clear n0_; clear hb hbox hg))
 repeat (go_quiet (first | ((with_reducible refine gate_dst (N := 4) rfl ?_); refine zbox (N := 4) (cs := #[.bool a0_0, .int .i64 a0_1]) (t := 29) ?_; intro gb324 hg w6 hbox hb; have n0_ := Aside0.mk (below_step (zw0 HB.out) hb); have BK324 := Aside0.mk (hbox); have GW324 := Aside0.mk (zg hg (below_size (zw0 HB.out))); have GE324 := GW324; clear HB; have HB := n0_; clear n0_; clear hb hbox hg)); go_upto_region 1 with (first | ((with_reducible refine gate_dst (N := 4) rfl ?_); refine zbox (N := 4) (cs := #[.bool a0_0, .int .i64 a0_1]) (t := 29) ?_; intro gb324 hg w6 hbox hb; have n0_ := Aside0.mk (below_step (zw0 HB.out) hb); have BK324 := Aside0.mk (hbox); have GW324 := Aside0.mk (zg hg (below_size (zw0 HB.out))); have GE324 := GW324; clear HB; have HB := n0_; clear n0_; clear hb hbox hg)))
 (try simp only [Act.put, List.setIfInBounds_toArray, List.set_cons_zero, List.set_cons_succ])
 go_cut [26] (fun v26 wc => ∃ (kq : Nat) (x26_4 : Bool), v26 = .bool x26_4 ∧ Aside0 (cellarref7_Field.j0 kq l1 a2 a3 x26_4 a0_0 a0_1 = some (r1, r2, r3)) ∧ Aside0 (kq ≤ k) ∧ Aside0 (wc.heap[gb324]? = some (.cells #[.bool a0_0, .int .i64 a0_1] 29 (0, 0))) ∧ Aside0 (Below w.heap.size w wc))
 case first =>
  have H := HC5.out
  clear HC5
  by_cases c7 : 0 ≤ a2
  rotate_left
  ·rw [if_neg c7] at H
   exact absurd H (by simp)
  rw [if_pos c7] at H
  have c7b0 : decide (0 ≤ a2) = true := decide_eq_true c7
  clear c7
  (first | rw [c7b0] | (simp only [i64_w, i32_w]; rw [c7b0]) | skip)
  by_cases c8 : a2 < (l1.length : Int)
  rotate_left
  ·rw [if_neg c8] at H
   exact absurd H (by simp)
  rw [if_pos c8] at H
  have c8b0 : decide (a2 < (l1.length : Int)) = true := decide_eq_true c8
  clear c8
  by_cases c9 : ((rd_T31 l1 a2).f0) = 9
  ·rw [if_pos c9] at H
   have c9b0 : (((rd_T31 l1 a2).f0) == 9) = true := beq_iff_eq.mpr c9
   have c9b1 : (((rd_T31 l1 a2).f0) != 9) = false := bne_eq_false_iff_eq.mpr c9
   clear c9
   have H' := Aside0.mk H
   clear H
   have p325 : 0 ≤ (a2 : Int) := zdec
   have q325 : a2 < (l1.length : Int) := zdec
   obtain ⟨ad325, A325_3, c325_3, A325_4, c325_4, e325, hx325_0, hx325_1, hx325_2, hx325_3, hx325_4, hl325_3, hi325_3, hl325_4, hi325_4⟩ := at_T31 HR1.out a2 p325 q325
   cases e325
   replace hx325_0 := zh HB.out hx325_0
   replace hx325_1 := zh HB.out hx325_1
   replace hx325_2 := zh HB.out hx325_2
   replace hx325_3 := zh HB.out hx325_3
   replace hx325_4 := zh HB.out hx325_4
   have HR325_3 := Aside0.mk hi325_3
   have HC325_3 := Aside0.mk hl325_3
   clear hi325_3 hl325_3
   have HR325_4 := Aside0.mk hi325_4
   have HC325_4 := Aside0.mk hl325_4
   clear hi325_4 hl325_4
   replace p325 := eq_true p325
   replace q325 := eq_true q325
   go_wp2
   repeat (go_quiet (fail); try go_wp2)
   go_meet
   case rel => exact ⟨_, (false), (zr), H', ⟨by first | omega | exact Nat.le_refl _⟩, ⟨zb BK324.out⟩, ⟨zw1 HB.out GE324.out⟩⟩
  rw [if_neg c9] at H
  have c9b0 : (((rd_T31 l1 a2).f0) == 9) = false := beq_eq_false_iff_ne.mpr c9
  have c9b1 : (((rd_T31 l1 a2).f0) != 9) = true := bne_iff_ne.mpr c9
  have H' := Aside0.mk H
  clear H
  have p325 : 0 ≤ (a2 : Int) := zdec
  have q325 : a2 < (l1.length : Int) := zdec
  obtain ⟨ad325, A325_3, c325_3, A325_4, c325_4, e325, hx325_0, hx325_1, hx325_2, hx325_3, hx325_4, hl325_3, hi325_3, hl325_4, hi325_4⟩ := at_T31 HR1.out a2 p325 q325
  cases e325
  replace hx325_0 := zh HB.out hx325_0
  replace hx325_1 := zh HB.out hx325_1
  replace hx325_2 := zh HB.out hx325_2
  replace hx325_3 := zh HB.out hx325_3
  replace hx325_4 := zh HB.out hx325_4
  have HR325_3 := Aside0.mk hi325_3
  have HC325_3 := Aside0.mk hl325_3
  clear hi325_3 hl325_3
  have HR325_4 := Aside0.mk hi325_4
  have HC325_4 := Aside0.mk hl325_4
  clear hi325_4 hl325_4
  replace p325 := eq_true p325
  replace q325 := eq_true q325
  have p326 : 0 ≤ (a2 : Int) := zdec
  have q326 : a2 < (l1.length : Int) := zdec
  obtain ⟨ad326, A326_3, c326_3, A326_4, c326_4, e326, hx326_0, hx326_1, hx326_2, hx326_3, hx326_4, hl326_3, hi326_3, hl326_4, hi326_4⟩ := at_T31 HR1.out a2 p326 q326
  obtain rfl : ad325 = ad326 := (by injection e326)
  replace hx326_0 := zh HB.out hx326_0
  replace hx326_1 := zh HB.out hx326_1
  replace hx326_2 := zh HB.out hx326_2
  replace hx326_3 := zh HB.out hx326_3
  replace hx326_4 := zh HB.out hx326_4
  have HR326_3 := Aside0.mk hi326_3
  have HC326_3 := Aside0.mk hl326_3
  clear hi326_3 hl326_3
  have HR326_4 := Aside0.mk hi326_4
  have HC326_4 := Aside0.mk hl326_4
  clear hi326_4 hl326_4
  replace p326 := eq_true p326
  replace q326 := eq_true q326
  have ea_ := Option.some.inj (hx325_3.symm.trans hx326_3)
  injection ea_ with ea_ en_ ec_
  subst ea_
  subst ec_
  clear en_
  have ea_ := Option.some.inj (hx325_4.symm.trans hx326_4)
  injection ea_ with ea_ en_ ec_
  subst ea_
  subst ec_
  clear en_
  go_wp2
  repeat (go_quiet (fail); try go_wp2)
  go_meet
  case rel => exact ⟨_, ((((rd_T31 l1 a2).f0) != 10)), (zr), H', ⟨by first | omega | exact Nat.le_refl _⟩, ⟨zb BK324.out⟩, ⟨zw1 HB.out GE324.out⟩⟩
 case rest =>
  clear HC5
  try clear c1; try clear c2; try clear p2; try clear c3; try clear p3; try clear q3; try clear c7; try clear c7b0; try clear c8; try clear c8b0; try clear c9; try clear c9b0; try clear c9b1; try clear p325; try clear p326; try clear q325; try clear q326
  obtain ⟨kq, x26_4, rfl, HA, HJ4, BK324, HB⟩ := hcut
  cases kq with
  | zero => exact absurd HA.out (by simp [cellarref7_Field.j0])
  | succ kj4 =>
   have H := HA.out
   clear HA
   simp only [cellarref7_Field.j0] at H
   by_cases c10 : x26_4 = true
   ·subst c10
    have H1 : (some (0, 0, 5)) = some (r1, r2, r3) := by rw [if_pos rfl] at H; exact H
    clear H
    have H := H1
    clear H1
    simp only [Option.some.injEq, Prod.mk.injEq] at H
    obtain ⟨rfl, rfl, rfl⟩ := H
    go_wp2
    repeat (go_quiet (fail); try go_wp2)
    go_ret3
    exact ⟨ze, zw1 HB.out GE324.out⟩
   ·replace c10 := Bool.eq_false_iff.mpr c10
    subst c10
    have H1 : ((cellarref7_Offsets.f kj4 a0_0 a0_1 l1 a2).bind fun t327 => (cellarref7_Field.l0 kj4 l1 a2 a3 t327 0)) = some (r1, r2, r3) := by rw [if_neg (show ¬ (false = true) by decide)] at H; exact H
    clear H
    have H := H1
    clear H1
    replace H := Option.bind_eq_some_iff.mp H
    obtain ⟨t327, A110, H⟩ := H
    replace H : (cellarref7_Field.l0 kj4 l1 a2 a3 t327 0) = some (r1, r2, r3) := H
    have A11 := Aside0.mk A110
    clear A110
    have H' := Aside0.mk H
    clear H
    have hcz12_0 := zc BK324.out 0
    have hcz12_1 := zc BK324.out 1
    have hfz12_0 := blk_frozen BK324.out 0
    have hfz12_1 := blk_frozen BK324.out 1
    go_wp2_with (first | (go_at_call 60; (with_reducible refine (cellarref7_Offsets.calls kj4 a0_0 a0_1 _ _ l1 a2 t327 _ ?side1 ?side2 A11.out).mono ?_); (case side1 => repeat (first | exact (Kd.C_below HR1.out HB.out) | (with_reducible refine Kd.C_alloc ?_ _) | (with_reducible refine Kd.C_drewN ?_ _) | (with_reducible refine Kd.C_drew ?_))); (case side2 => exact HC1.out); rintro e w13 ⟨v328, rfl, ho0, hb⟩; have HO329 := Aside0.mk (Kd.R_lower ho0 (below_size (zw1 HB.out GE324.out))); have n1_ := Aside0.mk (zbb BK324.out hb); have n2_ := Aside0.mk (below_step (zw1 HB.out GE324.out) hb); clear BK324 HB; have BK324 := n1_; have HB := n2_; clear n1_ n2_; (try clear hb); (try clear hb2); (try clear hk); (try clear hi); (try clear ho0)))
    repeat (go_quiet (first | (go_at_call 60; (with_reducible refine (cellarref7_Offsets.calls kj4 a0_0 a0_1 _ _ l1 a2 t327 _ ?side1 ?side2 A11.out).mono ?_); (case side1 => repeat (first | exact (Kd.C_below HR1.out HB.out) | (with_reducible refine Kd.C_alloc ?_ _) | (with_reducible refine Kd.C_drewN ?_ _) | (with_reducible refine Kd.C_drew ?_))); (case side2 => exact HC1.out); rintro e w13 ⟨v328, rfl, ho0, hb⟩; have HO329 := Aside0.mk (Kd.R_lower ho0 (below_size (zw1 HB.out GE324.out))); have n1_ := Aside0.mk (zbb BK324.out hb); have n2_ := Aside0.mk (below_step (zw1 HB.out GE324.out) hb); clear BK324 HB; have BK324 := n1_; have HB := n2_; clear n1_ n2_; (try clear hb); (try clear hb2); (try clear hk); (try clear hi); (try clear ho0))); try go_wp2_with (first | (go_at_call 60; (with_reducible refine (cellarref7_Offsets.calls kj4 a0_0 a0_1 _ _ l1 a2 t327 _ ?side1 ?side2 A11.out).mono ?_); (case side1 => repeat (first | exact (Kd.C_below HR1.out HB.out) | (with_reducible refine Kd.C_alloc ?_ _) | (with_reducible refine Kd.C_drewN ?_ _) | (with_reducible refine Kd.C_drew ?_))); (case side2 => exact HC1.out); rintro e w13 ⟨v328, rfl, ho0, hb⟩; have HO329 := Aside0.mk (Kd.R_lower ho0 (below_size (zw1 HB.out GE324.out))); have n1_ := Aside0.mk (zbb BK324.out hb); have n2_ := Aside0.mk (below_step (zw1 HB.out GE324.out) hb); clear BK324 HB; have BK324 := n1_; have HB := n2_; clear n1_ n2_; (try clear hb); (try clear hb2); (try clear hk); (try clear hi); (try clear ho0))))
    go_loopg [12] kj4 (fun kq v12 w' => ∃ (x12_2 : Int), v12 = .int .i64 x12_2 ∧ Aside0 (cellarref7_Field.l0 kq l1 a2 a3 t327 x12_2 = some (r1, r2, r3)) ∧ Aside0 (kq ≤ kj4) ∧ Aside0 (Kd.R (Kd.int .i64) 3 w' w.heap.size (fun _ => True) v328 t327) ∧ Aside0 (w'.heap[gb324]? = some (.cells #[.bool a0_0, .int .i64 a0_1] 29 (0, 0))) ∧ Aside0 (Below w.heap.size w w'))
    case atStart => exact ⟨(0), (zr), H', ⟨Nat.le_refl _⟩, ⟨by (with_reducible repeat (first | apply Kd.R_alloc | apply Kd.R_drewN | apply Kd.R_drew)); exact HO329.out⟩, ⟨zb BK324.out⟩, ⟨zw1 HB.out GE324.out⟩⟩
    case round =>
     clear H'
     try clear c1; try clear c2; try clear p2; try clear c3; try clear p3; try clear q3; try clear c7; try clear c7b0; try clear c8; try clear c8b0; try clear c9; try clear c9b0; try clear c9b1; try clear c10; try clear p2; try clear p3; try clear p325; try clear p326; try clear q3; try clear q325; try clear q326
     obtain ⟨x12_2, rfl, HA, HK2, HO_11, BK324, HB⟩ := hrel
     cases gk with
     | zero => exact absurd HA.out (by simp [cellarref7_Field.l0])
     | succ k2 =>
      have H := HA.out
      clear HA
      simp only [cellarref7_Field.l0] at H
      by_cases c14 : x12_2 < (t327.length : Int)
      ·rw [if_pos c14] at H
       have c14b0 : decide (x12_2 < (t327.length : Int)) = true := decide_eq_true c14
       clear c14
       by_cases c15 : 0 ≤ a2
       rotate_left
       ·rw [if_neg c15] at H
        exact absurd H (by simp)
       rw [if_pos c15] at H
       have c15b0 : decide (0 ≤ a2) = true := decide_eq_true c15
       clear c15
       by_cases c16 : a2 < (l1.length : Int)
       rotate_left
       ·rw [if_neg c16] at H
        exact absurd H (by simp)
       rw [if_pos c16] at H
       have c16b0 : decide (a2 < (l1.length : Int)) = true := decide_eq_true c16
       clear c16
       by_cases c17 : 0 ≤ x12_2
       rotate_left
       ·rw [if_neg c17] at H
        exact absurd H (by simp)
       rw [if_pos c17] at H
       have c17b0 : decide (0 ≤ x12_2) = true := decide_eq_true c17
       clear c17
       by_cases c18 : x12_2 < (((rd_T31 l1 a2).f3).length : Int)
       rotate_left
       ·rw [if_neg c18] at H
        exact absurd H (by simp)
       rw [if_pos c18] at H
       have c18b0 : decide (x12_2 < (((rd_T31 l1 a2).f3).length : Int)) = true := decide_eq_true c18
       clear c18
       by_cases c19 : (rdOf ByteArray.empty ((rd_T31 l1 a2).f3) x12_2).toList = a3.toList
       rotate_left
       ·rw [if_neg c19] at H
        have c19b0 : ((rdOf ByteArray.empty ((rd_T31 l1 a2).f3) x12_2).toList == a3.toList) = false := beq_eq_false_iff_ne.mpr c19
        have c19b1 : ((rdOf ByteArray.empty ((rd_T31 l1 a2).f3) x12_2).toList != a3.toList) = true := bne_iff_ne.mpr c19
        have H' := Aside0.mk H
        clear H
        obtain ⟨Ao22, co22, eo22⟩ := Kd.R_slice HO_11.out
        subst eo22
        have p330 : 0 ≤ (a2 : Int) := zdec
        have q330 : a2 < (l1.length : Int) := zdec
        obtain ⟨ad330, A330_3, c330_3, A330_4, c330_4, e330, hx330_0, hx330_1, hx330_2, hx330_3, hx330_4, hl330_3, hi330_3, hl330_4, hi330_4⟩ := at_T31 HR1.out a2 p330 q330
        cases e330
        replace hx330_0 := zh HB.out hx330_0
        replace hx330_1 := zh HB.out hx330_1
        replace hx330_2 := zh HB.out hx330_2
        replace hx330_3 := zh HB.out hx330_3
        replace hx330_4 := zh HB.out hx330_4
        have HR330_3 := Aside0.mk hi330_3
        have HC330_3 := Aside0.mk hl330_3
        clear hi330_3 hl330_3
        have HR330_4 := Aside0.mk hi330_4
        have HC330_4 := Aside0.mk hl330_4
        clear hi330_4 hl330_4
        replace p330 := eq_true p330
        replace q330 := eq_true q330
        have p331 : 0 ≤ (x12_2 : Int) := zdec
        have q331 : x12_2 < (((rd_T31 l1 a2).f3).length : Int) := zdec
        obtain ⟨ad331, e331, hx331_0⟩ := Kd.at_string HR330_3.out x12_2 p331 q331
        cases e331
        replace hx331_0 := zh HB.out hx331_0
        replace p331 := eq_true p331
        replace q331 := eq_true q331
        go_wp2
        repeat (go_quiet (fail); try go_wp2)
        go_roundg k2
        case measure => have := HJ4.out; have := HK2.out; omega
        case rel => exact ⟨(wrap64 (x12_2 + 1)), (zr), H', ⟨by have := HJ4.out; have := HK2.out; omega⟩, ⟨by (with_reducible repeat (first | apply Kd.R_alloc | apply Kd.R_drewN | apply Kd.R_drew)); exact HO_11.out⟩, ⟨zb BK324.out⟩, ⟨zw1 HB.out GE324.out⟩⟩
       rw [if_pos c19] at H
       have c19b0 : ((rdOf ByteArray.empty ((rd_T31 l1 a2).f3) x12_2).toList == a3.toList) = true := beq_iff_eq.mpr c19
       have c19b1 : ((rdOf ByteArray.empty ((rd_T31 l1 a2).f3) x12_2).toList != a3.toList) = false := bne_eq_false_iff_eq.mpr c19
       clear c19
       by_cases c20 : x12_2 < (((rd_T31 l1 a2).f4).length : Int)
       rotate_left
       ·rw [if_neg c20] at H
        exact absurd H (by simp)
       rw [if_pos c20] at H
       have c20b0 : decide (x12_2 < (((rd_T31 l1 a2).f4).length : Int)) = true := decide_eq_true c20
       clear c20
       simp only [Option.some.injEq, Prod.mk.injEq] at H
       obtain ⟨rfl, rfl, rfl⟩ := H
       obtain ⟨Ao21, co21, eo21⟩ := Kd.R_slice HO_11.out
       subst eo21
       have p330 : 0 ≤ (a2 : Int) := zdec
       have q330 : a2 < (l1.length : Int) := zdec
       obtain ⟨ad330, A330_3, c330_3, A330_4, c330_4, e330, hx330_0, hx330_1, hx330_2, hx330_3, hx330_4, hl330_3, hi330_3, hl330_4, hi330_4⟩ := at_T31 HR1.out a2 p330 q330
       cases e330
       replace hx330_0 := zh HB.out hx330_0
       replace hx330_1 := zh HB.out hx330_1
       replace hx330_2 := zh HB.out hx330_2
       replace hx330_3 := zh HB.out hx330_3
       replace hx330_4 := zh HB.out hx330_4
       have HR330_3 := Aside0.mk hi330_3
       have HC330_3 := Aside0.mk hl330_3
       clear hi330_3 hl330_3
       have HR330_4 := Aside0.mk hi330_4
       have HC330_4 := Aside0.mk hl330_4
       clear hi330_4 hl330_4
       replace p330 := eq_true p330
       replace q330 := eq_true q330
       have p331 : 0 ≤ (x12_2 : Int) := zdec
       have q331 : x12_2 < (((rd_T31 l1 a2).f3).length : Int) := zdec
       obtain ⟨ad331, e331, hx331_0⟩ := Kd.at_string HR330_3.out x12_2 p331 q331
       cases e331
       replace hx331_0 := zh HB.out hx331_0
       replace p331 := eq_true p331
       replace q331 := eq_true q331
       have p332 : 0 ≤ (x12_2 : Int) := zdec
       have q332 : x12_2 < (t327.length : Int) := zdec
       obtain ⟨ad332, e332, hx332_0⟩ := Kd.at_int (Kd.R_reads' HO_11.out).2.2 x12_2 p332 q332
       cases e332
       replace p332 := eq_true p332
       replace q332 := eq_true q332
       have p333 : 0 ≤ (a2 : Int) := zdec
       have q333 : a2 < (l1.length : Int) := zdec
       obtain ⟨ad333, A333_3, c333_3, A333_4, c333_4, e333, hx333_0, hx333_1, hx333_2, hx333_3, hx333_4, hl333_3, hi333_3, hl333_4, hi333_4⟩ := at_T31 HR1.out a2 p333 q333
       obtain rfl : ad330 = ad333 := (by injection e333)
       replace hx333_0 := zh HB.out hx333_0
       replace hx333_1 := zh HB.out hx333_1
       replace hx333_2 := zh HB.out hx333_2
       replace hx333_3 := zh HB.out hx333_3
       replace hx333_4 := zh HB.out hx333_4
       have HR333_3 := Aside0.mk hi333_3
       have HC333_3 := Aside0.mk hl333_3
       clear hi333_3 hl333_3
       have HR333_4 := Aside0.mk hi333_4
       have HC333_4 := Aside0.mk hl333_4
       clear hi333_4 hl333_4
       replace p333 := eq_true p333
       replace q333 := eq_true q333
       have ea_ := Option.some.inj (hx330_3.symm.trans hx333_3)
       injection ea_ with ea_ en_ ec_
       subst ea_
       subst ec_
       clear en_
       have ea_ := Option.some.inj (hx330_4.symm.trans hx333_4)
       injection ea_ with ea_ en_ ec_
       subst ea_
       subst ec_
       clear en_
       have p334 : 0 ≤ (x12_2 : Int) := zdec
       have q334 : x12_2 < (((rd_T31 l1 a2).f4).length : Int) := zdec
       obtain ⟨ad334, e334, hx334_0⟩ := Kd.at_int HR333_4.out x12_2 p334 q334
       cases e334
       replace hx334_0 := zh HB.out hx334_0
       replace p334 := eq_true p334
       replace q334 := eq_true q334
       go_wp2
       repeat (go_quiet (fail); try go_wp2)
       go_ret3
       exact ⟨ze, zw1 HB.out GE324.out⟩
      ·rw [if_neg c14] at H
       have c14b0 : decide (x12_2 < (t327.length : Int)) = false := decide_eq_false c14
       clear c14
       simp only [Option.some.injEq, Prod.mk.injEq] at H
       obtain ⟨rfl, rfl, rfl⟩ := H
       obtain ⟨Ao23, co23, eo23⟩ := Kd.R_slice HO_11.out
       subst eo23
       go_wp2
       repeat (go_quiet (fail); try go_wp2)
       go_ret3
       exact ⟨ze, zw1 HB.out GE324.out⟩

/-! lay_Item -/
def lay_Item.f (k : Nat) (a0_0 : Bool) (a0_1 : Int) (l1 : List (S31)) (a2 : Int) (a3 : Int) : Option (Int × Int) := (lay_asked.f k a0_0 a0_1 l1 a2).bind fun bt336 => (if bt336.2 = 0 then (if 0 ≤ a2 then (if a2 < (l1.length : Int) then (if ((rd_T31 l1 a2).f0) = 8 then (if a3 < 0 then (some (0, 2)) else (if a3 ≥ ((rd_T31 l1 a2).f1) then (some (0, 2)) else (if 0 ≤ ((rd_T31 l1 a2).f2) then (if ((rd_T31 l1 a2).f2) < (bt336.1.length : Int) then (some (wrap64 (a3 * ((rd_T103 bt336.1 ((rd_T31 l1 a2).f2)).f0)), 0)) else (none)) else (none)))) else (some (0, 5))) else (none)) else (none)) else (some (0, bt336.2)))
theorem lay_Item.mono : ∀ a0 a1 a2 a3 a4 k, LeO (lay_Item.f k a0 a1 a2 a3 a4) (lay_Item.f (k + 1) a0 a1 a2 a3 a4) := by
 intro a0 a1 a2 a3 a4 k
 unfold lay_Item.f
 repeat' first
   | (with_reducible apply lay_asked.mono)
   | (with_reducible apply LeO.refl)
   | (with_reducible apply LeO.none)
   | (with_reducible refine LeO.ite ?_ ?_)
   | (with_reducible refine LeO.bind ?_ (fun _ => ?_))
set_option maxHeartbeats 8000000 in
set_option maxRecDepth 100000 in
theorem lay_Item.calls (k : Nat) (a0_0 : Bool) (a0_1 : Int) (A1 : Option Addr) (c1 : Nat) (l1 : List (S31)) (a2 : Int) (a3 : Int) (r1 : Int) (r2 : Int) (w : World) (hr1 : Kd.C k31 w A1 l1.length l1) (hc1 : l1.length ≤ c1) (h : lay_Item.f k a0_0 a0_1 l1 a2 a3 = some (r1, r2)) :
  Calls Try.prog 23 #[.agg #[.bool a0_0, .int .i64 a0_1], .slice A1 l1.length c1, .int .i64 a2, .int .i64 a3] w fun e w' => e = .returned (.tuple #[.int .i64 r1, .int .i64 r2]) ∧ Below w.heap.size w w' := by
 have hu29 := Try.underlying29
 have HR1 := Aside0.mk hr1
 have HC1 := Aside0.mk hc1
 clear hr1 hc1
 have HB := Aside0.mk (Below.refl w.heap.size w)
 have H : ((lay_asked.f k a0_0 a0_1 l1 a2).bind fun bt336 => (if bt336.2 = 0 then (if 0 ≤ a2 then (if a2 < (l1.length : Int) then (if ((rd_T31 l1 a2).f0) = 8 then (if a3 < 0 then (some (0, 2)) else (if a3 ≥ ((rd_T31 l1 a2).f1) then (some (0, 2)) else (if 0 ≤ ((rd_T31 l1 a2).f2) then (if ((rd_T31 l1 a2).f2) < (bt336.1.length : Int) then (some (wrap64 (a3 * ((rd_T103 bt336.1 ((rd_T31 l1 a2).f2)).f0)), 0)) else (none)) else (none)))) else (some (0, 5))) else (none)) else (none)) else (some (0, bt336.2)))) = some (r1, r2) := h
 clear h
 replace H := Option.bind_eq_some_iff.mp H
 obtain ⟨⟨t336, t339⟩, A50, H⟩ := H
 replace H : (if t339 = 0 then (if 0 ≤ a2 then (if a2 < (l1.length : Int) then (if ((rd_T31 l1 a2).f0) = 8 then (if a3 < 0 then (some (0, 2)) else (if a3 ≥ ((rd_T31 l1 a2).f1) then (some (0, 2)) else (if 0 ≤ ((rd_T31 l1 a2).f2) then (if ((rd_T31 l1 a2).f2) < (t336.length : Int) then (some (wrap64 (a3 * ((rd_T103 t336 ((rd_T31 l1 a2).f2)).f0)), 0)) else (none)) else (none)))) else (some (0, 5))) else (none)) else (none)) else (some (0, t339))) = some (r1, r2) := H
 have A5 := Aside0.mk A50
 clear A50
 by_cases c6 : t339 = 0
 ·rw [if_pos c6] at H
  have c6b0 : (t339 == 0) = true := beq_iff_eq.mpr c6
  have c6b1 : (t339 != 0) = false := bne_eq_false_iff_eq.mpr c6
  clear c6
  by_cases c7 : 0 ≤ a2
  rotate_left
  ·rw [if_neg c7] at H
   exact absurd H (by simp)
  rw [if_pos c7] at H
  have c7b0 : decide (0 ≤ a2) = true := decide_eq_true c7
  clear c7
  by_cases c8 : a2 < (l1.length : Int)
  rotate_left
  ·rw [if_neg c8] at H
   exact absurd H (by simp)
  rw [if_pos c8] at H
  have c8b0 : decide (a2 < (l1.length : Int)) = true := decide_eq_true c8
  clear c8
  by_cases c9 : ((rd_T31 l1 a2).f0) = 8
  rotate_left
  ·rw [if_neg c9] at H
   have c9b0 : (((rd_T31 l1 a2).f0) == 8) = false := beq_eq_false_iff_ne.mpr c9
   have c9b1 : (((rd_T31 l1 a2).f0) != 8) = true := bne_iff_ne.mpr c9
   simp only [Option.some.injEq, Prod.mk.injEq] at H
   obtain ⟨rfl, rfl⟩ := H
   go_enter Try.func23, Try.ntmps23
   go_wp2_with (first | ((with_reducible refine gate_dst (N := 4) rfl ?_); refine zbox (N := 4) (cs := #[.bool a0_0, .int .i64 a0_1]) (t := 29) ?_; intro gb335 hg w24 hbox hb; have n0_ := Aside0.mk (below_step (zw0 HB.out) hb); have BK335 := Aside0.mk (hbox); have GW335 := Aside0.mk (zg hg (below_size (zw0 HB.out))); have GE335 := GW335; clear HB; have HB := n0_; clear n0_; clear hb hbox hg; have hcz25_0 := zc BK335.out 0; have hcz25_1 := zc BK335.out 1; have hfz25_0 := blk_frozen BK335.out 0; have hfz25_1 := blk_frozen BK335.out 1) | ((with_reducible refine gate_callee (f := 57) rfl ?_); refine zgo (some 16) Try.func57 #[.agg #[.bool a0_0, .int .i64 a0_1], .slice A1 l1.length c1, .int .i64 a2] ?_; (with_reducible refine (lay_asked.calls k a0_0 a0_1 _ _ l1 a2 t336 t339 _ ?side1 ?side2 A5.out).mono ?_); (case side1 => repeat (first | exact (Kd.C_below HR1.out HB.out) | (with_reducible refine Kd.C_alloc ?_ _) | (with_reducible refine Kd.C_drewN ?_ _) | (with_reducible refine Kd.C_drew ?_))); (case side2 => exact HC1.out); rintro e w26 ⟨v337, rfl, ho0, hb⟩; refine ⟨_, rfl, ?_⟩; have HO338 := Aside0.mk (Kd.R_lower ho0 (below_size (zw1 HB.out GE335.out))); have n1_ := Aside0.mk (zbb BK335.out hb); have n2_ := Aside0.mk (below_step (zw1 HB.out GE335.out) hb); clear BK335 HB; have BK335 := n1_; have HB := n2_; clear n1_ n2_; (try clear hb); (try clear hb2); (try clear hk); (try clear hi); (try clear ho0); have p340 : 0 ≤ (a2 : Int) := zdec; have q340 : a2 < (l1.length : Int) := zdec; obtain ⟨ad340, A340_3, c340_3, A340_4, c340_4, e340, hx340_0, hx340_1, hx340_2, hx340_3, hx340_4, hl340_3, hi340_3, hl340_4, hi340_4⟩ := at_T31 HR1.out a2 p340 q340; cases e340; replace hx340_0 := zh HB.out hx340_0; replace hx340_1 := zh HB.out hx340_1; replace hx340_2 := zh HB.out hx340_2; replace hx340_3 := zh HB.out hx340_3; replace hx340_4 := zh HB.out hx340_4; have HR340_3 := Aside0.mk hi340_3; have HC340_3 := Aside0.mk hl340_3; clear hi340_3 hl340_3; have HR340_4 := Aside0.mk hi340_4; have HC340_4 := Aside0.mk hl340_4; clear hi340_4 hl340_4; replace p340 := eq_true p340; replace q340 := eq_true q340))
   go_ret2
   exact ⟨ze, zw1 HB.out GE335.out⟩
  rw [if_pos c9] at H
  have c9b0 : (((rd_T31 l1 a2).f0) == 8) = true := beq_iff_eq.mpr c9
  have c9b1 : (((rd_T31 l1 a2).f0) != 8) = false := bne_eq_false_iff_eq.mpr c9
  clear c9
  by_cases c10 : a3 < 0
  ·rw [if_pos c10] at H
   have c10b0 : decide (a3 < 0) = true := decide_eq_true c10
   clear c10
   simp only [Option.some.injEq, Prod.mk.injEq] at H
   obtain ⟨rfl, rfl⟩ := H
   go_enter Try.func23, Try.ntmps23
   go_wp2_with (first | ((with_reducible refine gate_dst (N := 4) rfl ?_); refine zbox (N := 4) (cs := #[.bool a0_0, .int .i64 a0_1]) (t := 29) ?_; intro gb335 hg w11 hbox hb; have n0_ := Aside0.mk (below_step (zw0 HB.out) hb); have BK335 := Aside0.mk (hbox); have GW335 := Aside0.mk (zg hg (below_size (zw0 HB.out))); have GE335 := GW335; clear HB; have HB := n0_; clear n0_; clear hb hbox hg; have hcz12_0 := zc BK335.out 0; have hcz12_1 := zc BK335.out 1; have hfz12_0 := blk_frozen BK335.out 0; have hfz12_1 := blk_frozen BK335.out 1) | ((with_reducible refine gate_callee (f := 57) rfl ?_); refine zgo (some 16) Try.func57 #[.agg #[.bool a0_0, .int .i64 a0_1], .slice A1 l1.length c1, .int .i64 a2] ?_; (with_reducible refine (lay_asked.calls k a0_0 a0_1 _ _ l1 a2 t336 t339 _ ?side1 ?side2 A5.out).mono ?_); (case side1 => repeat (first | exact (Kd.C_below HR1.out HB.out) | (with_reducible refine Kd.C_alloc ?_ _) | (with_reducible refine Kd.C_drewN ?_ _) | (with_reducible refine Kd.C_drew ?_))); (case side2 => exact HC1.out); rintro e w13 ⟨v337, rfl, ho0, hb⟩; refine ⟨_, rfl, ?_⟩; have HO338 := Aside0.mk (Kd.R_lower ho0 (below_size (zw1 HB.out GE335.out))); have n1_ := Aside0.mk (zbb BK335.out hb); have n2_ := Aside0.mk (below_step (zw1 HB.out GE335.out) hb); clear BK335 HB; have BK335 := n1_; have HB := n2_; clear n1_ n2_; (try clear hb); (try clear hb2); (try clear hk); (try clear hi); (try clear ho0); have p340 : 0 ≤ (a2 : Int) := zdec; have q340 : a2 < (l1.length : Int) := zdec; obtain ⟨ad340, A340_3, c340_3, A340_4, c340_4, e340, hx340_0, hx340_1, hx340_2, hx340_3, hx340_4, hl340_3, hi340_3, hl340_4, hi340_4⟩ := at_T31 HR1.out a2 p340 q340; cases e340; replace hx340_0 := zh HB.out hx340_0; replace hx340_1 := zh HB.out hx340_1; replace hx340_2 := zh HB.out hx340_2; replace hx340_3 := zh HB.out hx340_3; replace hx340_4 := zh HB.out hx340_4; have HR340_3 := Aside0.mk hi340_3; have HC340_3 := Aside0.mk hl340_3; clear hi340_3 hl340_3; have HR340_4 := Aside0.mk hi340_4; have HC340_4 := Aside0.mk hl340_4; clear hi340_4 hl340_4; replace p340 := eq_true p340; replace q340 := eq_true q340))
   go_ret2
   exact ⟨ze, zw1 HB.out GE335.out⟩
  rw [if_neg c10] at H
  have c10b0 : decide (a3 < 0) = false := decide_eq_false c10
  clear c10
  by_cases c14 : a3 ≥ ((rd_T31 l1 a2).f1)
  ·rw [if_pos c14] at H
   have c14b0 : decide (((rd_T31 l1 a2).f1) ≤ a3) = true := decide_eq_true c14
   clear c14
   simp only [Option.some.injEq, Prod.mk.injEq] at H
   obtain ⟨rfl, rfl⟩ := H
   go_enter Try.func23, Try.ntmps23
   go_wp2_with (first | ((with_reducible refine gate_dst (N := 4) rfl ?_); refine zbox (N := 4) (cs := #[.bool a0_0, .int .i64 a0_1]) (t := 29) ?_; intro gb335 hg w15 hbox hb; have n0_ := Aside0.mk (below_step (zw0 HB.out) hb); have BK335 := Aside0.mk (hbox); have GW335 := Aside0.mk (zg hg (below_size (zw0 HB.out))); have GE335 := GW335; clear HB; have HB := n0_; clear n0_; clear hb hbox hg; have hcz16_0 := zc BK335.out 0; have hcz16_1 := zc BK335.out 1; have hfz16_0 := blk_frozen BK335.out 0; have hfz16_1 := blk_frozen BK335.out 1) | ((with_reducible refine gate_callee (f := 57) rfl ?_); refine zgo (some 16) Try.func57 #[.agg #[.bool a0_0, .int .i64 a0_1], .slice A1 l1.length c1, .int .i64 a2] ?_; (with_reducible refine (lay_asked.calls k a0_0 a0_1 _ _ l1 a2 t336 t339 _ ?side1 ?side2 A5.out).mono ?_); (case side1 => repeat (first | exact (Kd.C_below HR1.out HB.out) | (with_reducible refine Kd.C_alloc ?_ _) | (with_reducible refine Kd.C_drewN ?_ _) | (with_reducible refine Kd.C_drew ?_))); (case side2 => exact HC1.out); rintro e w17 ⟨v337, rfl, ho0, hb⟩; refine ⟨_, rfl, ?_⟩; have HO338 := Aside0.mk (Kd.R_lower ho0 (below_size (zw1 HB.out GE335.out))); have n1_ := Aside0.mk (zbb BK335.out hb); have n2_ := Aside0.mk (below_step (zw1 HB.out GE335.out) hb); clear BK335 HB; have BK335 := n1_; have HB := n2_; clear n1_ n2_; (try clear hb); (try clear hb2); (try clear hk); (try clear hi); (try clear ho0); have p340 : 0 ≤ (a2 : Int) := zdec; have q340 : a2 < (l1.length : Int) := zdec; obtain ⟨ad340, A340_3, c340_3, A340_4, c340_4, e340, hx340_0, hx340_1, hx340_2, hx340_3, hx340_4, hl340_3, hi340_3, hl340_4, hi340_4⟩ := at_T31 HR1.out a2 p340 q340; cases e340; replace hx340_0 := zh HB.out hx340_0; replace hx340_1 := zh HB.out hx340_1; replace hx340_2 := zh HB.out hx340_2; replace hx340_3 := zh HB.out hx340_3; replace hx340_4 := zh HB.out hx340_4; have HR340_3 := Aside0.mk hi340_3; have HC340_3 := Aside0.mk hl340_3; clear hi340_3 hl340_3; have HR340_4 := Aside0.mk hi340_4; have HC340_4 := Aside0.mk hl340_4; clear hi340_4 hl340_4; replace p340 := eq_true p340; replace q340 := eq_true q340; have p341 : 0 ≤ (a2 : Int) := zdec; have q341 : a2 < (l1.length : Int) := zdec; obtain ⟨ad341, A341_3, c341_3, A341_4, c341_4, e341, hx341_0, hx341_1, hx341_2, hx341_3, hx341_4, hl341_3, hi341_3, hl341_4, hi341_4⟩ := at_T31 HR1.out a2 p341 q341; obtain rfl : ad340 = ad341 := (by injection e341); replace hx341_0 := zh HB.out hx341_0; replace hx341_1 := zh HB.out hx341_1; replace hx341_2 := zh HB.out hx341_2; replace hx341_3 := zh HB.out hx341_3; replace hx341_4 := zh HB.out hx341_4; have HR341_3 := Aside0.mk hi341_3; have HC341_3 := Aside0.mk hl341_3; clear hi341_3 hl341_3; have HR341_4 := Aside0.mk hi341_4; have HC341_4 := Aside0.mk hl341_4; clear hi341_4 hl341_4; replace p341 := eq_true p341; replace q341 := eq_true q341; have ea_ := Option.some.inj (hx340_3.symm.trans hx341_3); injection ea_ with ea_ en_ ec_; subst ea_; subst ec_; clear en_; have ea_ := Option.some.inj (hx340_4.symm.trans hx341_4); injection ea_ with ea_ en_ ec_; subst ea_; subst ec_; clear en_))
   go_ret2
   exact ⟨ze, zw1 HB.out GE335.out⟩
  rw [if_neg c14] at H
  have c14b0 : decide (((rd_T31 l1 a2).f1) ≤ a3) = false := decide_eq_false c14
  clear c14
  by_cases c18 : 0 ≤ ((rd_T31 l1 a2).f2)
  rotate_left
  ·rw [if_neg c18] at H
   exact absurd H (by simp)
  rw [if_pos c18] at H
  have c18b0 : decide (0 ≤ ((rd_T31 l1 a2).f2)) = true := decide_eq_true c18
  clear c18
  by_cases c19 : ((rd_T31 l1 a2).f2) < (t336.length : Int)
  rotate_left
  ·rw [if_neg c19] at H
   exact absurd H (by simp)
  rw [if_pos c19] at H
  have c19b0 : decide (((rd_T31 l1 a2).f2) < (t336.length : Int)) = true := decide_eq_true c19
  clear c19
  simp only [Option.some.injEq, Prod.mk.injEq] at H
  obtain ⟨rfl, rfl⟩ := H
  go_enter Try.func23, Try.ntmps23
  go_wp2_with (first | ((with_reducible refine gate_dst (N := 4) rfl ?_); refine zbox (N := 4) (cs := #[.bool a0_0, .int .i64 a0_1]) (t := 29) ?_; intro gb335 hg w20 hbox hb; have n0_ := Aside0.mk (below_step (zw0 HB.out) hb); have BK335 := Aside0.mk (hbox); have GW335 := Aside0.mk (zg hg (below_size (zw0 HB.out))); have GE335 := GW335; clear HB; have HB := n0_; clear n0_; clear hb hbox hg; have hcz21_0 := zc BK335.out 0; have hcz21_1 := zc BK335.out 1; have hfz21_0 := blk_frozen BK335.out 0; have hfz21_1 := blk_frozen BK335.out 1) | ((with_reducible refine gate_callee (f := 57) rfl ?_); refine zgo (some 16) Try.func57 #[.agg #[.bool a0_0, .int .i64 a0_1], .slice A1 l1.length c1, .int .i64 a2] ?_; (with_reducible refine (lay_asked.calls k a0_0 a0_1 _ _ l1 a2 t336 t339 _ ?side1 ?side2 A5.out).mono ?_); (case side1 => repeat (first | exact (Kd.C_below HR1.out HB.out) | (with_reducible refine Kd.C_alloc ?_ _) | (with_reducible refine Kd.C_drewN ?_ _) | (with_reducible refine Kd.C_drew ?_))); (case side2 => exact HC1.out); rintro e w22 ⟨v337, rfl, ho0, hb⟩; refine ⟨_, rfl, ?_⟩; have HO338 := Aside0.mk (Kd.R_lower ho0 (below_size (zw1 HB.out GE335.out))); have n1_ := Aside0.mk (zbb BK335.out hb); have n2_ := Aside0.mk (below_step (zw1 HB.out GE335.out) hb); clear BK335 HB; have BK335 := n1_; have HB := n2_; clear n1_ n2_; (try clear hb); (try clear hb2); (try clear hk); (try clear hi); (try clear ho0); have p340 : 0 ≤ (a2 : Int) := zdec; have q340 : a2 < (l1.length : Int) := zdec; obtain ⟨ad340, A340_3, c340_3, A340_4, c340_4, e340, hx340_0, hx340_1, hx340_2, hx340_3, hx340_4, hl340_3, hi340_3, hl340_4, hi340_4⟩ := at_T31 HR1.out a2 p340 q340; cases e340; replace hx340_0 := zh HB.out hx340_0; replace hx340_1 := zh HB.out hx340_1; replace hx340_2 := zh HB.out hx340_2; replace hx340_3 := zh HB.out hx340_3; replace hx340_4 := zh HB.out hx340_4; have HR340_3 := Aside0.mk hi340_3; have HC340_3 := Aside0.mk hl340_3; clear hi340_3 hl340_3; have HR340_4 := Aside0.mk hi340_4; have HC340_4 := Aside0.mk hl340_4; clear hi340_4 hl340_4; replace p340 := eq_true p340; replace q340 := eq_true q340; have p341 : 0 ≤ (a2 : Int) := zdec; have q341 : a2 < (l1.length : Int) := zdec; obtain ⟨ad341, A341_3, c341_3, A341_4, c341_4, e341, hx341_0, hx341_1, hx341_2, hx341_3, hx341_4, hl341_3, hi341_3, hl341_4, hi341_4⟩ := at_T31 HR1.out a2 p341 q341; obtain rfl : ad340 = ad341 := (by injection e341); replace hx341_0 := zh HB.out hx341_0; replace hx341_1 := zh HB.out hx341_1; replace hx341_2 := zh HB.out hx341_2; replace hx341_3 := zh HB.out hx341_3; replace hx341_4 := zh HB.out hx341_4; have HR341_3 := Aside0.mk hi341_3; have HC341_3 := Aside0.mk hl341_3; clear hi341_3 hl341_3; have HR341_4 := Aside0.mk hi341_4; have HC341_4 := Aside0.mk hl341_4; clear hi341_4 hl341_4; replace p341 := eq_true p341; replace q341 := eq_true q341; have ea_ := Option.some.inj (hx340_3.symm.trans hx341_3); injection ea_ with ea_ en_ ec_; subst ea_; subst ec_; clear en_; have ea_ := Option.some.inj (hx340_4.symm.trans hx341_4); injection ea_ with ea_ en_ ec_; subst ea_; subst ec_; clear en_; have p342 : 0 ≤ (a2 : Int) := zdec; have q342 : a2 < (l1.length : Int) := zdec; obtain ⟨ad342, A342_3, c342_3, A342_4, c342_4, e342, hx342_0, hx342_1, hx342_2, hx342_3, hx342_4, hl342_3, hi342_3, hl342_4, hi342_4⟩ := at_T31 HR1.out a2 p342 q342; obtain rfl : ad340 = ad342 := (by injection e342); replace hx342_0 := zh HB.out hx342_0; replace hx342_1 := zh HB.out hx342_1; replace hx342_2 := zh HB.out hx342_2; replace hx342_3 := zh HB.out hx342_3; replace hx342_4 := zh HB.out hx342_4; have HR342_3 := Aside0.mk hi342_3; have HC342_3 := Aside0.mk hl342_3; clear hi342_3 hl342_3; have HR342_4 := Aside0.mk hi342_4; have HC342_4 := Aside0.mk hl342_4; clear hi342_4 hl342_4; replace p342 := eq_true p342; replace q342 := eq_true q342; have ea_ := Option.some.inj (hx340_3.symm.trans hx342_3); injection ea_ with ea_ en_ ec_; subst ea_; subst ec_; clear en_; have ea_ := Option.some.inj (hx340_4.symm.trans hx342_4); injection ea_ with ea_ en_ ec_; subst ea_; subst ec_; clear en_; obtain ⟨Ao23, co23, eo23⟩ := Kd.R_slice HO338.out; subst eo23; have p343 : 0 ≤ (((rd_T31 l1 a2).f2) : Int) := zdec; have q343 : ((rd_T31 l1 a2).f2) < (t336.length : Int) := zdec; obtain ⟨ad343, e343, hx343_0, hx343_1, hx343_2⟩ := at_T103 (Kd.R_reads' HO338.out).2.2 ((rd_T31 l1 a2).f2) p343 q343; cases e343; replace p343 := eq_true p343; replace q343 := eq_true q343))
  go_ret2
  exact ⟨ze, zw1 HB.out GE335.out⟩
 ·rw [if_neg c6] at H
  have c6b0 : (t339 == 0) = false := beq_eq_false_iff_ne.mpr c6
  have c6b1 : (t339 != 0) = true := bne_iff_ne.mpr c6
  simp only [Option.some.injEq, Prod.mk.injEq] at H
  obtain ⟨rfl, rfl⟩ := H
  go_enter Try.func23, Try.ntmps23
  go_wp2_with (first | ((with_reducible refine gate_dst (N := 4) rfl ?_); refine zbox (N := 4) (cs := #[.bool a0_0, .int .i64 a0_1]) (t := 29) ?_; intro gb335 hg w27 hbox hb; have n0_ := Aside0.mk (below_step (zw0 HB.out) hb); have BK335 := Aside0.mk (hbox); have GW335 := Aside0.mk (zg hg (below_size (zw0 HB.out))); have GE335 := GW335; clear HB; have HB := n0_; clear n0_; clear hb hbox hg; have hcz28_0 := zc BK335.out 0; have hcz28_1 := zc BK335.out 1; have hfz28_0 := blk_frozen BK335.out 0; have hfz28_1 := blk_frozen BK335.out 1) | ((with_reducible refine gate_callee (f := 57) rfl ?_); refine zgo (some 16) Try.func57 #[.agg #[.bool a0_0, .int .i64 a0_1], .slice A1 l1.length c1, .int .i64 a2] ?_; (with_reducible refine (lay_asked.calls k a0_0 a0_1 _ _ l1 a2 t336 t339 _ ?side1 ?side2 A5.out).mono ?_); (case side1 => repeat (first | exact (Kd.C_below HR1.out HB.out) | (with_reducible refine Kd.C_alloc ?_ _) | (with_reducible refine Kd.C_drewN ?_ _) | (with_reducible refine Kd.C_drew ?_))); (case side2 => exact HC1.out); rintro e w29 ⟨v337, rfl, ho0, hb⟩; refine ⟨_, rfl, ?_⟩; have HO338 := Aside0.mk (Kd.R_lower ho0 (below_size (zw1 HB.out GE335.out))); have n1_ := Aside0.mk (zbb BK335.out hb); have n2_ := Aside0.mk (below_step (zw1 HB.out GE335.out) hb); clear BK335 HB; have BK335 := n1_; have HB := n2_; clear n1_ n2_; (try clear hb); (try clear hb2); (try clear hk); (try clear hi); (try clear ho0)))
  go_ret2
  exact ⟨ze, zw1 HB.out GE335.out⟩

end Go.Proofs.Ytjoplkillkhiaaa.L
