-- Written by this session's own edition of the print.
import Derived.Test.YtjoplkillkhiaaaLx0
import Derived.Test.YtjoplkillkhiaaaUSq
import Derived.Test.YtjoplkillkhiaaaUSq2
namespace Go.Proofs.Ytjoplkillkhiaaa.L
open Go.RowKit Go.Proofs.Ytjoplkillkhiaaa.Fn Go.Proofs.YtjoplkillkhiaaaW.PrintWords Go.Proofs.YtjoplkillkhiaaaW.PrintLast Go.Proofs.YtjoplkillkhiaaaW.PrintMore
attribute [local go_sem] max2_int min2_int max_two min_two max_three min_three max_four min_four   -- for this text's walks alone
set_option linter.unusedVariables false
set_option linter.unusedSimpArgs false

/-! cellarlaw7_num -/
def cellarlaw7_num.f (a0 : Int) : Option (Int) := some a0
set_option maxHeartbeats 8000000 in
set_option maxRecDepth 100000 in
theorem cellarlaw7_num.calls (a0 : Int) (r : Int) (w : World) (h : cellarlaw7_num.f a0 = some r) :
  Calls Try.prog 11 #[.int .i64 a0] w fun e w' => e = .returned (.int .i64 r) ∧ Drawn0 w w' := by
 have H : (some a0) = some r := h
 clear h
 obtain rfl := Option.some.inj H
 go_enter Try.func11, Try.ntmps11
 go_wp2
 go_ret
 exact ⟨zr, by repeat (first | exact Drawn0.refl _ | apply Drawn0.step)⟩

/-! lay_up -/
def lay_up.f (a0 : Int) (a1 : Int) : Option (Int) := if a1 = 0 then (none) else (some (wrap64 ((wrap64 (Int.tdiv (wrap64 ((wrap64 (a0 + a1)) - 1)) a1)) * a1)))
set_option maxHeartbeats 8000000 in
set_option maxRecDepth 100000 in
theorem lay_up.calls (a0 : Int) (a1 : Int) (r : Int) (w : World) (h : lay_up.f a0 a1 = some r) :
  Calls Try.prog 92 #[.int .i64 a0, .int .i64 a1] w fun e w' => e = .returned (.int .i64 r) ∧ Drawn0 w w' := by
 have H : (if a1 = 0 then (none) else (some (wrap64 ((wrap64 (Int.tdiv (wrap64 ((wrap64 (a0 + a1)) - 1)) a1)) * a1)))) = some r := h
 clear h
 by_cases c3 : a1 = 0
 ·rw [if_pos c3] at H
  exact absurd H (by simp)
 ·rw [if_neg c3] at H
  have c3b0 : (a1 == 0) = false := beq_eq_false_iff_ne.mpr c3
  have c3b1 : (a1 != 0) = true := bne_iff_ne.mpr c3
  obtain rfl := Option.some.inj H
  go_enter Try.func92, Try.ntmps92
  go_wp2
  go_ret
  exact ⟨zr, by repeat (first | exact Drawn0.refl _ | apply Drawn0.step)⟩

/-! lay_offsets -/
def lay_offsets.l0 : Nat → List (S103) → List Int → List Int → Int → Int → Int → Int → Int → List ByteArray → List Int → Int → Int → Int → Option (List Int × Int × Int × Int)
 | 0, _, _, _, _, _, _, _, _, _, _, _, _, _ => none
 | k + 1, x1, x4, x12, x13, x14, x102000, x102001, x102002, x102003, x102004, x103000, x103001, x103002 => if x14 < x13 then (if 0 ≤ x14 then (if x14 < (x12.length : Int) then (if 0 ≤ (rd x12 x14) then (if (rd x12 x14) < (x1.length : Int) then (if x102000 = 10 then (if x4.length < 17592186044416 then (lay_offsets.l0 k x1 (x4 ++ [0]) x12 x13 (wrap64 (x14 + 1)) x102000 x102001 x102002 x102003 x102004 (mx x103000 ((rd_T103 x1 (rd x12 x14)).f0)) (mx x103001 ((rd_T103 x1 (rd x12 x14)).f1)) (wrap64 (x103002 + ((rd_T103 x1 (rd x12 x14)).f2)))) else (none)) else ((lay_up.f x103000 ((rd_T103 x1 (rd x12 x14)).f1)).bind fun t109 => (if x4.length < 17592186044416 then (lay_offsets.l0 k x1 (x4 ++ [t109]) x12 x13 (wrap64 (x14 + 1)) x102000 x102001 x102002 x102003 x102004 (wrap64 (t109 + ((rd_T103 x1 (rd x12 x14)).f0))) (mx x103001 ((rd_T103 x1 (rd x12 x14)).f1)) (wrap64 (x103002 + ((rd_T103 x1 (rd x12 x14)).f2)))) else (none)))) else (none)) else (none)) else (none)) else (none)) else ((lay_up.f x103000 x103001).bind fun t113 => (some (x4, t113, x103001, x103002)))
def lay_offsets.f (k : Nat) (a0_0 : Int) (a0_1 : Int) (a0_2 : Int) (l0_3 : List ByteArray) (l0_4 : List Int) (l1 : List (S103)) : Option (List Int × Int × Int × Int) := lay_offsets.l0 k l1 ([] : List Int) l0_4 (l0_4.length : Int) 0 a0_0 a0_1 a0_2 l0_3 l0_4 0 1 0
theorem lay_offsets.mono_l : ∀ k, (∀ y0 y1 y2 y3 y4 y5 y6 y7 y8 y9 y10 y11 y12, LeO (lay_offsets.l0 k y0 y1 y2 y3 y4 y5 y6 y7 y8 y9 y10 y11 y12) (lay_offsets.l0 (k + 1) y0 y1 y2 y3 y4 y5 y6 y7 y8 y9 y10 y11 y12))
 | 0 => fun _ _ _ _ _ _ _ _ _ _ _ _ _ r h => by simp [lay_offsets.l0] at h
 | k + 1 => by
  have ih0 := lay_offsets.mono_l k
  ·intro y0 y1 y2 y3 y4 y5 y6 y7 y8 y9 y10 y11 y12
   unfold lay_offsets.l0
   repeat' first
   | (with_reducible apply ih0)
   | (with_reducible apply LeO.refl)
   | (with_reducible apply LeO.none)
   | (with_reducible refine LeO.ite ?_ ?_)
   | (with_reducible refine LeO.bind ?_ (fun _ => ?_))
theorem lay_offsets.mono : ∀ a0 a1 a2 a3 a4 a5 k, LeO (lay_offsets.f k a0 a1 a2 a3 a4 a5) (lay_offsets.f (k + 1) a0 a1 a2 a3 a4 a5) := by
 intro a0 a1 a2 a3 a4 a5 k
 have ih0 := lay_offsets.mono_l k
 unfold lay_offsets.f
 repeat' first
   | (with_reducible apply ih0)
   | (with_reducible apply LeO.refl)
   | (with_reducible apply LeO.none)
   | (with_reducible refine LeO.ite ?_ ?_)
   | (with_reducible refine LeO.bind ?_ (fun _ => ?_))
set_option maxHeartbeats 8000000 in
set_option maxRecDepth 100000 in
theorem lay_offsets.calls (k : Nat) (a0_0 : Int) (a0_1 : Int) (a0_2 : Int) (A0_3 : Option Addr) (c0_3 : Nat) (l0_3 : List ByteArray) (A0_4 : Option Addr) (c0_4 : Nat) (l0_4 : List Int) (A1 : Option Addr) (c1 : Nat) (l1 : List (S103)) (r1 : List Int) (r2 : Int) (r3 : Int) (r4 : Int) (w : World) (hr0_3 : Kd.C Kd.string w A0_3 l0_3.length l0_3) (hc0_3 : l0_3.length ≤ c0_3) (hr0_4 : Kd.C (Kd.int .i64) w A0_4 l0_4.length l0_4) (hc0_4 : l0_4.length ≤ c0_4) (hr1 : Kd.C k103 w A1 l1.length l1) (hc1 : l1.length ≤ c1) (h : lay_offsets.f k a0_0 a0_1 a0_2 l0_3 l0_4 l1 = some (r1, r2, r3, r4)) :
  Calls Try.prog 59 #[.agg #[.int .i64 a0_0, .int .i64 a0_1, .int .i64 a0_2, .slice A0_3 l0_3.length c0_3, .slice A0_4 l0_4.length c0_4], .slice A1 l1.length c1] w fun e w' => ∃ v0_ : Value, e = .returned (.tuple #[v0_, .agg #[.int .i64 r2, .int .i64 r3, .int .i64 r4]]) ∧ Kd.R (Kd.int .i64) 3 w' w.heap.size (fun _ => True) v0_ r1 ∧ Below w.heap.size w w' := by
 have hu31 := Try.underlying31
 have hu103 := Try.underlying103
 have HR0_3 := Aside0.mk hr0_3
 have HC0_3 := Aside0.mk hc0_3
 clear hr0_3 hc0_3
 have HR0_4 := Aside0.mk hr0_4
 have HC0_4 := Aside0.mk hc0_4
 clear hr0_4 hc0_4
 have HR1 := Aside0.mk hr1
 have HC1 := Aside0.mk hc1
 clear hr1 hc1
 have HB := Aside0.mk (Below.refl w.heap.size w)
 have H : (lay_offsets.l0 k l1 ([] : List Int) l0_4 (l0_4.length : Int) 0 a0_0 a0_1 a0_2 l0_3 l0_4 0 1 0) = some (r1, r2, r3, r4) := h
 clear h
 have H' := Aside0.mk H
 clear H
 go_enter Try.func59, Try.ntmps59
 go_wp2_with (first | ((with_reducible refine gate_dst (N := 2) rfl ?_); refine zbox (N := 2) (cs := #[.int .i64 a0_0, .int .i64 a0_1, .int .i64 a0_2, .slice A0_3 l0_3.length c0_3, .slice A0_4 l0_4.length c0_4]) (t := 31) ?_; intro gb101 hg w3 hbox hb; have n0_ := Aside0.mk (below_step (zw0 HB.out) hb); have BK101 := Aside0.mk (hbox); have GW101 := Aside0.mk (zg hg (below_size (zw0 HB.out))); have GE101 := GW101; clear HB; have HB := n0_; clear n0_; clear hb hbox hg) | ((with_reducible refine gate_dst (N := 5) rfl ?_); refine zbox (N := 5) (cs := #[.int .i64 0, .int .i64 0, .int .i64 0]) (t := 103) ?_; intro gb102 hg w4 hbox hb; have n0_ := Aside0.mk (zbb BK101.out hb); have n1_ := Aside0.mk (below_step (zw1 HB.out GE101.out) hb); have BK102 := Aside0.mk (hbox); have GW102 := Aside0.mk (zg hg (below_size (zw1 HB.out GE101.out))); have GE102 := GW102; have NB101_102 := Aside0.mk (zlt hg BK101.out); have NB102_101 := Aside0.mk (zgt hg BK101.out); clear BK101 HB; have BK101 := n0_; have HB := n1_; clear n0_ n1_; clear hb hbox hg; have hnb5 := NB102_101.out; have hnc5 := NB101_102.out; have hcz6_0 := zc BK102.out 0; have hcz6_1 := zc BK102.out 1; have hcz6_2 := zc BK102.out 2; have hfz6_0 := blk_frozen BK102.out 0; have hfz6_1 := blk_frozen BK102.out 1; have hfz6_2 := blk_frozen BK102.out 2; have hcz7_0 := zc BK101.out 0; have hcz7_1 := zc BK101.out 1; have hcz7_2 := zc BK101.out 2; have hcz7_3 := zc BK101.out 3; have hcz7_4 := zc BK101.out 4; have hfz7_0 := blk_frozen BK101.out 0; have hfz7_1 := blk_frozen BK101.out 1; have hfz7_2 := blk_frozen BK101.out 2; have hfz7_3 := blk_frozen BK101.out 3; have hfz7_4 := blk_frozen BK101.out 4))
 go_loopg [4, 14] k (fun kq v4 v14 w' => ∃ (x4_1 : List Int) (x14_1 : Int) (x103000_1 : Int) (x103001_1 : Int) (x103002_1 : Int), v14 = .int .i64 x14_1 ∧ Aside0 (lay_offsets.l0 kq l1 x4_1 l0_4 (l0_4.length : Int) x14_1 a0_0 a0_1 a0_2 l0_3 l0_4 x103000_1 x103001_1 x103002_1 = some (r1, r2, r3, r4)) ∧ Aside0 (kq ≤ k) ∧ Aside0 (Kd.R (Kd.int .i64) 3 w' w.heap.size (fun _ => True) v4 x4_1) ∧ Aside0 (w'.heap[gb101]? = some (.cells #[.int .i64 a0_0, .int .i64 a0_1, .int .i64 a0_2, (.slice A0_3 l0_3.length c0_3), (.slice A0_4 l0_4.length c0_4)] 31 (0, 0))) ∧ Aside0 (w'.heap[gb102]? = some (.cells #[.int .i64 x103000_1, .int .i64 x103001_1, .int .i64 x103002_1] 103 (0, 0))) ∧ Aside0 (Below w.heap.size w w'))
 case atStart => exact ⟨(([] : List Int)), (0), (0), (1), (0), (zr), H', ⟨Nat.le_refl _⟩, ⟨by first | exact Kd.R_nil _ _ _ _ _ | exact Kd.N_nil _ _ _ _ _ | exact Kd.V_nil _ _ _ _ _ | exact Kd.Q_nil _ _ _ _ _ | exact Kd.S_nil _ _ _ _ _⟩, ⟨zf1 BK101.out NB101_102.out⟩, ⟨by (with_reducible repeat (first | refine blk_drewN ?_ _ | refine blk_drew ?_ | refine blk_alloc ?_ _)); refine blk_put (cs := #[.int .i64 0, .int .i64 0, .int .i64 0]) ?_ 1 _ rfl; (with_reducible repeat (first | refine blk_drewN ?_ _ | refine blk_drew ?_ | refine blk_alloc ?_ _)); exact BK102.out⟩, ⟨zw2 HB.out GE101.out GE102.out⟩⟩
 case round =>
  clear H'
  try clear c1; try clear p2; try clear c5
  obtain ⟨x4_1, x14_1, x103000_1, x103001_1, x103002_1, rfl, HA, HK1, HO_4, BK101, BK102, HB⟩ := hrel
  cases gk with
  | zero => exact absurd HA.out (by simp [lay_offsets.l0])
  | succ k1 =>
   have H := HA.out
   clear HA
   simp only [lay_offsets.l0] at H
   by_cases c8 : x14_1 < (l0_4.length : Int)
   ·rw [if_pos c8] at H
    have c8b0 : decide (x14_1 < (l0_4.length : Int)) = true := decide_eq_true c8
    clear c8
    by_cases c9 : 0 ≤ x14_1
    rotate_left
    ·rw [if_neg c9] at H
     exact absurd H (by simp)
    rw [if_pos c9] at H
    have c9b0 : decide (0 ≤ x14_1) = true := decide_eq_true c9
    clear c9
    by_cases c10 : x14_1 < (l0_4.length : Int)
    rotate_left
    ·rw [if_neg c10] at H
     exact absurd H (by simp)
    rw [if_pos c10] at H
    have c10b0 : decide (x14_1 < (l0_4.length : Int)) = true := decide_eq_true c10
    clear c10
    by_cases c11 : 0 ≤ (rd l0_4 x14_1)
    rotate_left
    ·rw [if_neg c11] at H
     exact absurd H (by simp)
    rw [if_pos c11] at H
    have c11b0 : decide (0 ≤ (rd l0_4 x14_1)) = true := decide_eq_true c11
    clear c11
    by_cases c12 : (rd l0_4 x14_1) < (l1.length : Int)
    rotate_left
    ·rw [if_neg c12] at H
     exact absurd H (by simp)
    rw [if_pos c12] at H
    have c12b0 : decide ((rd l0_4 x14_1) < (l1.length : Int)) = true := decide_eq_true c12
    clear c12
    obtain ⟨ji13, hji13⟩ : ∃ j_ : Int, (mx x103001_1 ((rd_T103 l1 (rd l0_4 x14_1)).f1)) = j_ := ⟨_, rfl⟩
    replace H : (if a0_0 = 10 then (if x4_1.length < 17592186044416 then (lay_offsets.l0 k1 l1 (x4_1 ++ [0]) l0_4 (l0_4.length : Int) (wrap64 (x14_1 + 1)) a0_0 a0_1 a0_2 l0_3 l0_4 (mx x103000_1 ((rd_T103 l1 (rd l0_4 x14_1)).f0)) ji13 (wrap64 (x103002_1 + ((rd_T103 l1 (rd l0_4 x14_1)).f2)))) else (none)) else ((lay_up.f x103000_1 ((rd_T103 l1 (rd l0_4 x14_1)).f1)).bind fun t109 => (if x4_1.length < 17592186044416 then (lay_offsets.l0 k1 l1 (x4_1 ++ [t109]) l0_4 (l0_4.length : Int) (wrap64 (x14_1 + 1)) a0_0 a0_1 a0_2 l0_3 l0_4 (wrap64 (t109 + ((rd_T103 l1 (rd l0_4 x14_1)).f0))) ji13 (wrap64 (x103002_1 + ((rd_T103 l1 (rd l0_4 x14_1)).f2)))) else (none)))) = some (r1, r2, r3, r4) := by first | (rw [hji13] at H; exact H) | (simp only [hji13] at H ⊢; exact H)
    have hji13_ : (if x103001_1 < ((rd_T103 l1 (rd l0_4 x14_1)).f1) then ((rd_T103 l1 (rd l0_4 x14_1)).f1) else x103001_1) = ji13 := hji13
    by_cases c14 : a0_0 = 10
    ·rw [if_pos c14] at H
     have c14b0 : (a0_0 == 10) = true := beq_iff_eq.mpr c14
     have c14b1 : (a0_0 != 10) = false := bne_eq_false_iff_eq.mpr c14
     clear c14
     by_cases c15 : x4_1.length < 17592186044416
     rotate_left
     ·rw [if_neg c15] at H
      exact absurd H (by simp)
     rw [if_pos c15] at H
     have LMc15 := Aside0.mk c15
     clear c15
     obtain ⟨y106, hy106⟩ : ∃ y_ : List Int, y_ = (x4_1 ++ [0]) := ⟨_, rfl⟩
     replace H : (lay_offsets.l0 k1 l1 y106 l0_4 (l0_4.length : Int) (wrap64 (x14_1 + 1)) a0_0 a0_1 a0_2 l0_3 l0_4 (mx x103000_1 ((rd_T103 l1 (rd l0_4 x14_1)).f0)) ji13 (wrap64 (x103002_1 + ((rd_T103 l1 (rd l0_4 x14_1)).f2)))) = some (r1, r2, r3, r4) := by first | (rw [hy106]; with_reducible exact H) | (have H2_ := (Option.bind_some _ _).symm.trans H; rw [hy106]; with_reducible exact H2_) | (have H2_ := (Option.bind_some _ _).symm.trans H; with_reducible exact H2_) | with_reducible exact H | (rw [hy106]; exact H) | exact H
     have Ny106 := Aside0.mk hy106
     clear hy106
     obtain ⟨ji16, hji16⟩ : ∃ j_ : Int, (mx x103000_1 ((rd_T103 l1 (rd l0_4 x14_1)).f0)) = j_ := ⟨_, rfl⟩
     replace H : (lay_offsets.l0 k1 l1 y106 l0_4 (l0_4.length : Int) (wrap64 (x14_1 + 1)) a0_0 a0_1 a0_2 l0_3 l0_4 ji16 ji13 (wrap64 (x103002_1 + ((rd_T103 l1 (rd l0_4 x14_1)).f2)))) = some (r1, r2, r3, r4) := by first | (rw [hji16] at H; exact H) | (simp only [hji16] at H ⊢; exact H)
     have hji16_ : (if x103000_1 < ((rd_T103 l1 (rd l0_4 x14_1)).f0) then ((rd_T103 l1 (rd l0_4 x14_1)).f0) else x103000_1) = ji16 := hji16
     have H' := Aside0.mk H
     clear H
     have p103 : 0 ≤ (x14_1 : Int) := zdec
     have q103 : x14_1 < (l0_4.length : Int) := zdec
     obtain ⟨ad103, e103, hx103_0⟩ := Kd.at_int HR0_4.out x14_1 p103 q103
     cases e103
     replace hx103_0 := zh HB.out hx103_0
     replace p103 := eq_true p103
     replace q103 := eq_true q103
     have p104 : 0 ≤ ((rd l0_4 x14_1) : Int) := zdec
     have q104 : (rd l0_4 x14_1) < (l1.length : Int) := zdec
     obtain ⟨ad104, e104, hx104_0, hx104_1, hx104_2⟩ := at_T103 HR1.out (rd l0_4 x14_1) p104 q104
     cases e104
     replace hx104_0 := zh HB.out hx104_0
     replace hx104_1 := zh HB.out hx104_1
     replace hx104_2 := zh HB.out hx104_2
     replace p104 := eq_true p104
     replace q104 := eq_true q104
     go_wp2_with (first | ((with_reducible refine gate_dst (N := 8) rfl ?_); refine zbox (N := 8) (cs := #[.int .i64 0, .int .i64 0, .int .i64 0]) (t := 103) ?_; intro gb105 hg w17 hbox hb; have n0_ := Aside0.mk (Kd.R_below (by (with_reducible repeat (first | apply Kd.R_alloc | apply Kd.R_drewN | apply Kd.R_drew)); exact HO_4.out) hb); have n1_ := Aside0.mk (zbb BK101.out hb); have n2_ := Aside0.mk (zbb BK102.out hb); have n3_ := Aside0.mk (below_step (zw2 HB.out GE101.out GE102.out) hb); have BK105 := Aside0.mk (hbox); have GW105 := Aside0.mk (zg hg (below_size (zw2 HB.out GE101.out GE102.out))); have GE105 := GW105; have NB101_105 := Aside0.mk (zlt hg BK101.out); have NB105_101 := Aside0.mk (zgt hg BK101.out); have NB102_105 := Aside0.mk (zlt hg BK102.out); have NB105_102 := Aside0.mk (zgt hg BK102.out); clear HO_4 BK101 BK102 HB; have HO_4 := n0_; have BK101 := n1_; have BK102 := n2_; have HB := n3_; clear n0_ n1_ n2_ n3_; clear hb hbox hg; have hnb18 := NB105_101.out; have hnc18 := NB101_105.out; have hnb19 := NB105_102.out; have hnc19 := NB102_105.out; have hcz20_0 := zc BK105.out 0; have hcz20_1 := zc BK105.out 1; have hcz20_2 := zc BK105.out 2; have hfz20_0 := blk_frozen BK105.out 0; have hfz20_1 := blk_frozen BK105.out 1; have hfz20_2 := blk_frozen BK105.out 2; have hnb21 := NB102_101.out; have hnc21 := NB101_102.out; have hcz22_0 := zc BK102.out 0; have hcz22_1 := zc BK102.out 1; have hcz22_2 := zc BK102.out 2; have hfz22_0 := blk_frozen BK102.out 0; have hfz22_1 := blk_frozen BK102.out 1; have hfz22_2 := blk_frozen BK102.out 2; have hcz23_0 := zc BK101.out 0; have hcz23_1 := zc BK101.out 1; have hcz23_2 := zc BK101.out 2; have hcz23_3 := zc BK101.out 3; have hcz23_4 := zc BK101.out 4; have hfz23_0 := blk_frozen BK101.out 0; have hfz23_1 := blk_frozen BK101.out 1; have hfz23_2 := blk_frozen BK101.out 2; have hfz23_3 := blk_frozen BK101.out 3; have hfz23_4 := blk_frozen BK101.out 4) | ((with_reducible refine gate_builtin (b := .append) (xs := #[.tmp 37, .tmp 38]) rfl ?_); at_builtin; refine Kd.R_append (Kd.int .i64) (w0 := w) w.heap.size rfl (.tmp 37) (.tmp 38) 25 3 (.int .i64 0) 8 rfl Try.underlying25 info3 rfl (by decide) (by omega) u4 x4_1 0 [.int .i64 0] (fun _ => True) (fun _ => False) rfl (by first | (go_simp; done) | (go_simp; rfl)) ?aP (fun _ hk => hk.elim) ?aF ?aO ?aB ?aS ?aL ?_; (case aP => exact rfl); (case aB => exact (zw3 HB.out GE101.out GE102.out GE105.out)); (case aF => exact (fun _ _ => trivial)); (case aO => exact (by (with_reducible repeat (first | apply Kd.R_alloc | apply Kd.R_drewN | apply Kd.R_drew)); exact Kd.R_mono (Kd.R_far (p := ⟨gb102, 2, none⟩) (Kd.R_far (p := ⟨gb102, 1, none⟩) (Kd.R_far (p := ⟨gb105, 2, none⟩) (Kd.R_far (p := ⟨gb105, 1, none⟩) (Kd.R_far (p := ⟨gb105, 0, none⟩) (Kd.R_types (Kd.R_types HO_4.out BK105.out (by decide)) BK102.out (by decide)) (fun _ hk => hk.1.2) (.int .i64 ((rd_T103 l1 (rd l0_4 x14_1)).f0))) (fun _ hk => hk.1.2) (.int .i64 ((rd_T103 l1 (rd l0_4 x14_1)).f1))) (fun _ hk => hk.1.2) (.int .i64 ((rd_T103 l1 (rd l0_4 x14_1)).f2))) (fun _ hk => hk.2) (.int .i64 ji13)) (fun _ hk => hk.2) (.int .i64 (wrap64 (x103002_1 + ((rd_T103 l1 (rd l0_4 x14_1)).f2))))) (fun _ hk => trivial))); (case aS => exact (below_size (zw3 HB.out GE101.out GE102.out GE105.out))); (case aL => have := LMc15.out; omega); intro v107 w24 ho hb hg hat; rw [← Ny106.out] at ho; have n0_ := Aside0.mk (blk_grown (g := gb101) (o := .cells #[.int .i64 a0_0, .int .i64 a0_1, .int .i64 a0_2, .slice A0_3 l0_3.length c0_3, .slice (some ad103) l0_4.length c0_4] 31 (0, 0)) (zf2 BK101.out NB101_102.out NB101_105.out) hg (Kd.R_ne HO_4.out BK101.out (by decide))); have n1_ := Aside0.mk (blk_grown (g := gb102) (o := .cells #[.int .i64 x103000_1, .int .i64 ji13, .int .i64 (wrap64 (x103002_1 + ((rd_T103 l1 (rd l0_4 x14_1)).f2)))] 103 (0, 0)) (by (with_reducible repeat (first | refine blk_drewN ?_ _ | refine blk_drew ?_ | refine blk_alloc ?_ _)); refine blk_put (cs := #[.int .i64 x103000_1, .int .i64 ji13, .int .i64 x103002_1]) ?_ 2 _ rfl; (with_reducible repeat (first | refine blk_drewN ?_ _ | refine blk_drew ?_ | refine blk_alloc ?_ _)); refine blk_put (cs := #[.int .i64 x103000_1, .int .i64 x103001_1, .int .i64 x103002_1]) ?_ 1 _ rfl; (with_reducible repeat (first | refine blk_drewN ?_ _ | refine blk_drew ?_ | refine blk_alloc ?_ _)); refine blk_far ?_ NB102_105.out _; (with_reducible repeat (first | refine blk_drewN ?_ _ | refine blk_drew ?_ | refine blk_alloc ?_ _)); refine blk_far ?_ NB102_105.out _; (with_reducible repeat (first | refine blk_drewN ?_ _ | refine blk_drew ?_ | refine blk_alloc ?_ _)); refine blk_far ?_ NB102_105.out _; (with_reducible repeat (first | refine blk_drewN ?_ _ | refine blk_drew ?_ | refine blk_alloc ?_ _)); exact BK102.out) hg (Kd.R_ne HO_4.out BK102.out (by decide))); have n2_ := Aside0.mk (blk_grown (g := gb105) (o := .cells #[.int .i64 ((rd_T103 l1 (rd l0_4 x14_1)).f0), .int .i64 ((rd_T103 l1 (rd l0_4 x14_1)).f1), .int .i64 ((rd_T103 l1 (rd l0_4 x14_1)).f2)] 103 (0, 0)) (by (with_reducible repeat (first | refine blk_drewN ?_ _ | refine blk_drew ?_ | refine blk_alloc ?_ _)); refine blk_far ?_ NB105_102.out _; (with_reducible repeat (first | refine blk_drewN ?_ _ | refine blk_drew ?_ | refine blk_alloc ?_ _)); refine blk_far ?_ NB105_102.out _; (with_reducible repeat (first | refine blk_drewN ?_ _ | refine blk_drew ?_ | refine blk_alloc ?_ _)); refine blk_put (cs := #[.int .i64 ((rd_T103 l1 (rd l0_4 x14_1)).f0), .int .i64 ((rd_T103 l1 (rd l0_4 x14_1)).f1), .int .i64 0]) ?_ 2 _ rfl; (with_reducible repeat (first | refine blk_drewN ?_ _ | refine blk_drew ?_ | refine blk_alloc ?_ _)); refine blk_put (cs := #[.int .i64 ((rd_T103 l1 (rd l0_4 x14_1)).f0), .int .i64 0, .int .i64 0]) ?_ 1 _ rfl; (with_reducible repeat (first | refine blk_drewN ?_ _ | refine blk_drew ?_ | refine blk_alloc ?_ _)); refine blk_put (cs := #[.int .i64 0, .int .i64 0, .int .i64 0]) ?_ 0 _ rfl; (with_reducible repeat (first | refine blk_drewN ?_ _ | refine blk_drew ?_ | refine blk_alloc ?_ _)); exact BK105.out) hg (Kd.R_ne HO_4.out BK105.out (by decide))); have n3_ := Aside0.mk (hb); have HO108 := Aside0.mk (ho); clear BK101 BK102 BK105 HB HO_4; have BK101 := n0_; have BK102 := n1_; have BK105 := n2_; have HB := n3_; clear n0_ n1_ n2_ n3_; clear ho hb hg hat; have hcz25_0 := zc BK102.out 0; have hcz25_1 := zc BK102.out 1; have hcz25_2 := zc BK102.out 2; have hfz25_0 := blk_frozen BK102.out 0; have hfz25_1 := blk_frozen BK102.out 1; have hfz25_2 := blk_frozen BK102.out 2; have hcz26_0 := zc BK105.out 0; have hcz26_1 := zc BK105.out 1; have hcz26_2 := zc BK105.out 2; have hfz26_0 := blk_frozen BK105.out 0; have hfz26_1 := blk_frozen BK105.out 1; have hfz26_2 := blk_frozen BK105.out 2))
     go_roundg k1
     case measure => have := HK1.out; omega
     case rel => exact ⟨(y106), (wrap64 (x14_1 + 1)), (ji16), (ji13), (wrap64 (x103002_1 + ((rd_T103 l1 (rd l0_4 x14_1)).f2))), (zr), H', ⟨by have := HK1.out; omega⟩, ⟨by (with_reducible repeat (first | apply Kd.R_alloc | apply Kd.R_drewN | apply Kd.R_drew)); exact Kd.R_mono (Kd.R_far (p := ⟨gb102, 0, none⟩) (Kd.R_types HO108.out BK102.out (by decide)) (fun _ hk => hk.2) (.int .i64 ji16)) (fun _ hk => trivial)⟩, ⟨zf1 BK101.out NB101_102.out⟩, ⟨by (with_reducible repeat (first | refine blk_drewN ?_ _ | refine blk_drew ?_ | refine blk_alloc ?_ _)); refine blk_put (cs := #[.int .i64 x103000_1, .int .i64 ji13, .int .i64 (wrap64 (x103002_1 + ((rd_T103 l1 (rd l0_4 x14_1)).f2)))]) ?_ 0 _ rfl; (with_reducible repeat (first | refine blk_drewN ?_ _ | refine blk_drew ?_ | refine blk_alloc ?_ _)); exact BK102.out⟩, ⟨zw3 HB.out GE101.out GE102.out GE105.out⟩⟩
    rw [if_neg c14] at H
    have c14b0 : (a0_0 == 10) = false := beq_eq_false_iff_ne.mpr c14
    have c14b1 : (a0_0 != 10) = true := bne_iff_ne.mpr c14
    replace H := Option.bind_eq_some_iff.mp H
    obtain ⟨t109, A270, H⟩ := H
    replace H : (if x4_1.length < 17592186044416 then (lay_offsets.l0 k1 l1 (x4_1 ++ [t109]) l0_4 (l0_4.length : Int) (wrap64 (x14_1 + 1)) a0_0 a0_1 a0_2 l0_3 l0_4 (wrap64 (t109 + ((rd_T103 l1 (rd l0_4 x14_1)).f0))) ji13 (wrap64 (x103002_1 + ((rd_T103 l1 (rd l0_4 x14_1)).f2)))) else (none)) = some (r1, r2, r3, r4) := H
    have A27 := Aside0.mk A270
    clear A270
    by_cases c28 : x4_1.length < 17592186044416
    rotate_left
    ·rw [if_neg c28] at H
     exact absurd H (by simp)
    rw [if_pos c28] at H
    have LMc28 := Aside0.mk c28
    clear c28
    obtain ⟨y110, hy110⟩ : ∃ y_ : List Int, y_ = (x4_1 ++ [t109]) := ⟨_, rfl⟩
    replace H : (lay_offsets.l0 k1 l1 y110 l0_4 (l0_4.length : Int) (wrap64 (x14_1 + 1)) a0_0 a0_1 a0_2 l0_3 l0_4 (wrap64 (t109 + ((rd_T103 l1 (rd l0_4 x14_1)).f0))) ji13 (wrap64 (x103002_1 + ((rd_T103 l1 (rd l0_4 x14_1)).f2)))) = some (r1, r2, r3, r4) := by first | (rw [hy110]; with_reducible exact H) | (have H2_ := (Option.bind_some _ _).symm.trans H; rw [hy110]; with_reducible exact H2_) | (have H2_ := (Option.bind_some _ _).symm.trans H; with_reducible exact H2_) | with_reducible exact H | (rw [hy110]; exact H) | exact H
    have Ny110 := Aside0.mk hy110
    clear hy110
    have H' := Aside0.mk H
    clear H
    have p103 : 0 ≤ (x14_1 : Int) := zdec
    have q103 : x14_1 < (l0_4.length : Int) := zdec
    obtain ⟨ad103, e103, hx103_0⟩ := Kd.at_int HR0_4.out x14_1 p103 q103
    cases e103
    replace hx103_0 := zh HB.out hx103_0
    replace p103 := eq_true p103
    replace q103 := eq_true q103
    have p104 : 0 ≤ ((rd l0_4 x14_1) : Int) := zdec
    have q104 : (rd l0_4 x14_1) < (l1.length : Int) := zdec
    obtain ⟨ad104, e104, hx104_0, hx104_1, hx104_2⟩ := at_T103 HR1.out (rd l0_4 x14_1) p104 q104
    cases e104
    replace hx104_0 := zh HB.out hx104_0
    replace hx104_1 := zh HB.out hx104_1
    replace hx104_2 := zh HB.out hx104_2
    replace p104 := eq_true p104
    replace q104 := eq_true q104
    go_wp2_with (first | ((with_reducible refine gate_dst (N := 8) rfl ?_); refine zbox (N := 8) (cs := #[.int .i64 0, .int .i64 0, .int .i64 0]) (t := 103) ?_; intro gb105 hg w29 hbox hb; have n0_ := Aside0.mk (Kd.R_below (by (with_reducible repeat (first | apply Kd.R_alloc | apply Kd.R_drewN | apply Kd.R_drew)); exact HO_4.out) hb); have n1_ := Aside0.mk (zbb BK101.out hb); have n2_ := Aside0.mk (zbb BK102.out hb); have n3_ := Aside0.mk (below_step (zw2 HB.out GE101.out GE102.out) hb); have BK105 := Aside0.mk (hbox); have GW105 := Aside0.mk (zg hg (below_size (zw2 HB.out GE101.out GE102.out))); have GE105 := GW105; have NB101_105 := Aside0.mk (zlt hg BK101.out); have NB105_101 := Aside0.mk (zgt hg BK101.out); have NB102_105 := Aside0.mk (zlt hg BK102.out); have NB105_102 := Aside0.mk (zgt hg BK102.out); clear HO_4 BK101 BK102 HB; have HO_4 := n0_; have BK101 := n1_; have BK102 := n2_; have HB := n3_; clear n0_ n1_ n2_ n3_; clear hb hbox hg; have hnb30 := NB105_101.out; have hnc30 := NB101_105.out; have hnb31 := NB105_102.out; have hnc31 := NB102_105.out; have hcz32_0 := zc BK105.out 0; have hcz32_1 := zc BK105.out 1; have hcz32_2 := zc BK105.out 2; have hfz32_0 := blk_frozen BK105.out 0; have hfz32_1 := blk_frozen BK105.out 1; have hfz32_2 := blk_frozen BK105.out 2; have hnb33 := NB102_101.out; have hnc33 := NB101_102.out; have hcz34_0 := zc BK102.out 0; have hcz34_1 := zc BK102.out 1; have hcz34_2 := zc BK102.out 2; have hfz34_0 := blk_frozen BK102.out 0; have hfz34_1 := blk_frozen BK102.out 1; have hfz34_2 := blk_frozen BK102.out 2; have hcz35_0 := zc BK101.out 0; have hcz35_1 := zc BK101.out 1; have hcz35_2 := zc BK101.out 2; have hcz35_3 := zc BK101.out 3; have hcz35_4 := zc BK101.out 4; have hfz35_0 := blk_frozen BK101.out 0; have hfz35_1 := blk_frozen BK101.out 1; have hfz35_2 := blk_frozen BK101.out 2; have hfz35_3 := blk_frozen BK101.out 3; have hfz35_4 := blk_frozen BK101.out 4) | ((with_reducible refine gate_callee (f := 92) rfl ?_); refine zgo (some 50) Try.func92 #[.int .i64 x103000_1, .int .i64 ((rd_T103 l1 (rd l0_4 x14_1)).f1)] ?_; (with_reducible refine (lay_up.calls x103000_1 ((rd_T103 l1 (rd l0_4 x14_1)).f1) t109 _ A27.out).mono ?_); rintro e w' ⟨rfl, ⟨nd, rfl⟩⟩; refine ⟨_, rfl, ?_⟩) | ((with_reducible refine gate_builtin (b := .append) (xs := #[.tmp 51, .tmp 53]) rfl ?_); at_builtin; refine Kd.R_append (Kd.int .i64) (w0 := w) w.heap.size rfl (.tmp 51) (.tmp 53) 25 3 (.int .i64 0) 8 rfl Try.underlying25 info3 rfl (by decide) (by omega) u4 x4_1 t109 [.int .i64 t109] (fun _ => True) (fun _ => False) rfl (by first | (go_simp; done) | (go_simp; rfl)) ?aP (fun _ hk => hk.elim) ?aF ?aO ?aB ?aS ?aL ?_; (case aP => exact rfl); (case aB => exact (zw3 HB.out GE101.out GE102.out GE105.out)); (case aF => exact (fun _ _ => trivial)); (case aO => exact (by (with_reducible repeat (first | apply Kd.R_alloc | apply Kd.R_drewN | apply Kd.R_drew)); exact Kd.R_mono (Kd.R_far (p := ⟨gb102, 2, none⟩) (Kd.R_far (p := ⟨gb102, 1, none⟩) (Kd.R_far (p := ⟨gb105, 2, none⟩) (Kd.R_far (p := ⟨gb105, 1, none⟩) (Kd.R_far (p := ⟨gb105, 0, none⟩) (Kd.R_types (Kd.R_types HO_4.out BK105.out (by decide)) BK102.out (by decide)) (fun _ hk => hk.1.2) (.int .i64 ((rd_T103 l1 (rd l0_4 x14_1)).f0))) (fun _ hk => hk.1.2) (.int .i64 ((rd_T103 l1 (rd l0_4 x14_1)).f1))) (fun _ hk => hk.1.2) (.int .i64 ((rd_T103 l1 (rd l0_4 x14_1)).f2))) (fun _ hk => hk.2) (.int .i64 ji13)) (fun _ hk => hk.2) (.int .i64 (wrap64 (x103002_1 + ((rd_T103 l1 (rd l0_4 x14_1)).f2))))) (fun _ hk => trivial))); (case aS => exact (below_size (zw3 HB.out GE101.out GE102.out GE105.out))); (case aL => have := LMc28.out; omega); intro v111 w36 ho hb hg hat; rw [← Ny110.out] at ho; have n0_ := Aside0.mk (blk_grown (g := gb101) (o := .cells #[.int .i64 a0_0, .int .i64 a0_1, .int .i64 a0_2, .slice A0_3 l0_3.length c0_3, .slice (some ad103) l0_4.length c0_4] 31 (0, 0)) (zf2 BK101.out NB101_102.out NB101_105.out) hg (Kd.R_ne HO_4.out BK101.out (by decide))); have n1_ := Aside0.mk (blk_grown (g := gb102) (o := .cells #[.int .i64 x103000_1, .int .i64 ji13, .int .i64 (wrap64 (x103002_1 + ((rd_T103 l1 (rd l0_4 x14_1)).f2)))] 103 (0, 0)) (by (with_reducible repeat (first | refine blk_drewN ?_ _ | refine blk_drew ?_ | refine blk_alloc ?_ _)); refine blk_put (cs := #[.int .i64 x103000_1, .int .i64 ji13, .int .i64 x103002_1]) ?_ 2 _ rfl; (with_reducible repeat (first | refine blk_drewN ?_ _ | refine blk_drew ?_ | refine blk_alloc ?_ _)); refine blk_put (cs := #[.int .i64 x103000_1, .int .i64 x103001_1, .int .i64 x103002_1]) ?_ 1 _ rfl; (with_reducible repeat (first | refine blk_drewN ?_ _ | refine blk_drew ?_ | refine blk_alloc ?_ _)); refine blk_far ?_ NB102_105.out _; (with_reducible repeat (first | refine blk_drewN ?_ _ | refine blk_drew ?_ | refine blk_alloc ?_ _)); refine blk_far ?_ NB102_105.out _; (with_reducible repeat (first | refine blk_drewN ?_ _ | refine blk_drew ?_ | refine blk_alloc ?_ _)); refine blk_far ?_ NB102_105.out _; (with_reducible repeat (first | refine blk_drewN ?_ _ | refine blk_drew ?_ | refine blk_alloc ?_ _)); exact BK102.out) hg (Kd.R_ne HO_4.out BK102.out (by decide))); have n2_ := Aside0.mk (blk_grown (g := gb105) (o := .cells #[.int .i64 ((rd_T103 l1 (rd l0_4 x14_1)).f0), .int .i64 ((rd_T103 l1 (rd l0_4 x14_1)).f1), .int .i64 ((rd_T103 l1 (rd l0_4 x14_1)).f2)] 103 (0, 0)) (by (with_reducible repeat (first | refine blk_drewN ?_ _ | refine blk_drew ?_ | refine blk_alloc ?_ _)); refine blk_far ?_ NB105_102.out _; (with_reducible repeat (first | refine blk_drewN ?_ _ | refine blk_drew ?_ | refine blk_alloc ?_ _)); refine blk_far ?_ NB105_102.out _; (with_reducible repeat (first | refine blk_drewN ?_ _ | refine blk_drew ?_ | refine blk_alloc ?_ _)); refine blk_put (cs := #[.int .i64 ((rd_T103 l1 (rd l0_4 x14_1)).f0), .int .i64 ((rd_T103 l1 (rd l0_4 x14_1)).f1), .int .i64 0]) ?_ 2 _ rfl; (with_reducible repeat (first | refine blk_drewN ?_ _ | refine blk_drew ?_ | refine blk_alloc ?_ _)); refine blk_put (cs := #[.int .i64 ((rd_T103 l1 (rd l0_4 x14_1)).f0), .int .i64 0, .int .i64 0]) ?_ 1 _ rfl; (with_reducible repeat (first | refine blk_drewN ?_ _ | refine blk_drew ?_ | refine blk_alloc ?_ _)); refine blk_put (cs := #[.int .i64 0, .int .i64 0, .int .i64 0]) ?_ 0 _ rfl; (with_reducible repeat (first | refine blk_drewN ?_ _ | refine blk_drew ?_ | refine blk_alloc ?_ _)); exact BK105.out) hg (Kd.R_ne HO_4.out BK105.out (by decide))); have n3_ := Aside0.mk (hb); have HO112 := Aside0.mk (ho); clear BK101 BK102 BK105 HB HO_4; have BK101 := n0_; have BK102 := n1_; have BK105 := n2_; have HB := n3_; clear n0_ n1_ n2_ n3_; clear ho hb hg hat; have hcz37_0 := zc BK105.out 0; have hcz37_1 := zc BK105.out 1; have hcz37_2 := zc BK105.out 2; have hfz37_0 := blk_frozen BK105.out 0; have hfz37_1 := blk_frozen BK105.out 1; have hfz37_2 := blk_frozen BK105.out 2; have hcz38_0 := zc BK102.out 0; have hcz38_1 := zc BK102.out 1; have hcz38_2 := zc BK102.out 2; have hfz38_0 := blk_frozen BK102.out 0; have hfz38_1 := blk_frozen BK102.out 1; have hfz38_2 := blk_frozen BK102.out 2))
    go_roundg k1
    case measure => have := HK1.out; omega
    case rel => exact ⟨(y110), (wrap64 (x14_1 + 1)), (wrap64 (t109 + ((rd_T103 l1 (rd l0_4 x14_1)).f0))), (ji13), (wrap64 (x103002_1 + ((rd_T103 l1 (rd l0_4 x14_1)).f2))), (zr), H', ⟨by have := HK1.out; omega⟩, ⟨by (with_reducible repeat (first | apply Kd.R_alloc | apply Kd.R_drewN | apply Kd.R_drew)); exact Kd.R_mono (Kd.R_far (p := ⟨gb102, 0, none⟩) (Kd.R_types HO112.out BK102.out (by decide)) (fun _ hk => hk.2) (.int .i64 (wrap64 (t109 + ((rd_T103 l1 (rd l0_4 x14_1)).f0))))) (fun _ hk => trivial)⟩, ⟨zf1 BK101.out NB101_102.out⟩, ⟨by (with_reducible repeat (first | refine blk_drewN ?_ _ | refine blk_drew ?_ | refine blk_alloc ?_ _)); refine blk_put (cs := #[.int .i64 x103000_1, .int .i64 ji13, .int .i64 (wrap64 (x103002_1 + ((rd_T103 l1 (rd l0_4 x14_1)).f2)))]) ?_ 0 _ rfl; (with_reducible repeat (first | refine blk_drewN ?_ _ | refine blk_drew ?_ | refine blk_alloc ?_ _)); exact BK102.out⟩, ⟨zw3 HB.out GE101.out GE102.out GE105.out⟩⟩
   ·rw [if_neg c8] at H
    have c8b0 : decide (x14_1 < (l0_4.length : Int)) = false := decide_eq_false c8
    clear c8
    replace H := Option.bind_eq_some_iff.mp H
    obtain ⟨t113, A390, H⟩ := H
    replace H : (some (x4_1, t113, x103001_1, x103002_1)) = some (r1, r2, r3, r4) := H
    have A39 := Aside0.mk A390
    clear A390
    simp only [Option.some.injEq, Prod.mk.injEq] at H
    obtain ⟨rfl, rfl, rfl, rfl⟩ := H
    have hnb40 := NB102_101.out
    have hnc40 := NB101_102.out
    have hcz41_0 := zc BK102.out 0
    have hcz41_1 := zc BK102.out 1
    have hcz41_2 := zc BK102.out 2
    have hfz41_0 := blk_frozen BK102.out 0
    have hfz41_1 := blk_frozen BK102.out 1
    have hfz41_2 := blk_frozen BK102.out 2
    try go_wp2_with (first | ((with_reducible refine gate_callee (f := 92) rfl ?_); refine zgo (some 65) Try.func92 #[.int .i64 x103000_1, .int .i64 x103001_1] ?_; (with_reducible refine (lay_up.calls x103000_1 x103001_1 t113 _ A39.out).mono ?_); rintro e w' ⟨rfl, ⟨nd, rfl⟩⟩; refine ⟨_, rfl, ?_⟩; (try (rw [drewN_self wr]; generalize hq_ : World.drewN wr _ = wr; have n0_ : Aside0 (Kd.R (Kd.int .i64) 3 wr w.heap.size (fun _ => True) u4 x4_1) := ⟨by rw [← hq_]; exact (by (with_reducible repeat (first | apply Kd.R_alloc | apply Kd.R_drewN | apply Kd.R_drew)); exact HO_4.out)⟩; have n1_ : Aside0 (wr.heap[gb101]? = some (.cells #[.int .i64 a0_0, .int .i64 a0_1, .int .i64 a0_2, .slice A0_3 l0_3.length c0_3, .slice A0_4 l0_4.length c0_4] 31 (0, 0))) := ⟨by rw [← hq_]; exact (zb BK101.out)⟩; have n2_ : Aside0 (wr.heap[gb102]? = some (.cells #[.int .i64 x103000_1, .int .i64 x103001_1, .int .i64 x103002_1] 103 (0, 0))) := ⟨by rw [← hq_]; exact (zb BK102.out)⟩; have n3_ : Aside0 (Below w.heap.size w wr) := ⟨by rw [← hq_]; exact (zw2 HB.out GE101.out GE102.out)⟩; clear HO_4 BK101 BK102 HB hq_; have HO_4 := n0_; have BK101 := n1_; have BK102 := n2_; have HB := n3_; clear n0_ n1_ n2_ n3_; have hcz41_0 := zc BK102.out 0; have hcz41_1 := zc BK102.out 1; have hcz41_2 := zc BK102.out 2; have hfz41_0 := blk_frozen BK102.out 0; have hfz41_1 := blk_frozen BK102.out 1; have hfz41_2 := blk_frozen BK102.out 2))))
    have n0_ : Aside0 (Kd.R (Kd.int .i64) 3 (wr.setCell ⟨gb102, 0, none⟩ (.int .i64 t113)) w.heap.size (fun _ => True) u4 x4_1) := ⟨by (with_reducible repeat (first | apply Kd.R_alloc | apply Kd.R_drewN | apply Kd.R_drew)); exact Kd.R_mono (Kd.R_far (p := ⟨gb102, 0, none⟩) (Kd.R_types HO_4.out BK102.out (by decide)) (fun _ hk => hk.2) (.int .i64 t113)) (fun _ hk => trivial)⟩
    have n1_ : Aside0 ((wr.setCell ⟨gb102, 0, none⟩ (.int .i64 t113)).heap[gb101]? = some (.cells #[.int .i64 a0_0, .int .i64 a0_1, .int .i64 a0_2, .slice A0_3 l0_3.length c0_3, .slice A0_4 l0_4.length c0_4] 31 (0, 0))) := ⟨zf1 BK101.out NB101_102.out⟩
    have n2_ : Aside0 ((wr.setCell ⟨gb102, 0, none⟩ (.int .i64 t113)).heap[gb102]? = some (.cells #[.int .i64 t113, .int .i64 x103001_1, .int .i64 x103002_1] 103 (0, 0))) := ⟨by (with_reducible repeat (first | refine blk_drewN ?_ _ | refine blk_drew ?_ | refine blk_alloc ?_ _)); refine blk_put (cs := #[.int .i64 x103000_1, .int .i64 x103001_1, .int .i64 x103002_1]) ?_ 0 _ rfl; (with_reducible repeat (first | refine blk_drewN ?_ _ | refine blk_drew ?_ | refine blk_alloc ?_ _)); exact BK102.out⟩
    have n3_ : Aside0 (Below w.heap.size w (wr.setCell ⟨gb102, 0, none⟩ (.int .i64 t113))) := ⟨zw2 HB.out GE101.out GE102.out⟩
    (try clear HO_4)
    (try clear BK101)
    (try clear BK102)
    (try clear HB)
    generalize (wr.setCell ⟨gb102, 0, none⟩ (.int .i64 t113)) = w42 at n0_ n1_ n2_ n3_ ⊢
    have HO_4 := n0_
    have BK101 := n1_
    have BK102 := n2_
    have HB := n3_
    clear n0_ n1_ n2_ n3_
    have n0_ := Aside0.mk (Kd.R_drew HO_4.out)
    have n1_ := Aside0.mk (blk_drew BK101.out)
    have n2_ := Aside0.mk (blk_drew BK102.out)
    have n3_ := Aside0.mk (below_drew1 HB.out)
    clear HO_4
    clear BK101
    clear BK102
    clear HB
    have HO_4 := n0_
    have BK101 := n1_
    have BK102 := n2_
    have HB := n3_
    clear n0_ n1_ n2_ n3_
    refine start_ (n := 4) (S := fun w' => w'.cell? ⟨gb102, 0, none⟩ = some (.int .i64 t113) ∧ w'.cell? ⟨gb102, 1, none⟩ = some (.int .i64 x103001_1) ∧ w'.cell? ⟨gb102, 2, none⟩ = some (.int .i64 x103002_1)) (ds := [3]) #[false,false,false,false] (by kernel_rfl) rfl rfl ⟨(blk_cell BK102.out 0).trans rfl, (blk_cell BK102.out 1).trans rfl, (blk_cell BK102.out 2).trans rfl⟩ (fun hHeld => ?_)
    generalize w42.drew = w43 at HO_4 BK101 BK102 HB hHeld ⊢
    refine zp (i := 0) (N := some 67) #[true,false,false,false] (by kernel_rfl) ?_
    refine zp (i := 2) (N := some 4) #[true,false,true,false] (by kernel_rfl) ?_
    refine take_ (i := 1) (N := some 68) (v := ?_) (a' := ?_) #[true,true,true,false] rfl rfl (by kernel_rfl) (fun _ _ _ h => h) (Or.inl ⟨by rfl, ?_⟩) hHeld ?_ ?_
    rotate_left
    ·rintro w' ⟨s0, s1, s2⟩
     go_simp
     with_reducible rfl
    rotate_left
    ·simp only [Act.put, List.setIfInBounds_toArray, List.set_cons_zero, List.set_cons_succ, i64_w, i32_w]
     rfl
    refine last_ (i := 3) (N := none) #[true,true,true,true] rfl rfl (by kernel_rfl) (by decide) (fun K hK => ?_)
    have hs44 : w43.cell? ⟨gb102, 0, none⟩ = some (.int .i64 t113) := (blk_cell BK102.out 0).trans rfl
    have hfs44 := blk_frozen BK102.out 0
    have hns44_0 := NB101_102.out
    have hms44_0 := NB102_101.out
    have hs45 : w43.cell? ⟨gb102, 1, none⟩ = some (.int .i64 x103001_1) := (blk_cell BK102.out 1).trans rfl
    have hfs45 := blk_frozen BK102.out 1
    have hns45_0 := NB101_102.out
    have hms45_0 := NB102_101.out
    have hs46 : w43.cell? ⟨gb102, 2, none⟩ = some (.int .i64 x103002_1) := (blk_cell BK102.out 2).trans rfl
    have hfs46 := blk_frozen BK102.out 2
    have hns46_0 := NB101_102.out
    have hms46_0 := NB102_101.out
    refine skip_ (w1 := ?_) (by rfl) rfl ?_ ?_
    rotate_left
    ·go_simp
     rfl
    refine hK.out _ _ ?_
    clear hK K
    refine done_ (by kernel_rfl) ?_
    try go_wp2
    refine bodyPost_ret (results_tc rfl _ _ gb102 103 #[.int .i64 t113, .int .i64 x103001_1, .int .i64 x103002_1] (0, 0) _ rfl (by (with_reducible repeat (first | refine blk_drewN ?_ _ | refine blk_drew ?_ | refine blk_alloc ?_ _)); refine blk_put (cs := #[.int .i64 t113, .int .i64 x103001_1, .int .i64 x103002_1]) ?_ 2 _ rfl; (with_reducible repeat (first | refine blk_drewN ?_ _ | refine blk_drew ?_ | refine blk_alloc ?_ _)); refine blk_put (cs := #[.int .i64 t113, .int .i64 x103001_1, .int .i64 x103002_1]) ?_ 1 _ rfl; (with_reducible repeat (first | refine blk_drewN ?_ _ | refine blk_drew ?_ | refine blk_alloc ?_ _)); refine blk_put (cs := #[.int .i64 t113, .int .i64 x103001_1, .int .i64 x103002_1]) ?_ 0 _ rfl; (with_reducible repeat (first | refine blk_drewN ?_ _ | refine blk_drew ?_ | refine blk_alloc ?_ _)); exact BK102.out) Try.underlying103 rfl (by kernel_rfl)) rfl ?_
    exact ⟨_, ze, by (with_reducible repeat (first | apply Kd.R_alloc | apply Kd.R_drewN | apply Kd.R_drew)); exact Kd.R_mono (Kd.R_far (p := ⟨gb102, 2, none⟩) (Kd.R_far (p := ⟨gb102, 1, none⟩) (Kd.R_far (p := ⟨gb102, 0, none⟩) (Kd.R_types HO_4.out BK102.out (by decide)) (fun _ hk => hk.2) (.int .i64 t113)) (fun _ hk => hk.2) (.int .i64 x103001_1)) (fun _ hk => hk.2) (.int .i64 x103002_1)) (fun _ hk => trivial), zw2 HB.out GE101.out GE102.out⟩

/-! word_May -/
def word_May.f (a0_0 : Bool) (a0_1 : Int) : Option (Bool) := if a0_1 = 2 then (some true) else (some (a0_1 == 4))
set_option maxHeartbeats 8000000 in
set_option maxRecDepth 100000 in
theorem word_May.calls (a0_0 : Bool) (a0_1 : Int) (r : Bool) (w : World) (h : word_May.f a0_0 a0_1 = some r) :
  Calls Try.prog 84 #[.agg #[.bool a0_0, .int .i64 a0_1]] w fun e w' => e = .returned (.bool r) ∧ Below w.heap.size w w' := by
 have hu29 := Try.underlying29
 have HB := Aside0.mk (Below.refl w.heap.size w)
 have H : (if a0_1 = 2 then (some true) else (some (a0_1 == 4))) = some r := h
 clear h
 by_cases c2 : a0_1 = 2
 ·rw [if_pos c2] at H
  have c2b0 : (a0_1 == 2) = true := beq_iff_eq.mpr c2
  have c2b1 : (a0_1 != 2) = false := bne_eq_false_iff_eq.mpr c2
  clear c2
  obtain rfl := Option.some.inj H
  go_enter Try.func84, Try.ntmps84
  go_wp2_with (first | ((with_reducible refine gate_dst (N := 1) rfl ?_); refine zbox (N := 1) (cs := #[.bool a0_0, .int .i64 a0_1]) (t := 29) ?_; intro gb114 hg w3 hbox hb; have n0_ := Aside0.mk (below_step (zw0 HB.out) hb); have BK114 := Aside0.mk (hbox); have GW114 := Aside0.mk (zg hg (below_size (zw0 HB.out))); have GE114 := GW114; clear HB; have HB := n0_; clear n0_; clear hb hbox hg; have hcz4_0 := zc BK114.out 0; have hcz4_1 := zc BK114.out 1; have hfz4_0 := blk_frozen BK114.out 0; have hfz4_1 := blk_frozen BK114.out 1))
  go_ret
  exact ⟨ze, zw1 HB.out GE114.out⟩
 ·rw [if_neg c2] at H
  have c2b0 : (a0_1 == 2) = false := beq_eq_false_iff_ne.mpr c2
  have c2b1 : (a0_1 != 2) = true := bne_iff_ne.mpr c2
  obtain rfl := Option.some.inj H
  go_enter Try.func84, Try.ntmps84
  go_wp2_with (first | ((with_reducible refine gate_dst (N := 1) rfl ?_); refine zbox (N := 1) (cs := #[.bool a0_0, .int .i64 a0_1]) (t := 29) ?_; intro gb114 hg w5 hbox hb; have n0_ := Aside0.mk (below_step (zw0 HB.out) hb); have BK114 := Aside0.mk (hbox); have GW114 := Aside0.mk (zg hg (below_size (zw0 HB.out))); have GE114 := GW114; clear HB; have HB := n0_; clear n0_; clear hb hbox hg; have hcz6_0 := zc BK114.out 0; have hcz6_1 := zc BK114.out 1; have hfz6_0 := blk_frozen BK114.out 0; have hfz6_1 := blk_frozen BK114.out 1))
  go_ret
  exact ⟨ze, zw1 HB.out GE114.out⟩

/-! cellar/lay.form$1 -/
theorem ahead_calls (B : Nat) (n k : Int) (W : World) (hcell : W.cell? ⟨B, 0, none⟩ = some (.int .i64 n)) :
  Calls Try.prog 113 #[.int .i64 k, .pointer (some ⟨B, 0, none⟩)] W fun e w' => e = .returned (.bool (decide (0 ≤ k) && decide (k < n))) ∧ Below W.heap.size W w' := by
 by_cases c : 0 ≤ k
 · have cb : decide (0 ≤ k) = true := decide_eq_true c
   clear c
   go_enter Try.func113, Try.ntmps113
   go_wp2
   go_ret
   exact ⟨by first | rfl | (simp [*]; done), by repeat (first | exact Below.refl _ _ | apply below_alloc | apply pw_below_drewN | apply below_drew1)⟩
 · have cb : decide (0 ≤ k) = false := decide_eq_false c
   clear c
   go_enter Try.func113, Try.ntmps113
   go_wp2
   go_ret
   exact ⟨by first | rfl | (simp [*]; done), by repeat (first | exact Below.refl _ _ | apply below_alloc | apply pw_below_drewN | apply below_drew1)⟩

/-! lay_named_1 -/
def lay_named_1.f (a0 : Int) : Option (Bool) := if a0 < 97 then (if a0 < 48 then (some true) else (some (decide (a0 > 57)))) else (if a0 > 122 then (if a0 < 48 then (some true) else (some (decide (a0 > 57)))) else (some false))
set_option maxHeartbeats 8000000 in
set_option maxRecDepth 100000 in
theorem lay_named_1.calls (a0 : Int) (r : Bool) (w : World) (h : lay_named_1.f a0 = some r) :
  Calls Try.prog 125 #[.int .u8 a0] w fun e w' => e = .returned (.bool r) ∧ Drawn0 w w' := by
 have H : (if a0 < 97 then (if a0 < 48 then (some true) else (some (decide (a0 > 57)))) else (if a0 > 122 then (if a0 < 48 then (some true) else (some (decide (a0 > 57)))) else (some false))) = some r := h
 clear h
 by_cases c2 : a0 < 97
 ·rw [if_pos c2] at H
  have c2b0 : decide (a0 < 97) = true := decide_eq_true c2
  clear c2
  by_cases c3 : a0 < 48
  ·rw [if_pos c3] at H
   have c3b0 : decide (a0 < 48) = true := decide_eq_true c3
   clear c3
   obtain rfl := Option.some.inj H
   go_enter Try.func125, Try.ntmps125
   go_wp2
   go_ret
   exact ⟨zr, by repeat (first | exact Drawn0.refl _ | apply Drawn0.step)⟩
  rw [if_neg c3] at H
  have c3b0 : decide (a0 < 48) = false := decide_eq_false c3
  clear c3
  obtain rfl := Option.some.inj H
  go_enter Try.func125, Try.ntmps125
  go_wp2
  go_ret
  exact ⟨zr, by repeat (first | exact Drawn0.refl _ | apply Drawn0.step)⟩
 ·rw [if_neg c2] at H
  have c2b0 : decide (a0 < 97) = false := decide_eq_false c2
  clear c2
  by_cases c4 : a0 > 122
  ·rw [if_pos c4] at H
   have c4b0 : decide (122 < a0) = true := decide_eq_true c4
   clear c4
   by_cases c5 : a0 < 48
   ·rw [if_pos c5] at H
    have c5b0 : decide (a0 < 48) = true := decide_eq_true c5
    clear c5
    obtain rfl := Option.some.inj H
    go_enter Try.func125, Try.ntmps125
    go_wp2
    go_ret
    exact ⟨zr, by repeat (first | exact Drawn0.refl _ | apply Drawn0.step)⟩
   rw [if_neg c5] at H
   have c5b0 : decide (a0 < 48) = false := decide_eq_false c5
   clear c5
   obtain rfl := Option.some.inj H
   go_enter Try.func125, Try.ntmps125
   go_wp2
   go_ret
   exact ⟨zr, by repeat (first | exact Drawn0.refl _ | apply Drawn0.step)⟩
  ·rw [if_neg c4] at H
   have c4b0 : decide (122 < a0) = false := decide_eq_false c4
   clear c4
   obtain rfl := Option.some.inj H
   go_enter Try.func125, Try.ntmps125
   go_wp2
   go_ret
   exact ⟨zr, by repeat (first | exact Drawn0.refl _ | apply Drawn0.step)⟩

/-! slices.IndexFunc[[]byte,byte] -/
set_option maxHeartbeats 4000000 in
set_option maxRecDepth 100000 in
theorem IndexFunc_B (p : Int → Option Bool) (g : Nat) (lb : Array Value) (eg : ∀ args w, (callFunc g args).run Try.prog w = .ok (.enter g args) w) (A : Option Addr) (c : Nat) (l : List Int) (r : Int) (w : World)
    (hr : Kd.C (Kd.int .u8) w A l.length l) (hp : PredK Try.prog (Kd.int .u8) g lb (fun cs => cs.headD undef) p w) (h : idxO p 0 l = some r) :
    Calls Try.prog 131 #[.slice A l.length c, .func (.func g) #[] lb] w fun e w' => e = .returned (.int .i64 r) ∧ Below w.heap.size w w' := by
  have hbig := hr.2.1
  have HR := Aside0.mk hr
  have HP := Aside0.mk hp
  have H0 := Aside0.mk h
  clear hr hp h
  go_enter Try.func131, Try.ntmps131
  go_wp2
  go_loopg [5, 8] l.length (fun gg _ s8 wr => ∃ kk : Nat, kk ≤ l.length ∧ l.length - kk ≤ gg ∧ s8 = .int .i64 kk ∧ Aside0 (Below w.heap.size w wr) ∧ Aside0 (idxO p kk (l.drop kk) = some r))
  case atStart => exact ⟨0, Nat.zero_le _, by omega, rfl, ⟨Below.refl _ w⟩, H0⟩
  case round =>
    obtain ⟨kk, hkk, hg, rfl, BW, A0_⟩ := hrel
    clear H0
    by_cases hlt : kk < l.length
    · have hltz : (kk : Int) < (l.length : Int) := by omega
      obtain ⟨ad, e0, hx0⟩ := Kd.at_int (Kd.C_below HR.out BW.out) (kk : Int) (by omega) (by omega)
      cases e0
      rw [Int.toNat_natCast] at hx0
      have hA := A0_.out
      have hd : l.drop kk = rd l (kk : Int) :: l.drop (kk + 1) := by
        show l.drop kk = l.getD kk 0 :: l.drop (kk + 1)
        rw [List.drop_eq_getElem_cons hlt, List.getD_eq_getElem?_getD, List.getElem?_eq_getElem hlt]
        rfl
      rw [hd] at hA
      simp only [idxO] at hA
      obtain ⟨b, hb, hA⟩ := Option.bind_eq_some_iff.1 hA
      have hcall := HP.out wr (rd l (kk : Int)) _ b BW.out (rfl) hb
      clear hd hb A0_
      cases b with
      | true =>
        rw [if_pos rfl] at hA
        injection hA with hA
        subst hA
        go_wp2_with (go_at_fn g; refine hcall.mono ?_; rintro e w' ⟨rfl, hb'⟩)
        go_ret
        exact ⟨by first | rfl | (simp; done), below_step BW.out hb'⟩
      | false =>
        rw [if_neg (by decide)] at hA
        have HA := Aside0.mk hA
        clear hA
        go_wp2_with (go_at_fn g; refine hcall.mono ?_; rintro e w' ⟨rfl, hb'⟩)
        go_roundg (l.length - (kk + 1))
        case measure => omega
        case rel => exact ⟨kk + 1, by omega, by omega, by go_num, ⟨below_step BW.out hb'⟩, ⟨by have := HA.out; simpa using this⟩⟩
    · have hltz : ¬ (kk : Int) < (l.length : Int) := by omega
      have hA := A0_.out
      rw [List.drop_eq_nil_of_le (by omega)] at hA
      simp only [idxO, Option.some.injEq] at hA
      subst hA
      clear A0_
      go_wp2
      go_ret
      exact ⟨by first | rfl | (simp; done), BW.out⟩

/-! slices.ContainsFunc[[]byte,byte] -/
set_option maxHeartbeats 4000000 in
theorem ContainsFunc_B (p : Int → Option Bool) (g : Nat) (lb : Array Value) (eg : ∀ args w, (callFunc g args).run Try.prog w = .ok (.enter g args) w) (A : Option Addr) (c : Nat) (l : List Int) (r : Bool) (w : World)
    (hr : Kd.C (Kd.int .u8) w A l.length l) (hp : PredK Try.prog (Kd.int .u8) g lb (fun cs => cs.headD undef) p w) (h : anyO p l = some r) :
    Calls Try.prog 126 #[.slice A l.length c, .func (.func g) #[] lb] w fun e w' => e = .returned (.bool r) ∧ Below w.heap.size w w' := by
  obtain ⟨j, hj, hd⟩ := idx_any p l 0 r (Int.le_refl 0) h
  have HI := Aside0.mk (IndexFunc_B p g lb eg A c l j w hr hp hj)
  subst hd
  clear hr hp h hj
  go_enter Try.func126, Try.ntmps126
  go_wp2_with (go_at_call 131; refine HI.out.mono ?_; rintro e w' ⟨rfl, hb'⟩)
  go_ret
  exact ⟨by first | rfl | (simp; done), hb'⟩

/-! slices_Index_string_string -/
def slices_Index_string_string.l0 : Nat → List ByteArray → ByteArray → Int → Int → Option (Int)
 | 0, _, _, _, _ => none
 | k + 1, x0, x1, x7, x8 => if x8 < x7 then (if 0 ≤ x8 then (if x8 < (x0.length : Int) then (if x1.toList = (rdOf ByteArray.empty x0 x8).toList then (some x8) else (slices_Index_string_string.l0 k x0 x1 x7 (wrap64 (x8 + 1)))) else (none)) else (none)) else (some (-1))
def slices_Index_string_string.f (k : Nat) (l0 : List ByteArray) (a1 : ByteArray) : Option (Int) := slices_Index_string_string.l0 k l0 a1 (l0.length : Int) 0
theorem slices_Index_string_string.mono_l : ∀ k, (∀ y0 y1 y2 y3, LeO (slices_Index_string_string.l0 k y0 y1 y2 y3) (slices_Index_string_string.l0 (k + 1) y0 y1 y2 y3))
 | 0 => fun _ _ _ _ r h => by simp [slices_Index_string_string.l0] at h
 | k + 1 => by
  have ih0 := slices_Index_string_string.mono_l k
  ·intro y0 y1 y2 y3
   unfold slices_Index_string_string.l0
   repeat' first
   | (with_reducible apply ih0)
   | (with_reducible apply LeO.refl)
   | (with_reducible apply LeO.none)
   | (with_reducible refine LeO.ite ?_ ?_)
   | (with_reducible refine LeO.bind ?_ (fun _ => ?_))
theorem slices_Index_string_string.mono : ∀ a0 a1 k, LeO (slices_Index_string_string.f k a0 a1) (slices_Index_string_string.f (k + 1) a0 a1) := by
 intro a0 a1 k
 have ih0 := slices_Index_string_string.mono_l k
 unfold slices_Index_string_string.f
 repeat' first
   | (with_reducible apply ih0)
   | (with_reducible apply LeO.refl)
   | (with_reducible apply LeO.none)
   | (with_reducible refine LeO.ite ?_ ?_)
   | (with_reducible refine LeO.bind ?_ (fun _ => ?_))
set_option maxHeartbeats 8000000 in
set_option maxRecDepth 100000 in
theorem slices_Index_string_string.calls (k : Nat) (A0 : Option Addr) (c0 : Nat) (l0 : List ByteArray) (a1 : ByteArray) (r : Int) (w : World) (hr0 : Kd.C Kd.string w A0 l0.length l0) (hc0 : l0.length ≤ c0) (h : slices_Index_string_string.f k l0 a1 = some r) :
  Calls Try.prog 58 #[.slice A0 l0.length c0, .string a1] w fun e w' => e = .returned (.int .i64 r) ∧ Drawn0 w w' := by
 have HR0 := Aside0.mk hr0
 have HC0 := Aside0.mk hc0
 clear hr0 hc0
 have H : (slices_Index_string_string.l0 k l0 a1 (l0.length : Int) 0) = some r := h
 clear h
 have H' := Aside0.mk H
 clear H
 go_enter Try.func58, Try.ntmps58
 go_wp2
 go_loopg [8] k (fun kq v8 w' => ∃ (x8_1 : Int), v8 = .int .i64 x8_1 ∧ Aside0 (slices_Index_string_string.l0 kq l0 a1 (l0.length : Int) x8_1 = some r) ∧ Aside0 (kq ≤ k) ∧ Drawn0 w w')
 case atStart => exact ⟨(0), (zr), H', ⟨Nat.le_refl _⟩, by repeat (first | exact Drawn0.refl _ | apply Drawn0.step)⟩
 case round =>
  clear H'
  try clear p2
  obtain ⟨x8_1, rfl, HA, HK1, ⟨m1, rfl⟩⟩ := hrel
  cases gk with
  | zero => exact absurd HA.out (by simp [slices_Index_string_string.l0])
  | succ k1 =>
   have H := HA.out
   clear HA
   simp only [slices_Index_string_string.l0] at H
   by_cases c3 : x8_1 < (l0.length : Int)
   ·rw [if_pos c3] at H
    have c3b0 : decide (x8_1 < (l0.length : Int)) = true := decide_eq_true c3
    clear c3
    by_cases c4 : 0 ≤ x8_1
    rotate_left
    ·rw [if_neg c4] at H
     exact absurd H (by simp)
    rw [if_pos c4] at H
    have c4b0 : decide (0 ≤ x8_1) = true := decide_eq_true c4
    clear c4
    by_cases c5 : x8_1 < (l0.length : Int)
    rotate_left
    ·rw [if_neg c5] at H
     exact absurd H (by simp)
    rw [if_pos c5] at H
    have c5b0 : decide (x8_1 < (l0.length : Int)) = true := decide_eq_true c5
    clear c5
    by_cases c6 : a1.toList = (rdOf ByteArray.empty l0 x8_1).toList
    ·rw [if_pos c6] at H
     have c6b0 : (a1.toList == (rdOf ByteArray.empty l0 x8_1).toList) = true := beq_iff_eq.mpr c6
     have c6b1 : (a1.toList != (rdOf ByteArray.empty l0 x8_1).toList) = false := bne_eq_false_iff_eq.mpr c6
     clear c6
     obtain rfl := Option.some.inj H
     have p115 : 0 ≤ (x8_1 : Int) := zdec
     have q115 : x8_1 < (l0.length : Int) := zdec
     obtain ⟨ad115, e115, hx115_0⟩ := Kd.at_string HR0.out x8_1 p115 q115
     cases e115
     replace p115 := eq_true p115
     replace q115 := eq_true q115
     go_wp2
     go_ret
     exact ⟨zr, by repeat (first | exact Drawn0.refl _ | apply Drawn0.step)⟩
    rw [if_neg c6] at H
    have c6b0 : (a1.toList == (rdOf ByteArray.empty l0 x8_1).toList) = false := beq_eq_false_iff_ne.mpr c6
    have c6b1 : (a1.toList != (rdOf ByteArray.empty l0 x8_1).toList) = true := bne_iff_ne.mpr c6
    have H' := Aside0.mk H
    clear H
    have p115 : 0 ≤ (x8_1 : Int) := zdec
    have q115 : x8_1 < (l0.length : Int) := zdec
    obtain ⟨ad115, e115, hx115_0⟩ := Kd.at_string HR0.out x8_1 p115 q115
    cases e115
    replace p115 := eq_true p115
    replace q115 := eq_true q115
    go_wp2
    go_roundg k1
    case measure => have := HK1.out; omega
    case rel => exact ⟨(wrap64 (x8_1 + 1)), (zr), H', ⟨by have := HK1.out; omega⟩, by repeat (first | exact Drawn0.refl _ | apply Drawn0.step)⟩
   ·rw [if_neg c3] at H
    have c3b0 : decide (x8_1 < (l0.length : Int)) = false := decide_eq_false c3
    clear c3
    obtain rfl := Option.some.inj H
    go_wp2
    go_ret
    exact ⟨zr, by repeat (first | exact Drawn0.refl _ | apply Drawn0.step)⟩

/-! slices_Contains_string_string -/
def slices_Contains_string_string.f (k : Nat) (l0 : List ByteArray) (a1 : ByteArray) : Option (Bool) := (slices_Index_string_string.f k l0 a1).bind fun t116 => (some (decide (t116 ≥ 0)))
theorem slices_Contains_string_string.mono : ∀ a0 a1 k, LeO (slices_Contains_string_string.f k a0 a1) (slices_Contains_string_string.f (k + 1) a0 a1) := by
 intro a0 a1 k
 unfold slices_Contains_string_string.f
 repeat' first
   | (with_reducible apply slices_Index_string_string.mono)
   | (with_reducible apply LeO.refl)
   | (with_reducible apply LeO.none)
   | (with_reducible refine LeO.ite ?_ ?_)
   | (with_reducible refine LeO.bind ?_ (fun _ => ?_))
set_option maxHeartbeats 8000000 in
set_option maxRecDepth 100000 in
theorem slices_Contains_string_string.calls (k : Nat) (A0 : Option Addr) (c0 : Nat) (l0 : List ByteArray) (a1 : ByteArray) (r : Bool) (w : World) (hr0 : Kd.C Kd.string w A0 l0.length l0) (hc0 : l0.length ≤ c0) (h : slices_Contains_string_string.f k l0 a1 = some r) :
  Calls Try.prog 127 #[.slice A0 l0.length c0, .string a1] w fun e w' => e = .returned (.bool r) ∧ Drawn0 w w' := by
 have HR0 := Aside0.mk hr0
 have HC0 := Aside0.mk hc0
 clear hr0 hc0
 have H : ((slices_Index_string_string.f k l0 a1).bind fun t116 => (some (decide (t116 ≥ 0)))) = some r := h
 clear h
 replace H := Option.bind_eq_some_iff.mp H
 obtain ⟨t116, A30, H⟩ := H
 replace H : (some (decide (t116 ≥ 0))) = some r := H
 have A3 := Aside0.mk A30
 clear A30
 obtain rfl := Option.some.inj H
 go_enter Try.func127, Try.ntmps127
 go_wp2_with (first | ((with_reducible refine gate_callee (f := 58) rfl ?_); refine zgo (some 7) Try.func58 #[.slice A0 l0.length c0, .string a1] ?_; (with_reducible refine (slices_Index_string_string.calls k _ _ l0 a1 t116 _ ?side1 ?side2 A3.out).mono ?_); (case side1 => repeat (first | exact HR0.out | (with_reducible refine Kd.C_alloc ?_ _) | (with_reducible refine Kd.C_drewN ?_ _) | (with_reducible refine Kd.C_drew ?_))); (case side2 => exact HC0.out); rintro e w' ⟨rfl, ⟨nd, rfl⟩⟩; refine ⟨_, rfl, ?_⟩))
 go_ret
 exact ⟨zr, by repeat (first | exact Drawn0.refl _ | apply Drawn0.step)⟩

/-! cellar/lay.named -/
def lay_named.l0 : Nat → List ByteArray → Int → Option Bool
 | 0, _, _ => none
 | k + 1, l, i => if i < (l.length : Int) then (if 0 ≤ i then (if ((rdOf ByteArray.empty l i).size : Int) < 1 then (some false) else (if ((rdOf ByteArray.empty l i).size : Int) > 8 then (some false) else (if (bt (rdOf ByteArray.empty l i) 0) < 97 then (some false) else ((anyO (fun x => lay_named_1.f x) (bytesOf (rdOf ByteArray.empty l i))).bind fun b1 => (if b1 = true then (some false) else ((slices_Contains_string_string.f k (l.take i.toNat) (rdOf ByteArray.empty l i)).bind fun b2 => (if b2 = true then (some false) else (lay_named.l0 k l (wrap64 (i + 1)))))))))) else (none)) else (some true)
def lay_named.f (k : Nat) (l : List ByteArray) : Option Bool := lay_named.l0 k l 0
theorem lay_named.mono_l : ∀ k, (∀ y0 y1, LeO (lay_named.l0 k y0 y1) (lay_named.l0 (k + 1) y0 y1))
 | 0 => fun _ _ r h => by simp [lay_named.l0] at h
 | k + 1 => by
  have ih0 := lay_named.mono_l k
  intro y0 y1
  unfold lay_named.l0
  repeat' first
   | (with_reducible apply ih0)
   | (with_reducible apply slices_Contains_string_string.mono)
   | (with_reducible apply LeO.refl)
   | (with_reducible apply LeO.none)
   | (with_reducible refine LeO.ite ?_ ?_)
   | (with_reducible refine LeO.bind ?_ (fun _ => ?_))
theorem lay_named.mono : ∀ a0 k, LeO (lay_named.f k a0) (lay_named.f (k + 1) a0) := fun a0 k => lay_named.mono_l k a0 0
theorem named_pred (w : World) : PredK Try.prog (Kd.int .u8) 125 #[] (fun cs => cs.headD undef) (fun x => lay_named_1.f x) w := fun W x cs b hb hK hx => by
  obtain rfl := hK
  exact (lay_named_1.calls x b W hx).mono fun e w' ⟨he, hd⟩ => ⟨he, hd.below⟩
theorem conv_event {P : Program} {ops : Array Oper} {o : Oper} {a : Act} {Q : Exit → Act → World → Prop} {rest : List Oper} {W : World} (hgd : o.guard = none) (src dst e : TypeId) {u : TypeDesc} (hs : P.underlying src = some u) (hd : P.underlying dst = some (.slice e)) (he : P.underlying e = some (.int .u8))
    (x : Operand) (ho : o.op = .convert src dst x) (s : ByteArray) (hx : a.eval x = .string s) (hle : s.size ≤ 9223372036854775807)
    (h : ∀ A c w1, (Kd.int .u8).C w1 A (bytesOf s).length (bytesOf s) → Below W.heap.size W w1 → wpList P ops Q rest (a.put o.dst (.slice A (bytesOf s).length c)) w1) : wpList P ops Q (o :: rest) a W := by
  have hlen : (bytesOf s).length = s.size := bytesOf_length s
  have hrun : (execOp a.eval o).run P W = .ok (.value (.slice (some ⟨W.heap.size, 0, none⟩) s.size (grownCap W s.size 0 e))) (Lib.bytesWorld W e s) := by
    unfold execOp
    simp [ho, hx, print_bytes src dst e hs hd he s W]
  refine Kd.event_run hgd hrun ?_
  have h1 := h (some ⟨W.heap.size, 0, none⟩) (grownCap W s.size 0 e) (Lib.bytesWorld W e s) ?_ (bytes_below (Below.refl _ _) (Nat.le_refl _) e s)
  · rw [hlen] at h1
    exact h1
  · rw [hlen]
    exact Kd.C_of_reads (d := (0 : Int)) (readsInt_of.1 (bytes_reads W e s hle))
set_option maxHeartbeats 8000000 in
set_option maxRecDepth 100000 in
theorem lay_named.calls (k : Nat) (A0 : Option Addr) (c0 : Nat) (l0 : List ByteArray) (r : Bool) (w : World) (hr0 : Kd.C Kd.string w A0 l0.length l0) (hc0 : l0.length ≤ c0) (h : lay_named.f k l0 = some r) :
  Calls Try.prog 114 #[.slice A0 l0.length c0] w fun e w' => e = .returned (.bool r) ∧ Below w.heap.size w w' := by
 have HR0 := Aside0.mk hr0
 have HC0 := Aside0.mk hc0
 clear hr0 hc0
 have HB := Aside0.mk (Below.refl w.heap.size w)
 have H' := Aside0.mk (show lay_named.l0 k l0 0 = some r from h)
 clear h
 go_enter Try.func114, Try.ntmps114
 go_wp2
 go_loopg [3, 4, 5, 8] k (fun kq v3 v4 v5 v8 wr => ∃ x : Int, v8 = .int .i64 x ∧ Aside0 (lay_named.l0 kq l0 x = some r) ∧ Aside0 (kq ≤ k) ∧ Aside0 (Below w.heap.size w wr))
 case atStart => exact ⟨0, rfl, H', ⟨Nat.le_refl _⟩, HB⟩
 case round =>
  clear H' HB
  obtain ⟨x, rfl, HA, HK1, BW⟩ := hrel
  cases gk with
  | zero => exact absurd HA.out (by simp [lay_named.l0])
  | succ k1 =>
   have H := HA.out
   clear HA
   simp only [lay_named.l0] at H
   by_cases c1 : x < (l0.length : Int)
   · rw [if_pos c1] at H
     by_cases c2 : 0 ≤ x
     · rw [if_pos c2] at H
       have q1 := eq_true c1
       have q2 := eq_true c2
       obtain ⟨ad, e0, hx0⟩ := Kd.at_string (Kd.C_below HR0.out BW.out) x c2 c1
       obtain ⟨i9, hi9, hs9⟩ : ∃ i, Try.prog.info? 9 = some i ∧ i.size = 1 := Option.map_eq_some_iff.1 (show (Try.prog.info? 9).map (·.size) = some 1 by kernel_rfl)
       obtain ⟨hcut, hA, hC⟩ := print_take_of (P := Try.prog) Value.string (⟨#[]⟩ : ByteArray) 24 9 .i64 Try.underlying24 hi9 hs9 A0 c0 l0 x c2 (by omega) HC0.out
       have HRT := Aside0.mk (fun w' (hb : Below w.heap.size w w') => Kd.C_of_reads (h1 := fun _ => rfl) (hA _ (Kd.reads_of_C (Kd.C_below HR0.out hb))))
       have HCT := Aside0.mk hC
       clear hA hC hi9 hs9 c1 c2
       cases e0
       generalize hs : rdOf ByteArray.empty l0 x = s at H hx0
       by_cases d1 : (s.size : Int) < 1
       · rw [if_pos d1] at H
         have d1b := decide_eq_true d1
         obtain rfl := Option.some.inj H
         go_wp2
         go_ret
         exact ⟨by first | rfl | (simp; done), BW.out⟩
       rw [if_neg d1] at H
       have d1b : decide ((s.size : Int) < 1) = false := decide_eq_false d1
       by_cases d2 : (s.size : Int) > 8
       · rw [if_pos d2] at H
         have d2b : decide (8 < (s.size : Int)) = true := decide_eq_true d2
         obtain rfl := Option.some.inj H
         go_wp2
         go_ret
         exact ⟨by first | rfl | (simp; done), BW.out⟩
       rw [if_neg d2] at H
       have d2b : decide (8 < (s.size : Int)) = false := decide_eq_false d2
       have hle : s.size ≤ 9223372036854775807 := by omega
       have hb0 : ∀ h : 0 < s.size, ((s[0]'h).toNat : Int) = bt s 0 := fun h => bt_at s 0 h
       have hb1 : (0 : Int) < (s.size : Int) := by omega
       have hb2 : 0 < s.size := by omega
       replace hb1 := eq_true hb1
       replace hb2 := eq_true hb2
       clear d1 d2
       by_cases d3 : bt s 0 < 97
       · rw [if_pos d3] at H
         have d3b : decide (bt s 0 < 97) = true := decide_eq_true d3
         obtain rfl := Option.some.inj H
         go_wp2
         go_ret
         exact ⟨by first | rfl | (simp; done), BW.out⟩
       rw [if_neg d3] at H
       have d3b : decide (bt s 0 < 97) = false := decide_eq_false d3
       clear d3
       obtain ⟨b1, hb, H⟩ := Option.bind_eq_some_iff.1 H
       have HAny := Aside0.mk hb
       clear hb
       have HLe := Aside0.mk hle
       clear hle
       have HP := Aside0.mk (named_pred wr)
       cases b1 with
       | true =>
         rw [if_pos rfl] at H
         obtain rfl := Option.some.inj H
         go_wp2_with (first | ((with_reducible refine gate_dst (N := 28) rfl ?_); (try (refine gate_guard (by rfl) ?_; dsimp only)); refine conv_event (by rfl) 9 144 5 Try.underlying9 Try.underlying144 Try.underlying5 _ rfl s rfl HLe.out ?_; intro Ac cc wc hCc hBc; have HCc := Aside0.mk hCc; have HBc := Aside0.mk hBc; clear hCc hBc) | (go_at_call 126; refine (ContainsFunc_B _ 125 #[] (enters_of Try.func125 (by kernel_rfl) rfl) _ _ (bytesOf s) true _ HCc.out (named_pred _) HAny.out).mono ?_; rintro e w' ⟨rfl, hb'⟩; have HBd := Aside0.mk hb'; clear hb'))
         go_ret
         exact ⟨by first | rfl | (simp; done), below_step (below_step BW.out HBc.out) HBd.out⟩
       | false =>
         rw [if_neg (by decide)] at H
         obtain ⟨b2, hb, H⟩ := Option.bind_eq_some_iff.1 H
         have HIn := Aside0.mk hb
         clear hb
         cases b2 with
         | true =>
           rw [if_pos rfl] at H
           obtain rfl := Option.some.inj H
           go_wp2_with (first | ((with_reducible refine gate_dst (N := 28) rfl ?_); (try (refine gate_guard (by rfl) ?_; dsimp only)); refine conv_event (by rfl) 9 144 5 Try.underlying9 Try.underlying144 Try.underlying5 _ rfl s rfl HLe.out ?_; intro Ac cc wc hCc hBc; have HCc := Aside0.mk hCc; have HBc := Aside0.mk hBc; clear hCc hBc) | (go_at_call 126; refine (ContainsFunc_B _ 125 #[] (enters_of Try.func125 (by kernel_rfl) rfl) _ _ (bytesOf s) false _ HCc.out (named_pred _) HAny.out).mono ?_; rintro e w' ⟨rfl, hb'⟩; have HBd := Aside0.mk hb'; clear hb') | (go_at_call 127; refine calls_of_args (args' := #[.slice (some ad) (l0.take x.toNat).length c0, .string s]) (by rw [List.length_take]) ?_; refine (slices_Contains_string_string.calls k1 _ _ (l0.take x.toNat) s true _ (HRT.out _ (below_step (below_step BW.out HBc.out) HBd.out)) HCT.out HIn.out).mono ?_; rintro e w' ⟨rfl, ⟨nd, rfl⟩⟩))
           go_ret
           exact ⟨by first | rfl | (simp; done), below_step (below_step BW.out HBc.out) (pw_below_drewN HBd.out _)⟩
         | false =>
           rw [if_neg (by decide)] at H
           have H' := Aside0.mk H
           clear H
           go_wp2_with (first | ((with_reducible refine gate_dst (N := 28) rfl ?_); (try (refine gate_guard (by rfl) ?_; dsimp only)); refine conv_event (by rfl) 9 144 5 Try.underlying9 Try.underlying144 Try.underlying5 _ rfl s rfl HLe.out ?_; intro Ac cc wc hCc hBc; have HCc := Aside0.mk hCc; have HBc := Aside0.mk hBc; clear hCc hBc) | (go_at_call 126; refine (ContainsFunc_B _ 125 #[] (enters_of Try.func125 (by kernel_rfl) rfl) _ _ (bytesOf s) false _ HCc.out (named_pred _) HAny.out).mono ?_; rintro e w' ⟨rfl, hb'⟩; have HBd := Aside0.mk hb'; clear hb') | (go_at_call 127; refine calls_of_args (args' := #[.slice (some ad) (l0.take x.toNat).length c0, .string s]) (by rw [List.length_take]) ?_; refine (slices_Contains_string_string.calls k1 _ _ (l0.take x.toNat) s false _ (HRT.out _ (below_step (below_step BW.out HBc.out) HBd.out)) HCT.out HIn.out).mono ?_; rintro e w' ⟨rfl, ⟨nd, rfl⟩⟩))
           go_roundg k1
           case measure => have := HK1.out; omega
           case rel => exact ⟨wrap64 (x + 1), by first | rfl | (simp; done), H', ⟨by have := HK1.out; omega⟩, ⟨below_step (below_step BW.out HBc.out) (pw_below_drewN HBd.out _)⟩⟩
     · rw [if_neg c2] at H
       exact absurd H (by simp)
   · rw [if_neg c1] at H
     have c1b : decide (x < (l0.length : Int)) = false := decide_eq_false c1
     obtain rfl := Option.some.inj H
     go_wp2
     go_ret
     exact ⟨by first | rfl | (simp; done), BW.out⟩

/-! slices.IndexFunc[[]int,int] -/
set_option maxHeartbeats 4000000 in
set_option maxRecDepth 100000 in
theorem IndexFunc_I (p : Int → Option Bool) (g : Nat) (lb : Array Value) (eg : ∀ args w, (callFunc g args).run Try.prog w = .ok (.enter g args) w) (A : Option Addr) (c : Nat) (l : List Int) (r : Int) (w : World)
    (hr : Kd.C (Kd.int .i64) w A l.length l) (hp : PredK Try.prog (Kd.int .i64) g lb (fun cs => cs.headD undef) p w) (h : idxO p 0 l = some r) :
    Calls Try.prog 128 #[.slice A l.length c, .func (.func g) #[] lb] w fun e w' => e = .returned (.int .i64 r) ∧ Below w.heap.size w w' := by
  have hbig := hr.2.1
  have HR := Aside0.mk hr
  have HP := Aside0.mk hp
  have H0 := Aside0.mk h
  clear hr hp h
  go_enter Try.func128, Try.ntmps128
  go_wp2
  go_loopg [5, 8] l.length (fun gg _ s8 wr => ∃ kk : Nat, kk ≤ l.length ∧ l.length - kk ≤ gg ∧ s8 = .int .i64 kk ∧ Aside0 (Below w.heap.size w wr) ∧ Aside0 (idxO p kk (l.drop kk) = some r))
  case atStart => exact ⟨0, Nat.zero_le _, by omega, rfl, ⟨Below.refl _ w⟩, H0⟩
  case round =>
    obtain ⟨kk, hkk, hg, rfl, BW, A0_⟩ := hrel
    clear H0
    by_cases hlt : kk < l.length
    · have hltz : (kk : Int) < (l.length : Int) := by omega
      obtain ⟨ad, e0, hx0⟩ := Kd.at_int (Kd.C_below HR.out BW.out) (kk : Int) (by omega) (by omega)
      cases e0
      rw [Int.toNat_natCast] at hx0
      have hA := A0_.out
      have hd : l.drop kk = rd l (kk : Int) :: l.drop (kk + 1) := by
        show l.drop kk = l.getD kk 0 :: l.drop (kk + 1)
        rw [List.drop_eq_getElem_cons hlt, List.getD_eq_getElem?_getD, List.getElem?_eq_getElem hlt]
        rfl
      rw [hd] at hA
      simp only [idxO] at hA
      obtain ⟨b, hb, hA⟩ := Option.bind_eq_some_iff.1 hA
      have hcall := HP.out wr (rd l (kk : Int)) _ b BW.out (rfl) hb
      clear hd hb A0_
      cases b with
      | true =>
        rw [if_pos rfl] at hA
        injection hA with hA
        subst hA
        go_wp2_with (go_at_fn g; refine hcall.mono ?_; rintro e w' ⟨rfl, hb'⟩)
        go_ret
        exact ⟨by first | rfl | (simp; done), below_step BW.out hb'⟩
      | false =>
        rw [if_neg (by decide)] at hA
        have HA := Aside0.mk hA
        clear hA
        go_wp2_with (go_at_fn g; refine hcall.mono ?_; rintro e w' ⟨rfl, hb'⟩)
        go_roundg (l.length - (kk + 1))
        case measure => omega
        case rel => exact ⟨kk + 1, by omega, by omega, by go_num, ⟨below_step BW.out hb'⟩, ⟨by have := HA.out; simpa using this⟩⟩
    · have hltz : ¬ (kk : Int) < (l.length : Int) := by omega
      have hA := A0_.out
      rw [List.drop_eq_nil_of_le (by omega)] at hA
      simp only [idxO, Option.some.injEq] at hA
      subst hA
      clear A0_
      go_wp2
      go_ret
      exact ⟨by first | rfl | (simp; done), BW.out⟩

/-! slices.ContainsFunc[[]int,int] -/
set_option maxHeartbeats 4000000 in
theorem ContainsFunc_I (p : Int → Option Bool) (g : Nat) (lb : Array Value) (eg : ∀ args w, (callFunc g args).run Try.prog w = .ok (.enter g args) w) (A : Option Addr) (c : Nat) (l : List Int) (r : Bool) (w : World)
    (hr : Kd.C (Kd.int .i64) w A l.length l) (hp : PredK Try.prog (Kd.int .i64) g lb (fun cs => cs.headD undef) p w) (h : anyO p l = some r) :
    Calls Try.prog 115 #[.slice A l.length c, .func (.func g) #[] lb] w fun e w' => e = .returned (.bool r) ∧ Below w.heap.size w w' := by
  obtain ⟨j, hj, hd⟩ := idx_any p l 0 r (Int.le_refl 0) h
  have HI := Aside0.mk (IndexFunc_I p g lb eg A c l j w hr hp hj)
  subst hd
  clear hr hp h hj
  go_enter Try.func115, Try.ntmps115
  go_wp2_with (go_at_call 128; refine HI.out.mono ?_; rintro e w' ⟨rfl, hb'⟩)
  go_ret
  exact ⟨by first | rfl | (simp; done), hb'⟩

/-! cellar/lay.form$2 -/
theorem nahead_calls (B5 B : Nat) (n k : Int) (W : World) (h5 : W.cell? ⟨B5, 0, none⟩ = some (.func (.func 113) #[] #[.pointer (some ⟨B, 0, none⟩)])) (hcell : W.cell? ⟨B, 0, none⟩ = some (.int .i64 n)) :
  Calls Try.prog 116 #[.int .i64 k, .pointer (some ⟨B5, 0, none⟩)] W fun e w' => e = .returned (.bool (!(decide (0 ≤ k) && decide (k < n)))) ∧ Below W.heap.size W w' := by
 have eg : ∀ args w, (callFunc 113 args).run Try.prog w = .ok (.enter 113 args) w := enters_of Try.func113 (by kernel_rfl) rfl
 have HC := Aside0.mk hcell
 clear hcell
 go_enter Try.func116, Try.ntmps116
 go_wp2_with (go_at_fn 113; refine (ahead_calls B n k _ HC.out).mono ?_; rintro e w' ⟨rfl, hb'⟩)
 go_ret
 exact ⟨by first | rfl | (simp [*]; done), hb'⟩
theorem nahead_pred (B5 B : Nat) (n : Int) (w : World) (h5 : w.cell? ⟨B5, 0, none⟩ = some (.func (.func 113) #[] #[.pointer (some ⟨B, 0, none⟩)])) (hcell : w.cell? ⟨B, 0, none⟩ = some (.int .i64 n)) :
  PredK Try.prog (Kd.int .i64) 116 #[.pointer (some ⟨B5, 0, none⟩)] (fun cs => cs.headD undef) (fun k => some (!(decide (0 ≤ k) && decide (k < n)))) w := fun W x cs b hb hK hx => by
 obtain rfl := hK
 injection hx with hx
 subst hx
 exact nahead_calls B5 B n x W ((hb.cell (World.block_lt_of_cell? w _ h5)).trans h5) ((hb.cell (World.block_lt_of_cell? w _ hcell)).trans hcell)

end Go.Proofs.Ytjoplkillkhiaaa.L
