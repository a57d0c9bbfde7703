-- Written by this session's own edition of the print.
import Derived.Test.YthhdmanpjeminaaHx0
import Derived.Test.YthhdmanpjeminaaHx3
import Derived.Test.YthhdmanpjeminaaSq
import Derived.Test.YthhdmanpjeminaaSq2
namespace Go.Proofs.Ythhdmanpjeminaa.H
open Go.RowKit Go.Proofs.Ythhdmanpjeminaa.Fn Go.Proofs.YthhdmanpjeminaaW.PrintWords Go.Proofs.YthhdmanpjeminaaW.PrintLast Go.Proofs.YthhdmanpjeminaaW.PrintMore
attribute [local go_sem] max2_int min2_int max_two min_two max_three min_three max_four min_four   -- for this text's walks alone
set_option linter.unusedVariables false
set_option linter.unusedSimpArgs false

/-! cellarref7_Put -/
mutual
def cellarref7_Put.l0 : Nat → Int → List (S51) → Int → Bool → Int → Bool → Int → Int → Int → Option ((List (S51)))
 | 0, _, _, _, _, _, _, _, _, _ => none
 | k + 1, x7, x8, x9, x126000, x126001, x127000, x127001, x127002, x127003 => if x9 < x7 then (if x126000 = true then (cellarref7_Put.j1 k x7 x8 x9 (wrap64 ((wrap64 (x7 - 1)) - x9)) x126000 x126001 x127000 x127001 x127002 x127003) else (cellarref7_Put.j1 k x7 x8 x9 x9 x126000 x126001 x127000 x127001 x127002 x127003)) else (some x8)
def cellarref7_Put.j1 : Nat → Int → List (S51) → Int → Int → Bool → Int → Bool → Int → Int → Int → Option ((List (S51)))
 | 0, _, _, _, _, _, _, _, _, _, _ => none
 | k + 1, x7, x8, x9, x10, x126000, x126001, x127000, x127001, x127002, x127003 => if 0 ≤ (wrap64 (8 * x10)) then (if 0 ≤ x9 then (if x9 < (x8.length : Int) then ((some (x8.set (x9 : Int).toNat (⟨1, Go.bits .and .i64 (shr .i64 x127001 (wrap64 (8 * x10))) 255, 0, 0, 0⟩ : S51) : List (S51))).bind fun y131 => (if x127000 = true then ((some (y131.set (x9 : Int).toNat (⟨1, 0, 0, 0, 0⟩ : S51) : List (S51))).bind fun y132 => (if x127002 > 0 then (cellarref7_Put.l0 k x7 (y132.set (x9 : Int).toNat (⟨2, 0, x127002, x127003, x9⟩ : S51)) (wrap64 (x9 + 1)) x126000 x126001 x127000 x127001 x127002 x127003) else (cellarref7_Put.l0 k x7 y132 (wrap64 (x9 + 1)) x126000 x126001 x127000 x127001 x127002 x127003))) else (cellarref7_Put.l0 k x7 y131 (wrap64 (x9 + 1)) x126000 x126001 x127000 x127001 x127002 x127003))) else (none)) else (none)) else (none)
end
def cellarref7_Put.f (k : Nat) (a0_0 : Bool) (a0_1 : Int) (a1 : Int) (a2_0 : Bool) (a2_1 : Int) (a2_2 : Int) (a2_3 : Int) : Option ((List (S51))) := (cellarref1_Size.f k a0_0 a0_1 a1).bind fun t127 => (if 0 ≤ t127 then (if (t127 : Int).toNat ≤ 7036874417766 then (cellarref7_Put.l0 k t127 (List.replicate (t127 : Int).toNat z51) 0 a0_0 a0_1 a2_0 a2_1 a2_2 a2_3) else (none)) else (none))
theorem cellarref7_Put.mono_l : ∀ k, (∀ y0 y1 y2 y3 y4 y5 y6 y7 y8, LeO (cellarref7_Put.l0 k y0 y1 y2 y3 y4 y5 y6 y7 y8) (cellarref7_Put.l0 (k + 1) y0 y1 y2 y3 y4 y5 y6 y7 y8)) ∧ (∀ y0 y1 y2 y3 y4 y5 y6 y7 y8 y9, LeO (cellarref7_Put.j1 k y0 y1 y2 y3 y4 y5 y6 y7 y8 y9) (cellarref7_Put.j1 (k + 1) y0 y1 y2 y3 y4 y5 y6 y7 y8 y9))
 | 0 => ⟨fun _ _ _ _ _ _ _ _ _ r h => by simp [cellarref7_Put.l0] at h, fun _ _ _ _ _ _ _ _ _ _ r h => by simp [cellarref7_Put.j1] at h⟩
 | k + 1 => by
  obtain ⟨ih0, ih1⟩ := cellarref7_Put.mono_l k
  refine ⟨?_, ?_⟩
  ·intro y0 y1 y2 y3 y4 y5 y6 y7 y8
   unfold cellarref7_Put.l0
   repeat' first
   | (with_reducible apply ih0)
   | (with_reducible apply ih1)
   | (with_reducible apply cellarref1_Size.mono)
   | (with_reducible apply LeO.refl)
   | (with_reducible apply LeO.none)
   | (with_reducible refine LeO.ite ?_ ?_)
   | (with_reducible refine LeO.bind ?_ (fun _ => ?_))
  ·intro y0 y1 y2 y3 y4 y5 y6 y7 y8 y9
   unfold cellarref7_Put.j1
   repeat' first
   | (with_reducible apply ih0)
   | (with_reducible apply ih1)
   | (with_reducible apply cellarref1_Size.mono)
   | (with_reducible apply LeO.refl)
   | (with_reducible apply LeO.none)
   | (with_reducible refine LeO.ite ?_ ?_)
   | (with_reducible refine LeO.bind ?_ (fun _ => ?_))
theorem cellarref7_Put.mono : ∀ a0 a1 a2 a3 a4 a5 a6 k, LeO (cellarref7_Put.f k a0 a1 a2 a3 a4 a5 a6) (cellarref7_Put.f (k + 1) a0 a1 a2 a3 a4 a5 a6) := by
 intro a0 a1 a2 a3 a4 a5 a6 k
 obtain ⟨ih0, ih1⟩ := cellarref7_Put.mono_l k
 unfold cellarref7_Put.f
 repeat' first
   | (with_reducible apply ih0)
   | (with_reducible apply ih1)
   | (with_reducible apply cellarref1_Size.mono)
   | (with_reducible apply LeO.refl)
   | (with_reducible apply LeO.none)
   | (with_reducible refine LeO.ite ?_ ?_)
   | (with_reducible refine LeO.bind ?_ (fun _ => ?_))
set_option maxHeartbeats 8000000 in
set_option maxRecDepth 100000 in
theorem cellarref7_Put.calls (k : Nat) (a0_0 : Bool) (a0_1 : Int) (a1 : Int) (a2_0 : Bool) (a2_1 : Int) (a2_2 : Int) (a2_3 : Int) (r : List (S51)) (w : World) (h : cellarref7_Put.f k a0_0 a0_1 a1 a2_0 a2_1 a2_2 a2_3 = some r) :
  Calls Try.prog 30 #[.agg #[.bool a0_0, .int .i64 a0_1], .int .i64 a1, .agg #[.bool a2_0, .int .i64 a2_1, .int .i64 a2_2, .int .i64 a2_3]] w fun e w' => ∃ v0_ : Value, e = .returned (v0_) ∧ Kd.R k51 51 w' w.heap.size (fun _ => True) v0_ r ∧ Below w.heap.size w w' := by
 have hu38 := Try.underlying38
 have hu33 := Try.underlying33
 have hu51 := Try.underlying51
 have HB := Aside0.mk (Below.refl w.heap.size w)
 have H : ((cellarref1_Size.f k a0_0 a0_1 a1).bind fun t127 => (if 0 ≤ t127 then (if (t127 : Int).toNat ≤ 7036874417766 then (cellarref7_Put.l0 k t127 (List.replicate (t127 : Int).toNat z51) 0 a0_0 a0_1 a2_0 a2_1 a2_2 a2_3) else (none)) else (none))) = some r := h
 clear h
 replace H := Option.bind_eq_some_iff.mp H
 obtain ⟨t127, A40, H⟩ := H
 replace H : (if 0 ≤ t127 then (if (t127 : Int).toNat ≤ 7036874417766 then (cellarref7_Put.l0 k t127 (List.replicate (t127 : Int).toNat z51) 0 a0_0 a0_1 a2_0 a2_1 a2_2 a2_3) else (none)) else (none)) = some r := H
 have A4 := Aside0.mk A40
 clear A40
 by_cases c5 : 0 ≤ t127
 ·rw [if_pos c5] at H
  have c5b0 := eq_true c5
  have c5b1 : decide (0 ≤ t127) = true := decide_eq_true c5
  clear c5
  by_cases c6 : (t127 : Int).toNat ≤ 7036874417766
  rotate_left
  ·rw [if_neg c6] at H
   exact absurd H (by simp)
  rw [if_pos c6] at H
  have c6b0 := eq_true c6
  have c6b1 : decide ((t127 : Int).toNat ≤ 7036874417766) = true := decide_eq_true c6
  clear c6
  obtain ⟨y128, hy128⟩ : ∃ y_ : List (S51), y_ = (List.replicate (t127 : Int).toNat z51) := ⟨_, rfl⟩
  replace H : (cellarref7_Put.l0 k t127 y128 0 a0_0 a0_1 a2_0 a2_1 a2_2 a2_3) = some r := by first | (rw [hy128]; with_reducible exact H) | (have H2_ := (Option.bind_some _ _).symm.trans H; rw [hy128]; with_reducible exact H2_) | (have H2_ := (Option.bind_some _ _).symm.trans H; with_reducible exact H2_) | with_reducible exact H | (rw [hy128]; exact H) | exact H
  have Ny128 := Aside0.mk hy128
  clear hy128
  have H' := Aside0.mk H
  clear H
  go_enter Try.func30, Try.ntmps30
  go_wp2_with (first | ((with_reducible refine gate_dst (N := 3) rfl ?_); refine zbox (N := 3) (cs := #[.bool a0_0, .int .i64 a0_1]) (t := 38) ?_; intro gb125 hg w7 hbox hb; have n0_ := Aside0.mk (below_step (zw0 HB.out) hb); have BK125 := Aside0.mk (hbox); have GW125 := Aside0.mk (zg hg (below_size (zw0 HB.out))); have GE125 := GW125; clear HB; have HB := n0_; clear n0_; clear hb hbox hg) | ((with_reducible refine gate_dst (N := 5) rfl ?_); refine zbox (N := 5) (cs := #[.bool a2_0, .int .i64 a2_1, .int .i64 a2_2, .int .i64 a2_3]) (t := 33) ?_; intro gb126 hg w8 hbox hb; have n0_ := Aside0.mk (zbb BK125.out hb); have n1_ := Aside0.mk (below_step (zw1 HB.out GE125.out) hb); have BK126 := Aside0.mk (hbox); have GW126 := Aside0.mk (zg hg (below_size (zw1 HB.out GE125.out))); have GE126 := GW126; have NB125_126 := Aside0.mk (zlt hg BK125.out); have NB126_125 := Aside0.mk (zgt hg BK125.out); clear BK125 HB; have BK125 := n0_; have HB := n1_; clear n0_ n1_; clear hb hbox hg; have hnb9 := NB125_126.out; have hnc9 := NB126_125.out; have hcz10_0 := zc BK125.out 0; have hcz10_1 := zc BK125.out 1; have hfz10_0 := blk_frozen BK125.out 0; have hfz10_1 := blk_frozen BK125.out 1) | ((with_reducible refine gate_callee (f := 20) rfl ?_); refine zgo (some 13) Try.func20 #[.agg #[.bool a0_0, .int .i64 a0_1], .int .i64 a1] ?_; (with_reducible refine (cellarref1_Size.calls k a0_0 a0_1 a1 t127 _ A4.out).mono ?_); rintro e w11 ⟨rfl, hb⟩; refine ⟨_, rfl, ?_⟩; have n0_ := Aside0.mk (zbb BK125.out hb); have n1_ := Aside0.mk (zbb BK126.out hb); have n2_ := Aside0.mk (below_step (zw2 HB.out GE125.out GE126.out) hb); clear BK125 BK126 HB; have BK125 := n0_; have BK126 := n1_; have HB := n2_; clear n0_ n1_ n2_; (try clear hb); (try clear hb2); (try clear hk); (try clear hi)) | ((with_reducible refine gate_dst (N := 15) rfl ?_); refine Kd.R_make k51 _ 51 rfl (N := 15) rfl 24 _ _ rfl t127 rfl rfl Try.underlying24 (.agg #[(.int .i64 0), (.int .i64 0), (.int .i64 0), (.int .i64 0), (.int .i64 0)]) 40 info51 rfl (by decide) (by omega) z51 (ok := fun _ => True) (okp := fun _ => True) (k51_mkM _ _ _ z51 ) (fun _ hk => hk) trivial (zdec) (Nat.le_trans (Nat.mul_le_mul_right _ (zdec : t127.toNat ≤ 7036874417766)) (by omega)) (Below.refl _ _) (Nat.le_refl _) ?_; intro v129 w12 ho13 hb hg_ hnew_; clear hg_ hnew_; (first | rw [← Ny128.out] at ho13 | (simp only [Int.reduceToNat] at ho13; rw [← Ny128.out] at ho13)); have HO130 := Aside0.mk (Kd.R_lower ho13 (below_size (zw2 HB.out GE125.out GE126.out))); have n1_ := Aside0.mk (zbb BK125.out hb); have n2_ := Aside0.mk (zbb BK126.out hb); have n3_ := Aside0.mk (below_step (zw2 HB.out GE125.out GE126.out) hb); clear BK125 BK126 HB; have BK125 := n1_; have BK126 := n2_; have HB := n3_; clear n1_ n2_ n3_; clear hb ho13))
  go_loopg [9] k (fun kq v9 w' => ∃ (x8_1 : List (S51)) (x9_1 : Int), v9 = .int .i64 x9_1 ∧ Aside0 (cellarref7_Put.l0 kq t127 x8_1 x9_1 a0_0 a0_1 a2_0 a2_1 a2_2 a2_3 = some r) ∧ Aside0 (kq ≤ k) ∧ Aside0 (Kd.R k51 51 w' w.heap.size (fun _ => True) v129 x8_1) ∧ Aside0 (w'.heap[gb125]? = some (.cells #[.bool a0_0, .int .i64 a0_1] 38 (0, 0))) ∧ Aside0 (w'.heap[gb126]? = some (.cells #[.bool a2_0, .int .i64 a2_1, .int .i64 a2_2, .int .i64 a2_3] 33 (0, 0))) ∧ Aside0 (Below w.heap.size w w'))
  case atStart => exact ⟨(y128), (0), (zr), H', ⟨Nat.le_refl _⟩, ⟨by (with_reducible repeat (first | apply Kd.R_alloc | apply Kd.R_drewN | apply Kd.R_drew)); exact HO130.out⟩, ⟨zb BK125.out⟩, ⟨zb BK126.out⟩, ⟨zw2 HB.out GE125.out GE126.out⟩⟩
  case round =>
   clear H'
   try clear c2; try clear p2; try clear c3; try clear c5; try clear c5b0; try clear c5b1; try clear c6; try clear c6b0; try clear c6b1; try clear c9
   obtain ⟨x8_1, x9_1, rfl, HA, HK1, HO_8, BK125, BK126, HB⟩ := hrel
   cases gk with
   | zero => exact absurd HA.out (by simp [cellarref7_Put.l0])
   | succ k1 =>
    have H := HA.out
    clear HA
    simp only [cellarref7_Put.l0] at H
    by_cases c14 : x9_1 < t127
    rotate_left
    ·rw [if_neg c14] at H
     have c14b0 : decide (x9_1 < t127) = false := decide_eq_false c14
     clear c14
     obtain rfl := Option.some.inj H
     go_wp2
     go_ret
     exact ⟨_, ze, by (with_reducible repeat (first | apply Kd.R_alloc | apply Kd.R_drewN | apply Kd.R_drew)); exact HO_8.out, zw2 HB.out GE125.out GE126.out⟩
    rw [if_pos c14] at H
    have c14b0 : decide (x9_1 < t127) = true := decide_eq_true c14
    clear c14
    have HC15 := Aside0.mk H
    clear H
    have hnb16 := NB125_126.out
    have hnc16 := NB126_125.out
    have hcz17_0 := zc BK125.out 0
    have hcz17_1 := zc BK125.out 1
    have hfz17_0 := blk_frozen BK125.out 0
    have hfz17_1 := blk_frozen BK125.out 1
    go_upto_if 23 with (fail)
    go_cut [10] (fun v10 wc => ∃ (kq : Nat) (x10_14 : Int), v10 = .int .i64 x10_14 ∧ Aside0 (cellarref7_Put.j1 kq t127 x8_1 x9_1 x10_14 a0_0 a0_1 a2_0 a2_1 a2_2 a2_3 = some r) ∧ Aside0 (kq ≤ k1) ∧ Aside0 (Kd.R k51 51 wc w.heap.size (fun _ => True) v129 x8_1) ∧ Aside0 (wc.heap[gb125]? = some (.cells #[.bool a0_0, .int .i64 a0_1] 38 (0, 0))) ∧ Aside0 (wc.heap[gb126]? = some (.cells #[.bool a2_0, .int .i64 a2_1, .int .i64 a2_2, .int .i64 a2_3] 33 (0, 0))) ∧ Aside0 (Below w.heap.size w wc))
    case first =>
     have H := HC15.out
     clear HC15
     by_cases c18 : a0_0 = true
     ·subst c18
      have H1 : (cellarref7_Put.j1 k1 t127 x8_1 x9_1 (wrap64 ((wrap64 (t127 - 1)) - x9_1)) true a0_1 a2_0 a2_1 a2_2 a2_3) = some r := by rw [if_pos rfl] at H; exact H
      clear H
      have H := H1
      clear H1
      have H' := Aside0.mk H
      clear H
      go_wp2
      go_meet
      case rel => exact ⟨_, (wrap64 ((wrap64 (t127 - 1)) - x9_1)), (zr), H', ⟨by have := HK1.out; first | omega | exact Nat.le_refl _⟩, ⟨by (with_reducible repeat (first | apply Kd.R_alloc | apply Kd.R_drewN | apply Kd.R_drew)); exact HO_8.out⟩, ⟨zb BK125.out⟩, ⟨zb BK126.out⟩, ⟨zw2 HB.out GE125.out GE126.out⟩⟩
     replace c18 := Bool.eq_false_iff.mpr c18
     subst c18
     have H1 : (cellarref7_Put.j1 k1 t127 x8_1 x9_1 x9_1 false a0_1 a2_0 a2_1 a2_2 a2_3) = some r := by rw [if_neg (show ¬ (false = true) by decide)] at H; exact H
     clear H
     have H := H1
     clear H1
     have H' := Aside0.mk H
     clear H
     go_wp2
     go_meet
     case rel => exact ⟨_, (x9_1), (zr), H', ⟨by have := HK1.out; first | omega | exact Nat.le_refl _⟩, ⟨by (with_reducible repeat (first | apply Kd.R_alloc | apply Kd.R_drewN | apply Kd.R_drew)); exact HO_8.out⟩, ⟨zb BK125.out⟩, ⟨zb BK126.out⟩, ⟨zw2 HB.out GE125.out GE126.out⟩⟩
    case rest =>
     clear HC15
     try clear c1; try clear c2; try clear p2; try clear c3; try clear c5; try clear c5b0; try clear c5b1; try clear c6; try clear c6b0; try clear c6b1; try clear p6; try clear c9; try clear c14; try clear c14b0; try clear c16; try clear c18; try clear p2
     obtain ⟨kq, x10_14, rfl, HA, HJ14, HO_8, BK125, BK126, HB⟩ := hcut
     cases kq with
     | zero => exact absurd HA.out (by simp [cellarref7_Put.j1])
     | succ kj14 =>
      have H := HA.out
      clear HA
      simp only [cellarref7_Put.j1] at H
      obtain ⟨ji19, hji19⟩ : ∃ j_ : Int, (wrap64 (8 * x10_14)) = j_ := ⟨_, rfl⟩
      replace H : (if 0 ≤ (ji19) then (if 0 ≤ x9_1 then (if x9_1 < (x8_1.length : Int) then ((some (x8_1.set (x9_1 : Int).toNat (⟨1, Go.bits .and .i64 (shr .i64 a2_1 (ji19)) 255, 0, 0, 0⟩ : S51) : List (S51))).bind fun y131 => (if a2_0 = true then ((some (y131.set (x9_1 : Int).toNat (⟨1, 0, 0, 0, 0⟩ : S51) : List (S51))).bind fun y132 => (if a2_2 > 0 then (cellarref7_Put.l0 kj14 t127 (y132.set (x9_1 : Int).toNat (⟨2, 0, a2_2, a2_3, x9_1⟩ : S51)) (wrap64 (x9_1 + 1)) a0_0 a0_1 a2_0 a2_1 a2_2 a2_3) else (cellarref7_Put.l0 kj14 t127 y132 (wrap64 (x9_1 + 1)) a0_0 a0_1 a2_0 a2_1 a2_2 a2_3))) else (cellarref7_Put.l0 kj14 t127 y131 (wrap64 (x9_1 + 1)) a0_0 a0_1 a2_0 a2_1 a2_2 a2_3))) else (none)) else (none)) else (none)) = some r := by first | (rw [hji19] at H; exact H) | (simp only [hji19] at H ⊢; exact H)
      have hji19w : (IntKind.i64.wrap (8 * x10_14)) = ji19 := (i64_w _).trans hji19
      by_cases c20 : 0 ≤ (ji19)
      rotate_left
      ·rw [if_neg c20] at H
       exact absurd H (by simp)
      rw [if_pos c20] at H
      have c20b0 := eq_true c20
      have c20b1 : decide (0 ≤ (ji19)) = true := decide_eq_true c20
      clear c20
      obtain ⟨ji21, hji21⟩ : ∃ j_ : Int, (shr .i64 a2_1 (ji19)) = j_ := ⟨_, rfl⟩
      replace H : (if 0 ≤ x9_1 then (if x9_1 < (x8_1.length : Int) then ((some (x8_1.set (x9_1 : Int).toNat (⟨1, Go.bits .and .i64 (ji21) 255, 0, 0, 0⟩ : S51) : List (S51))).bind fun y131 => (if a2_0 = true then ((some (y131.set (x9_1 : Int).toNat (⟨1, 0, 0, 0, 0⟩ : S51) : List (S51))).bind fun y132 => (if a2_2 > 0 then (cellarref7_Put.l0 kj14 t127 (y132.set (x9_1 : Int).toNat (⟨2, 0, a2_2, a2_3, x9_1⟩ : S51)) (wrap64 (x9_1 + 1)) a0_0 a0_1 a2_0 a2_1 a2_2 a2_3) else (cellarref7_Put.l0 kj14 t127 y132 (wrap64 (x9_1 + 1)) a0_0 a0_1 a2_0 a2_1 a2_2 a2_3))) else (cellarref7_Put.l0 kj14 t127 y131 (wrap64 (x9_1 + 1)) a0_0 a0_1 a2_0 a2_1 a2_2 a2_3))) else (none)) else (none)) = some r := by first | (rw [hji21] at H; exact H) | (simp only [hji21] at H ⊢; exact H)
      have hji21_ : (a2_1 / 2 ^ min (ji19).toNat 64) = ji21 := hji21
      have hji21z : (ji19) ≤ 64 → (a2_1 / 2 ^ (ji19).toNat) = ji21 := shr_small hji21
      by_cases c22 : 0 ≤ x9_1
      rotate_left
      ·rw [if_neg c22] at H
       exact absurd H (by simp)
      rw [if_pos c22] at H
      have c22b0 : decide (0 ≤ x9_1) = true := decide_eq_true c22
      clear c22
      by_cases c23 : x9_1 < (x8_1.length : Int)
      rotate_left
      ·rw [if_neg c23] at H
       exact absurd H (by simp)
      rw [if_pos c23] at H
      have c23b0 : decide (x9_1 < (x8_1.length : Int)) = true := decide_eq_true c23
      clear c23
      obtain ⟨y131, hy131⟩ : ∃ y_ : List (S51), y_ = (x8_1.set (x9_1 : Int).toNat (⟨1, Go.bits .and .i64 (ji21) 255, 0, 0, 0⟩ : S51)) := ⟨_, rfl⟩
      replace H : (if a2_0 = true then ((some (y131.set (x9_1 : Int).toNat (⟨1, 0, 0, 0, 0⟩ : S51) : List (S51))).bind fun y132 => (if a2_2 > 0 then (cellarref7_Put.l0 kj14 t127 (y132.set (x9_1 : Int).toNat (⟨2, 0, a2_2, a2_3, x9_1⟩ : S51)) (wrap64 (x9_1 + 1)) a0_0 a0_1 a2_0 a2_1 a2_2 a2_3) else (cellarref7_Put.l0 kj14 t127 y132 (wrap64 (x9_1 + 1)) a0_0 a0_1 a2_0 a2_1 a2_2 a2_3))) else (cellarref7_Put.l0 kj14 t127 y131 (wrap64 (x9_1 + 1)) a0_0 a0_1 a2_0 a2_1 a2_2 a2_3)) = some r := by first | (rw [hy131]; with_reducible exact H) | (have H2_ := (Option.bind_some _ _).symm.trans H; rw [hy131]; with_reducible exact H2_) | (have H2_ := (Option.bind_some _ _).symm.trans H; with_reducible exact H2_) | with_reducible exact H | (rw [hy131]; exact H) | exact H
      have Ny131 := Aside0.mk hy131
      clear hy131
      by_cases c25 : a2_0 = true
      rotate_left
      ·replace c25 := Bool.eq_false_iff.mpr c25
       subst c25
       have H1 : (cellarref7_Put.l0 kj14 t127 y131 (wrap64 (x9_1 + 1)) a0_0 a0_1 false a2_1 a2_2 a2_3) = some r := by rw [if_neg (show ¬ (false = true) by decide)] at H; exact H
       clear H
       have H := H1
       clear H1
       have H' := Aside0.mk H
       clear H
       have hnb47 := NB126_125.out
       have hnc47 := NB125_126.out
       have hcz48_0 := zc BK126.out 0
       have hcz48_1 := zc BK126.out 1
       have hcz48_2 := zc BK126.out 2
       have hcz48_3 := zc BK126.out 3
       have hfz48_0 := blk_frozen BK126.out 0
       have hfz48_1 := blk_frozen BK126.out 1
       have hfz48_2 := blk_frozen BK126.out 2
       have hfz48_3 := blk_frozen BK126.out 3
       have p24 : 0 ≤ (x9_1 : Int) := zdec
       have q24 : (x9_1 : Int) < ((x8_1.length : Int) : Int) := zdec
       obtain ⟨go24, co24, eo24, gb24, gl24, cl24, HG24⟩ := Kd.R_form HO_8.out (by omega)
       (first | cases eo24 | (injection eo24 with ea_ en_ ec_; (first | subst ea_ | (injection ea_ with ea_; subst ea_)); subst ec_; clear en_))
       have GB24 := Aside0.mk gb24
       have GG24 := Aside0.mk HG24
       clear gb24 gl24 HG24
       obtain ⟨ce24, hcl24, hM24, hcc24, hfr24⟩ := Kd.R_elem HO_8.out z51 (x9_1 : Int) p24 q24
       obtain rfl := k51_openM hM24
       have hx24_0 : wc.cell? ⟨go24, (x9_1 : Int).toNat * 5, none⟩ = some (.int .i64 ((rd_T51 x8_1 x9_1).f0)) := hcc24 0 _ rfl
       have hx24_1 : wc.cell? ⟨go24, (x9_1 : Int).toNat * 5 + 1, none⟩ = some (.int .i64 ((rd_T51 x8_1 x9_1).f1)) := hcc24 1 _ rfl
       have hx24_2 : wc.cell? ⟨go24, (x9_1 : Int).toNat * 5 + 2, none⟩ = some (.int .i64 ((rd_T51 x8_1 x9_1).f2)) := hcc24 2 _ rfl
       have hx24_3 : wc.cell? ⟨go24, (x9_1 : Int).toNat * 5 + 3, none⟩ = some (.int .i64 ((rd_T51 x8_1 x9_1).f3)) := hcc24 3 _ rfl
       have hx24_4 : wc.cell? ⟨go24, (x9_1 : Int).toNat * 5 + 4, none⟩ = some (.int .i64 ((rd_T51 x8_1 x9_1).f4)) := hcc24 4 _ rfl
       have hf24_0 : wc.frozen? ⟨go24, (x9_1 : Int).toNat * 5, none⟩ = false := hfr24 0
       have hf24_1 : wc.frozen? ⟨go24, (x9_1 : Int).toNat * 5 + 1, none⟩ = false := hfr24 1
       have hf24_2 : wc.frozen? ⟨go24, (x9_1 : Int).toNat * 5 + 2, none⟩ = false := hfr24 2
       have hf24_3 : wc.frozen? ⟨go24, (x9_1 : Int).toNat * 5 + 3, none⟩ = false := hfr24 3
       have hf24_4 : wc.frozen? ⟨go24, (x9_1 : Int).toNat * 5 + 4, none⟩ = false := hfr24 4
       clear hcl24 hcc24 hfr24 hM24
       replace p24 := eq_true p24
       replace q24 := eq_true q24
       have HX49 := Aside0.mk (show Kd.R k51 51 wc w.heap.size (fun _ => True) (.slice (some ⟨go24, 0, none⟩) x8_1.length co24) x8_1 from (by (with_reducible repeat (first | apply Kd.R_alloc | apply Kd.R_drewN | apply Kd.R_drew)); exact HO_8.out))
       obtain ⟨ce49, hcl49, hM49, hcc49, hfr49⟩ := Kd.R_elem HX49.out z51 (x9_1 : Int) (zdec) (by have h_ : (x9_1 : Int) < ((x8_1.length : Int) : Int) := zdec; first | exact h_ | (have e_ := (Kd.R_reads' HO_8.out).1; omega) | simpa using h_)
       obtain rfl := k51_openM hM49
       have HP49 := Kd.R_seg HX49.out (x9_1 : Int) (zdec) (by have h_ : (x9_1 : Int) < ((x8_1.length : Int) : Int) := zdec; first | exact h_ | (have e_ := (Kd.R_reads' HO_8.out).1; omega) | simpa using h_) (seg := [.int .i64 1, .int .i64 (Go.bits .and .i64 (ji21) 255), .int .i64 0, .int .i64 0, .int .i64 0]) (j := 0) hcl49 hcc49 (show 5 ≤ 5 from by decide) (x' := (⟨1, Go.bits .and .i64 (ji21) 255, 0, 0, 0⟩ : S51)) (k51_mkM _ _ _ (⟨1, Go.bits .and .i64 (ji21) 255, 0, 0, 0⟩ : S51) ) (fun _ hk => hk)
       have hx49_0 := hcc49 0 _ rfl
       (try simp only [show (k51).sz = 5 from rfl, Nat.mul_one, Nat.add_zero] at hx49_0)
       have hf49_0 := hfr49 0
       (try simp only [show (k51).sz = 5 from rfl, Nat.mul_one, Nat.add_zero] at hf49_0)
       have hx49_1 := hcc49 1 _ rfl
       (try simp only [show (k51).sz = 5 from rfl, Nat.mul_one, Nat.add_zero] at hx49_1)
       have hf49_1 := hfr49 1
       (try simp only [show (k51).sz = 5 from rfl, Nat.mul_one, Nat.add_zero] at hf49_1)
       have hx49_2 := hcc49 2 _ rfl
       (try simp only [show (k51).sz = 5 from rfl, Nat.mul_one, Nat.add_zero] at hx49_2)
       have hf49_2 := hfr49 2
       (try simp only [show (k51).sz = 5 from rfl, Nat.mul_one, Nat.add_zero] at hf49_2)
       have hx49_3 := hcc49 3 _ rfl
       (try simp only [show (k51).sz = 5 from rfl, Nat.mul_one, Nat.add_zero] at hx49_3)
       have hf49_3 := hfr49 3
       (try simp only [show (k51).sz = 5 from rfl, Nat.mul_one, Nat.add_zero] at hf49_3)
       have hx49_4 := hcc49 4 _ rfl
       (try simp only [show (k51).sz = 5 from rfl, Nat.mul_one, Nat.add_zero] at hx49_4)
       have hf49_4 := hfr49 4
       (try simp only [show (k51).sz = 5 from rfl, Nat.mul_one, Nat.add_zero] at hf49_4)
       clear hcl49 hcc49 hfr49 hM49
       go_wp2_with (first | ((with_reducible refine gate_store (t := 51) (p := 37) rfl ?_); refine store_event (t := 51) (p := 37) (v := ?vo_w50) (w1 := (((((wc.setCell ⟨go24, (x9_1 : Int).toNat * 5, none⟩ (.int .i64 1)).setCell ⟨go24, (x9_1 : Int).toNat * 5 + 1, none⟩ (.int .i64 (Go.bits .and .i64 (ji21) 255))).setCell ⟨go24, (x9_1 : Int).toNat * 5 + 2, none⟩ (.int .i64 0)).setCell ⟨go24, (x9_1 : Int).toNat * 5 + 3, none⟩ (.int .i64 0)).setCell ⟨go24, (x9_1 : Int).toNat * 5 + 4, none⟩ (.int .i64 0))) ?hg ?ho ?hn ?hr ?_; (case ho => rfl); (case hg => rfl); (case hn => rfl); (case hr => first | (go_simp; done) | (go_simp; rfl)); intro w50 hw; have hg : wc.grownBy w50 (some go24) := (by rw [hw]; exact HP49.2); have hp_ : Kd.R k51 51 w50 w.heap.size (fun _ => True) (.slice (some ⟨go24, 0, none⟩) x8_1.length co24) y131 := (by rw [hw, Ny131.out]; exact HP49.1); clear HP49; have n0_ := Aside0.mk (hp_); have n1_ := Aside0.mk (blk_grown (g := gb125) (o := .cells #[.bool a0_0, .int .i64 a0_1] 38 (0, 0)) (zb BK125.out) hg (Kd.R_ne HO_8.out BK125.out (by decide))); have n2_ := Aside0.mk (blk_grown (g := gb126) (o := .cells #[.bool false, .int .i64 a2_1, .int .i64 a2_2, .int .i64 a2_3] 33 (0, 0)) (zb BK126.out) hg (Kd.R_ne HO_8.out BK126.out (by decide))); have n3_ := Aside0.mk ((by rw [hw]; exact below_set (below_set (below_set (below_set (below_set (HB.out) GB24.out) GB24.out) GB24.out) GB24.out) GB24.out : Below w.heap.size w w50)); clear HO_8 BK125 BK126 HB; have HO_8 := n0_; have BK125 := n1_; have BK126 := n2_; have HB := n3_; clear n0_ n1_ n2_ n3_; clear hg hw hp_; have hcz51_0 := zc BK126.out 0; have hcz51_1 := zc BK126.out 1; have hcz51_2 := zc BK126.out 2; have hcz51_3 := zc BK126.out 3; have hfz51_0 := blk_frozen BK126.out 0; have hfz51_1 := blk_frozen BK126.out 1; have hfz51_2 := blk_frozen BK126.out 2; have hfz51_3 := blk_frozen BK126.out 3))
       go_roundg kj14
       case measure => have := HK1.out; have := HJ14.out; omega
       case rel => exact ⟨(y131), (wrap64 (x9_1 + 1)), (zr), H', ⟨by have := HK1.out; have := HJ14.out; omega⟩, ⟨by (with_reducible repeat (first | apply Kd.R_alloc | apply Kd.R_drewN | apply Kd.R_drew)); exact HO_8.out⟩, ⟨zb BK125.out⟩, ⟨zb BK126.out⟩, ⟨zw2 HB.out GE125.out GE126.out⟩⟩
      subst c25
      have H1 : ((some (y131.set (x9_1 : Int).toNat (⟨1, 0, 0, 0, 0⟩ : S51) : List (S51))).bind fun y132 => (if a2_2 > 0 then (cellarref7_Put.l0 kj14 t127 (y132.set (x9_1 : Int).toNat (⟨2, 0, a2_2, a2_3, x9_1⟩ : S51)) (wrap64 (x9_1 + 1)) a0_0 a0_1 true a2_1 a2_2 a2_3) else (cellarref7_Put.l0 kj14 t127 y132 (wrap64 (x9_1 + 1)) a0_0 a0_1 true a2_1 a2_2 a2_3))) = some r := by rw [if_pos rfl] at H; exact H
      clear H
      have H := H1
      clear H1
      obtain ⟨y132, hy132⟩ : ∃ y_ : List (S51), y_ = (y131.set (x9_1 : Int).toNat (⟨1, 0, 0, 0, 0⟩ : S51)) := ⟨_, rfl⟩
      replace H : (if a2_2 > 0 then (cellarref7_Put.l0 kj14 t127 (y132.set (x9_1 : Int).toNat (⟨2, 0, a2_2, a2_3, x9_1⟩ : S51)) (wrap64 (x9_1 + 1)) a0_0 a0_1 true a2_1 a2_2 a2_3) else (cellarref7_Put.l0 kj14 t127 y132 (wrap64 (x9_1 + 1)) a0_0 a0_1 true a2_1 a2_2 a2_3)) = some r := by first | (rw [hy132]; with_reducible exact H) | (have H2_ := (Option.bind_some _ _).symm.trans H; rw [hy132]; with_reducible exact H2_) | (have H2_ := (Option.bind_some _ _).symm.trans H; with_reducible exact H2_) | with_reducible exact H | (rw [hy132]; exact H) | exact H
      have Ny132 := Aside0.mk hy132
      clear hy132
      by_cases c27 : a2_2 > 0
      rotate_left
      ·rw [if_neg c27] at H
       have c27b0 : decide (0 < a2_2) = false := decide_eq_false c27
       clear c27
       have H' := Aside0.mk H
       clear H
       have hnb39 := NB126_125.out
       have hnc39 := NB125_126.out
       have hcz40_0 := zc BK126.out 0
       have hcz40_1 := zc BK126.out 1
       have hcz40_2 := zc BK126.out 2
       have hcz40_3 := zc BK126.out 3
       have hfz40_0 := blk_frozen BK126.out 0
       have hfz40_1 := blk_frozen BK126.out 1
       have hfz40_2 := blk_frozen BK126.out 2
       have hfz40_3 := blk_frozen BK126.out 3
       have p24 : 0 ≤ (x9_1 : Int) := zdec
       have q24 : (x9_1 : Int) < ((x8_1.length : Int) : Int) := zdec
       obtain ⟨go24, co24, eo24, gb24, gl24, cl24, HG24⟩ := Kd.R_form HO_8.out (by omega)
       (first | cases eo24 | (injection eo24 with ea_ en_ ec_; (first | subst ea_ | (injection ea_ with ea_; subst ea_)); subst ec_; clear en_))
       have GB24 := Aside0.mk gb24
       have GG24 := Aside0.mk HG24
       clear gb24 gl24 HG24
       obtain ⟨ce24, hcl24, hM24, hcc24, hfr24⟩ := Kd.R_elem HO_8.out z51 (x9_1 : Int) p24 q24
       obtain rfl := k51_openM hM24
       have hx24_0 : wc.cell? ⟨go24, (x9_1 : Int).toNat * 5, none⟩ = some (.int .i64 ((rd_T51 x8_1 x9_1).f0)) := hcc24 0 _ rfl
       have hx24_1 : wc.cell? ⟨go24, (x9_1 : Int).toNat * 5 + 1, none⟩ = some (.int .i64 ((rd_T51 x8_1 x9_1).f1)) := hcc24 1 _ rfl
       have hx24_2 : wc.cell? ⟨go24, (x9_1 : Int).toNat * 5 + 2, none⟩ = some (.int .i64 ((rd_T51 x8_1 x9_1).f2)) := hcc24 2 _ rfl
       have hx24_3 : wc.cell? ⟨go24, (x9_1 : Int).toNat * 5 + 3, none⟩ = some (.int .i64 ((rd_T51 x8_1 x9_1).f3)) := hcc24 3 _ rfl
       have hx24_4 : wc.cell? ⟨go24, (x9_1 : Int).toNat * 5 + 4, none⟩ = some (.int .i64 ((rd_T51 x8_1 x9_1).f4)) := hcc24 4 _ rfl
       have hf24_0 : wc.frozen? ⟨go24, (x9_1 : Int).toNat * 5, none⟩ = false := hfr24 0
       have hf24_1 : wc.frozen? ⟨go24, (x9_1 : Int).toNat * 5 + 1, none⟩ = false := hfr24 1
       have hf24_2 : wc.frozen? ⟨go24, (x9_1 : Int).toNat * 5 + 2, none⟩ = false := hfr24 2
       have hf24_3 : wc.frozen? ⟨go24, (x9_1 : Int).toNat * 5 + 3, none⟩ = false := hfr24 3
       have hf24_4 : wc.frozen? ⟨go24, (x9_1 : Int).toNat * 5 + 4, none⟩ = false := hfr24 4
       clear hcl24 hcc24 hfr24 hM24
       replace p24 := eq_true p24
       replace q24 := eq_true q24
       have HX41 := Aside0.mk (show Kd.R k51 51 wc w.heap.size (fun _ => True) (.slice (some ⟨go24, 0, none⟩) x8_1.length co24) x8_1 from (by (with_reducible repeat (first | apply Kd.R_alloc | apply Kd.R_drewN | apply Kd.R_drew)); exact HO_8.out))
       obtain ⟨ce41, hcl41, hM41, hcc41, hfr41⟩ := Kd.R_elem HX41.out z51 (x9_1 : Int) (zdec) (by have h_ : (x9_1 : Int) < ((x8_1.length : Int) : Int) := zdec; first | exact h_ | (have e_ := (Kd.R_reads' HO_8.out).1; omega) | simpa using h_)
       obtain rfl := k51_openM hM41
       have HP41 := Kd.R_seg HX41.out (x9_1 : Int) (zdec) (by have h_ : (x9_1 : Int) < ((x8_1.length : Int) : Int) := zdec; first | exact h_ | (have e_ := (Kd.R_reads' HO_8.out).1; omega) | simpa using h_) (seg := [.int .i64 1, .int .i64 (Go.bits .and .i64 (ji21) 255), .int .i64 0, .int .i64 0, .int .i64 0]) (j := 0) hcl41 hcc41 (show 5 ≤ 5 from by decide) (x' := (⟨1, Go.bits .and .i64 (ji21) 255, 0, 0, 0⟩ : S51)) (k51_mkM _ _ _ (⟨1, Go.bits .and .i64 (ji21) 255, 0, 0, 0⟩ : S51) ) (fun _ hk => hk)
       have hx41_0 := hcc41 0 _ rfl
       (try simp only [show (k51).sz = 5 from rfl, Nat.mul_one, Nat.add_zero] at hx41_0)
       have hf41_0 := hfr41 0
       (try simp only [show (k51).sz = 5 from rfl, Nat.mul_one, Nat.add_zero] at hf41_0)
       have hx41_1 := hcc41 1 _ rfl
       (try simp only [show (k51).sz = 5 from rfl, Nat.mul_one, Nat.add_zero] at hx41_1)
       have hf41_1 := hfr41 1
       (try simp only [show (k51).sz = 5 from rfl, Nat.mul_one, Nat.add_zero] at hf41_1)
       have hx41_2 := hcc41 2 _ rfl
       (try simp only [show (k51).sz = 5 from rfl, Nat.mul_one, Nat.add_zero] at hx41_2)
       have hf41_2 := hfr41 2
       (try simp only [show (k51).sz = 5 from rfl, Nat.mul_one, Nat.add_zero] at hf41_2)
       have hx41_3 := hcc41 3 _ rfl
       (try simp only [show (k51).sz = 5 from rfl, Nat.mul_one, Nat.add_zero] at hx41_3)
       have hf41_3 := hfr41 3
       (try simp only [show (k51).sz = 5 from rfl, Nat.mul_one, Nat.add_zero] at hf41_3)
       have hx41_4 := hcc41 4 _ rfl
       (try simp only [show (k51).sz = 5 from rfl, Nat.mul_one, Nat.add_zero] at hx41_4)
       have hf41_4 := hfr41 4
       (try simp only [show (k51).sz = 5 from rfl, Nat.mul_one, Nat.add_zero] at hf41_4)
       clear hcl41 hcc41 hfr41 hM41
       go_wp2_with (first | ((with_reducible refine gate_store (t := 51) (p := 37) rfl ?_); refine store_event (t := 51) (p := 37) (v := ?vo_w42) (w1 := (((((wc.setCell ⟨go24, (x9_1 : Int).toNat * 5, none⟩ (.int .i64 1)).setCell ⟨go24, (x9_1 : Int).toNat * 5 + 1, none⟩ (.int .i64 (Go.bits .and .i64 (ji21) 255))).setCell ⟨go24, (x9_1 : Int).toNat * 5 + 2, none⟩ (.int .i64 0)).setCell ⟨go24, (x9_1 : Int).toNat * 5 + 3, none⟩ (.int .i64 0)).setCell ⟨go24, (x9_1 : Int).toNat * 5 + 4, none⟩ (.int .i64 0))) ?hg ?ho ?hn ?hr ?_; (case ho => rfl); (case hg => rfl); (case hn => rfl); (case hr => first | (go_simp; done) | (go_simp; rfl)); intro w42 hw; have hg : wc.grownBy w42 (some go24) := (by rw [hw]; exact HP41.2); have hp_ : Kd.R k51 51 w42 w.heap.size (fun _ => True) (.slice (some ⟨go24, 0, none⟩) x8_1.length co24) y131 := (by rw [hw, Ny131.out]; exact HP41.1); clear HP41; have n0_ := Aside0.mk (hp_); have n1_ := Aside0.mk (blk_grown (g := gb125) (o := .cells #[.bool a0_0, .int .i64 a0_1] 38 (0, 0)) (zb BK125.out) hg (Kd.R_ne HO_8.out BK125.out (by decide))); have n2_ := Aside0.mk (blk_grown (g := gb126) (o := .cells #[.bool true, .int .i64 a2_1, .int .i64 a2_2, .int .i64 a2_3] 33 (0, 0)) (zb BK126.out) hg (Kd.R_ne HO_8.out BK126.out (by decide))); have n3_ := Aside0.mk ((by rw [hw]; exact below_set (below_set (below_set (below_set (below_set (HB.out) GB24.out) GB24.out) GB24.out) GB24.out) GB24.out : Below w.heap.size w w42)); clear HO_8 BK125 BK126 HB; have HO_8 := n0_; have BK125 := n1_; have BK126 := n2_; have HB := n3_; clear n0_ n1_ n2_ n3_; clear hg hw hp_; have hcz43_0 := zc BK126.out 0; have hcz43_1 := zc BK126.out 1; have hcz43_2 := zc BK126.out 2; have hcz43_3 := zc BK126.out 3; have hfz43_0 := blk_frozen BK126.out 0; have hfz43_1 := blk_frozen BK126.out 1; have hfz43_2 := blk_frozen BK126.out 2; have hfz43_3 := blk_frozen BK126.out 3; have p26 : 0 ≤ (x9_1 : Int) := zdec; have q26 : (x9_1 : Int) < ((x8_1.length : Int) : Int) := zdec; obtain ⟨ce26, hcl26, hM26, hcc26, hfr26⟩ := Kd.R_elem HO_8.out z51 (x9_1 : Int) p26 q26; obtain rfl := k51_openM hM26; have hx26_0 : w42.cell? ⟨go24, (x9_1 : Int).toNat * 5, none⟩ = some (.int .i64 ((rd_T51 y131 x9_1).f0)) := hcc26 0 _ rfl; have hx26_1 : w42.cell? ⟨go24, (x9_1 : Int).toNat * 5 + 1, none⟩ = some (.int .i64 ((rd_T51 y131 x9_1).f1)) := hcc26 1 _ rfl; have hx26_2 : w42.cell? ⟨go24, (x9_1 : Int).toNat * 5 + 2, none⟩ = some (.int .i64 ((rd_T51 y131 x9_1).f2)) := hcc26 2 _ rfl; have hx26_3 : w42.cell? ⟨go24, (x9_1 : Int).toNat * 5 + 3, none⟩ = some (.int .i64 ((rd_T51 y131 x9_1).f3)) := hcc26 3 _ rfl; have hx26_4 : w42.cell? ⟨go24, (x9_1 : Int).toNat * 5 + 4, none⟩ = some (.int .i64 ((rd_T51 y131 x9_1).f4)) := hcc26 4 _ rfl; have hf26_0 : w42.frozen? ⟨go24, (x9_1 : Int).toNat * 5, none⟩ = false := hfr26 0; have hf26_1 : w42.frozen? ⟨go24, (x9_1 : Int).toNat * 5 + 1, none⟩ = false := hfr26 1; have hf26_2 : w42.frozen? ⟨go24, (x9_1 : Int).toNat * 5 + 2, none⟩ = false := hfr26 2; have hf26_3 : w42.frozen? ⟨go24, (x9_1 : Int).toNat * 5 + 3, none⟩ = false := hfr26 3; have hf26_4 : w42.frozen? ⟨go24, (x9_1 : Int).toNat * 5 + 4, none⟩ = false := hfr26 4; clear hcl26 hcc26 hfr26 hM26; replace p26 := eq_true p26; replace q26 := eq_true q26; have HX44 := Aside0.mk (show Kd.R k51 51 w42 w.heap.size (fun _ => True) (.slice (some ⟨go24, 0, none⟩) x8_1.length co24) y131 from (by (with_reducible repeat (first | apply Kd.R_alloc | apply Kd.R_drewN | apply Kd.R_drew)); exact HO_8.out)); obtain ⟨ce44, hcl44, hM44, hcc44, hfr44⟩ := Kd.R_elem HX44.out z51 (x9_1 : Int) (zdec) (by have h_ : (x9_1 : Int) < ((x8_1.length : Int) : Int) := zdec; first | exact h_ | (have e_ := (Kd.R_reads' HO_8.out).1; omega) | simpa using h_); obtain rfl := k51_openM hM44; have HP44 := Kd.R_seg HX44.out (x9_1 : Int) (zdec) (by have h_ : (x9_1 : Int) < ((x8_1.length : Int) : Int) := zdec; first | exact h_ | (have e_ := (Kd.R_reads' HO_8.out).1; omega) | simpa using h_) (seg := [.int .i64 1, .int .i64 0, .int .i64 0, .int .i64 0, .int .i64 0]) (j := 0) hcl44 hcc44 (show 5 ≤ 5 from by decide) (x' := (⟨1, 0, 0, 0, 0⟩ : S51)) (k51_mkM _ _ _ (⟨1, 0, 0, 0, 0⟩ : S51) ) (fun _ hk => hk); have hx44_0 := hcc44 0 _ rfl; (try simp only [show (k51).sz = 5 from rfl, Nat.mul_one, Nat.add_zero] at hx44_0); have hf44_0 := hfr44 0; (try simp only [show (k51).sz = 5 from rfl, Nat.mul_one, Nat.add_zero] at hf44_0); have hx44_1 := hcc44 1 _ rfl; (try simp only [show (k51).sz = 5 from rfl, Nat.mul_one, Nat.add_zero] at hx44_1); have hf44_1 := hfr44 1; (try simp only [show (k51).sz = 5 from rfl, Nat.mul_one, Nat.add_zero] at hf44_1); have hx44_2 := hcc44 2 _ rfl; (try simp only [show (k51).sz = 5 from rfl, Nat.mul_one, Nat.add_zero] at hx44_2); have hf44_2 := hfr44 2; (try simp only [show (k51).sz = 5 from rfl, Nat.mul_one, Nat.add_zero] at hf44_2); have hx44_3 := hcc44 3 _ rfl; (try simp only [show (k51).sz = 5 from rfl, Nat.mul_one, Nat.add_zero] at hx44_3); have hf44_3 := hfr44 3; (try simp only [show (k51).sz = 5 from rfl, Nat.mul_one, Nat.add_zero] at hf44_3); have hx44_4 := hcc44 4 _ rfl; (try simp only [show (k51).sz = 5 from rfl, Nat.mul_one, Nat.add_zero] at hx44_4); have hf44_4 := hfr44 4; (try simp only [show (k51).sz = 5 from rfl, Nat.mul_one, Nat.add_zero] at hf44_4); clear hcl44 hcc44 hfr44 hM44) | ((with_reducible refine gate_store (t := 51) (p := 43) rfl ?_); refine store_event (t := 51) (p := 43) (v := ?vo_w45) (w1 := (((((w42.setCell ⟨go24, (x9_1 : Int).toNat * 5, none⟩ (.int .i64 1)).setCell ⟨go24, (x9_1 : Int).toNat * 5 + 1, none⟩ (.int .i64 0)).setCell ⟨go24, (x9_1 : Int).toNat * 5 + 2, none⟩ (.int .i64 0)).setCell ⟨go24, (x9_1 : Int).toNat * 5 + 3, none⟩ (.int .i64 0)).setCell ⟨go24, (x9_1 : Int).toNat * 5 + 4, none⟩ (.int .i64 0))) ?hg ?ho ?hn ?hr ?_; (case ho => rfl); (case hg => rfl); (case hn => rfl); (case hr => first | (go_simp; done) | (go_simp; rfl)); intro w45 hw; have hg : w42.grownBy w45 (some go24) := (by rw [hw]; exact HP44.2); have hp_ : Kd.R k51 51 w45 w.heap.size (fun _ => True) (.slice (some ⟨go24, 0, none⟩) x8_1.length co24) y132 := (by rw [hw, Ny132.out]; exact HP44.1); clear HP44; have n0_ := Aside0.mk (hp_); have n1_ := Aside0.mk (blk_grown (g := gb125) (o := .cells #[.bool a0_0, .int .i64 a0_1] 38 (0, 0)) (zb BK125.out) hg (Kd.R_ne HO_8.out BK125.out (by decide))); have n2_ := Aside0.mk (blk_grown (g := gb126) (o := .cells #[.bool true, .int .i64 a2_1, .int .i64 a2_2, .int .i64 a2_3] 33 (0, 0)) (zb BK126.out) hg (Kd.R_ne HO_8.out BK126.out (by decide))); have n3_ := Aside0.mk ((by rw [hw]; exact below_set (below_set (below_set (below_set (below_set (HB.out) GB24.out) GB24.out) GB24.out) GB24.out) GB24.out : Below w.heap.size w w45)); clear HO_8 BK125 BK126 HB; have HO_8 := n0_; have BK125 := n1_; have BK126 := n2_; have HB := n3_; clear n0_ n1_ n2_ n3_; clear hg hw hp_; have hcz46_0 := zc BK126.out 0; have hcz46_1 := zc BK126.out 1; have hcz46_2 := zc BK126.out 2; have hcz46_3 := zc BK126.out 3; have hfz46_0 := blk_frozen BK126.out 0; have hfz46_1 := blk_frozen BK126.out 1; have hfz46_2 := blk_frozen BK126.out 2; have hfz46_3 := blk_frozen BK126.out 3))
       go_roundg kj14
       case measure => have := HK1.out; have := HJ14.out; omega
       case rel => exact ⟨(y132), (wrap64 (x9_1 + 1)), (zr), H', ⟨by have := HK1.out; have := HJ14.out; omega⟩, ⟨by (with_reducible repeat (first | apply Kd.R_alloc | apply Kd.R_drewN | apply Kd.R_drew)); exact HO_8.out⟩, ⟨zb BK125.out⟩, ⟨zb BK126.out⟩, ⟨zw2 HB.out GE125.out GE126.out⟩⟩
      rw [if_pos c27] at H
      have c27b0 : decide (0 < a2_2) = true := decide_eq_true c27
      clear c27
      obtain ⟨y133, hy133⟩ : ∃ y_ : List (S51), y_ = (y132.set (x9_1 : Int).toNat (⟨2, 0, a2_2, a2_3, x9_1⟩ : S51)) := ⟨_, rfl⟩
      replace H : (cellarref7_Put.l0 kj14 t127 y133 (wrap64 (x9_1 + 1)) a0_0 a0_1 true a2_1 a2_2 a2_3) = some r := by first | (rw [hy133]; with_reducible exact H) | (have H2_ := (Option.bind_some _ _).symm.trans H; rw [hy133]; with_reducible exact H2_) | (have H2_ := (Option.bind_some _ _).symm.trans H; with_reducible exact H2_) | with_reducible exact H | (rw [hy133]; exact H) | exact H
      have Ny133 := Aside0.mk hy133
      clear hy133
      have H' := Aside0.mk H
      clear H
      have hnb29 := NB126_125.out
      have hnc29 := NB125_126.out
      have hcz30_0 := zc BK126.out 0
      have hcz30_1 := zc BK126.out 1
      have hcz30_2 := zc BK126.out 2
      have hcz30_3 := zc BK126.out 3
      have hfz30_0 := blk_frozen BK126.out 0
      have hfz30_1 := blk_frozen BK126.out 1
      have hfz30_2 := blk_frozen BK126.out 2
      have hfz30_3 := blk_frozen BK126.out 3
      have p24 : 0 ≤ (x9_1 : Int) := zdec
      have q24 : (x9_1 : Int) < ((x8_1.length : Int) : Int) := zdec
      obtain ⟨go24, co24, eo24, gb24, gl24, cl24, HG24⟩ := Kd.R_form HO_8.out (by omega)
      (first | cases eo24 | (injection eo24 with ea_ en_ ec_; (first | subst ea_ | (injection ea_ with ea_; subst ea_)); subst ec_; clear en_))
      have GB24 := Aside0.mk gb24
      have GG24 := Aside0.mk HG24
      clear gb24 gl24 HG24
      obtain ⟨ce24, hcl24, hM24, hcc24, hfr24⟩ := Kd.R_elem HO_8.out z51 (x9_1 : Int) p24 q24
      obtain rfl := k51_openM hM24
      have hx24_0 : wc.cell? ⟨go24, (x9_1 : Int).toNat * 5, none⟩ = some (.int .i64 ((rd_T51 x8_1 x9_1).f0)) := hcc24 0 _ rfl
      have hx24_1 : wc.cell? ⟨go24, (x9_1 : Int).toNat * 5 + 1, none⟩ = some (.int .i64 ((rd_T51 x8_1 x9_1).f1)) := hcc24 1 _ rfl
      have hx24_2 : wc.cell? ⟨go24, (x9_1 : Int).toNat * 5 + 2, none⟩ = some (.int .i64 ((rd_T51 x8_1 x9_1).f2)) := hcc24 2 _ rfl
      have hx24_3 : wc.cell? ⟨go24, (x9_1 : Int).toNat * 5 + 3, none⟩ = some (.int .i64 ((rd_T51 x8_1 x9_1).f3)) := hcc24 3 _ rfl
      have hx24_4 : wc.cell? ⟨go24, (x9_1 : Int).toNat * 5 + 4, none⟩ = some (.int .i64 ((rd_T51 x8_1 x9_1).f4)) := hcc24 4 _ rfl
      have hf24_0 : wc.frozen? ⟨go24, (x9_1 : Int).toNat * 5, none⟩ = false := hfr24 0
      have hf24_1 : wc.frozen? ⟨go24, (x9_1 : Int).toNat * 5 + 1, none⟩ = false := hfr24 1
      have hf24_2 : wc.frozen? ⟨go24, (x9_1 : Int).toNat * 5 + 2, none⟩ = false := hfr24 2
      have hf24_3 : wc.frozen? ⟨go24, (x9_1 : Int).toNat * 5 + 3, none⟩ = false := hfr24 3
      have hf24_4 : wc.frozen? ⟨go24, (x9_1 : Int).toNat * 5 + 4, none⟩ = false := hfr24 4
      clear hcl24 hcc24 hfr24 hM24
      replace p24 := eq_true p24
      replace q24 := eq_true q24
      have HX31 := Aside0.mk (show Kd.R k51 51 wc w.heap.size (fun _ => True) (.slice (some ⟨go24, 0, none⟩) x8_1.length co24) x8_1 from (by (with_reducible repeat (first | apply Kd.R_alloc | apply Kd.R_drewN | apply Kd.R_drew)); exact HO_8.out))
      obtain ⟨ce31, hcl31, hM31, hcc31, hfr31⟩ := Kd.R_elem HX31.out z51 (x9_1 : Int) (zdec) (by have h_ : (x9_1 : Int) < ((x8_1.length : Int) : Int) := zdec; first | exact h_ | (have e_ := (Kd.R_reads' HO_8.out).1; omega) | simpa using h_)
      obtain rfl := k51_openM hM31
      have HP31 := Kd.R_seg HX31.out (x9_1 : Int) (zdec) (by have h_ : (x9_1 : Int) < ((x8_1.length : Int) : Int) := zdec; first | exact h_ | (have e_ := (Kd.R_reads' HO_8.out).1; omega) | simpa using h_) (seg := [.int .i64 1, .int .i64 (Go.bits .and .i64 (ji21) 255), .int .i64 0, .int .i64 0, .int .i64 0]) (j := 0) hcl31 hcc31 (show 5 ≤ 5 from by decide) (x' := (⟨1, Go.bits .and .i64 (ji21) 255, 0, 0, 0⟩ : S51)) (k51_mkM _ _ _ (⟨1, Go.bits .and .i64 (ji21) 255, 0, 0, 0⟩ : S51) ) (fun _ hk => hk)
      have hx31_0 := hcc31 0 _ rfl
      (try simp only [show (k51).sz = 5 from rfl, Nat.mul_one, Nat.add_zero] at hx31_0)
      have hf31_0 := hfr31 0
      (try simp only [show (k51).sz = 5 from rfl, Nat.mul_one, Nat.add_zero] at hf31_0)
      have hx31_1 := hcc31 1 _ rfl
      (try simp only [show (k51).sz = 5 from rfl, Nat.mul_one, Nat.add_zero] at hx31_1)
      have hf31_1 := hfr31 1
      (try simp only [show (k51).sz = 5 from rfl, Nat.mul_one, Nat.add_zero] at hf31_1)
      have hx31_2 := hcc31 2 _ rfl
      (try simp only [show (k51).sz = 5 from rfl, Nat.mul_one, Nat.add_zero] at hx31_2)
      have hf31_2 := hfr31 2
      (try simp only [show (k51).sz = 5 from rfl, Nat.mul_one, Nat.add_zero] at hf31_2)
      have hx31_3 := hcc31 3 _ rfl
      (try simp only [show (k51).sz = 5 from rfl, Nat.mul_one, Nat.add_zero] at hx31_3)
      have hf31_3 := hfr31 3
      (try simp only [show (k51).sz = 5 from rfl, Nat.mul_one, Nat.add_zero] at hf31_3)
      have hx31_4 := hcc31 4 _ rfl
      (try simp only [show (k51).sz = 5 from rfl, Nat.mul_one, Nat.add_zero] at hx31_4)
      have hf31_4 := hfr31 4
      (try simp only [show (k51).sz = 5 from rfl, Nat.mul_one, Nat.add_zero] at hf31_4)
      clear hcl31 hcc31 hfr31 hM31
      go_wp2_with (first | ((with_reducible refine gate_store (t := 51) (p := 37) rfl ?_); refine store_event (t := 51) (p := 37) (v := ?vo_w32) (w1 := (((((wc.setCell ⟨go24, (x9_1 : Int).toNat * 5, none⟩ (.int .i64 1)).setCell ⟨go24, (x9_1 : Int).toNat * 5 + 1, none⟩ (.int .i64 (Go.bits .and .i64 (ji21) 255))).setCell ⟨go24, (x9_1 : Int).toNat * 5 + 2, none⟩ (.int .i64 0)).setCell ⟨go24, (x9_1 : Int).toNat * 5 + 3, none⟩ (.int .i64 0)).setCell ⟨go24, (x9_1 : Int).toNat * 5 + 4, none⟩ (.int .i64 0))) ?hg ?ho ?hn ?hr ?_; (case ho => rfl); (case hg => rfl); (case hn => rfl); (case hr => first | (go_simp; done) | (go_simp; rfl)); intro w32 hw; have hg : wc.grownBy w32 (some go24) := (by rw [hw]; exact HP31.2); have hp_ : Kd.R k51 51 w32 w.heap.size (fun _ => True) (.slice (some ⟨go24, 0, none⟩) x8_1.length co24) y131 := (by rw [hw, Ny131.out]; exact HP31.1); clear HP31; have n0_ := Aside0.mk (hp_); have n1_ := Aside0.mk (blk_grown (g := gb125) (o := .cells #[.bool a0_0, .int .i64 a0_1] 38 (0, 0)) (zb BK125.out) hg (Kd.R_ne HO_8.out BK125.out (by decide))); have n2_ := Aside0.mk (blk_grown (g := gb126) (o := .cells #[.bool true, .int .i64 a2_1, .int .i64 a2_2, .int .i64 a2_3] 33 (0, 0)) (zb BK126.out) hg (Kd.R_ne HO_8.out BK126.out (by decide))); have n3_ := Aside0.mk ((by rw [hw]; exact below_set (below_set (below_set (below_set (below_set (HB.out) GB24.out) GB24.out) GB24.out) GB24.out) GB24.out : Below w.heap.size w w32)); clear HO_8 BK125 BK126 HB; have HO_8 := n0_; have BK125 := n1_; have BK126 := n2_; have HB := n3_; clear n0_ n1_ n2_ n3_; clear hg hw hp_; have hcz33_0 := zc BK126.out 0; have hcz33_1 := zc BK126.out 1; have hcz33_2 := zc BK126.out 2; have hcz33_3 := zc BK126.out 3; have hfz33_0 := blk_frozen BK126.out 0; have hfz33_1 := blk_frozen BK126.out 1; have hfz33_2 := blk_frozen BK126.out 2; have hfz33_3 := blk_frozen BK126.out 3; have p26 : 0 ≤ (x9_1 : Int) := zdec; have q26 : (x9_1 : Int) < ((x8_1.length : Int) : Int) := zdec; obtain ⟨ce26, hcl26, hM26, hcc26, hfr26⟩ := Kd.R_elem HO_8.out z51 (x9_1 : Int) p26 q26; obtain rfl := k51_openM hM26; have hx26_0 : w32.cell? ⟨go24, (x9_1 : Int).toNat * 5, none⟩ = some (.int .i64 ((rd_T51 y131 x9_1).f0)) := hcc26 0 _ rfl; have hx26_1 : w32.cell? ⟨go24, (x9_1 : Int).toNat * 5 + 1, none⟩ = some (.int .i64 ((rd_T51 y131 x9_1).f1)) := hcc26 1 _ rfl; have hx26_2 : w32.cell? ⟨go24, (x9_1 : Int).toNat * 5 + 2, none⟩ = some (.int .i64 ((rd_T51 y131 x9_1).f2)) := hcc26 2 _ rfl; have hx26_3 : w32.cell? ⟨go24, (x9_1 : Int).toNat * 5 + 3, none⟩ = some (.int .i64 ((rd_T51 y131 x9_1).f3)) := hcc26 3 _ rfl; have hx26_4 : w32.cell? ⟨go24, (x9_1 : Int).toNat * 5 + 4, none⟩ = some (.int .i64 ((rd_T51 y131 x9_1).f4)) := hcc26 4 _ rfl; have hf26_0 : w32.frozen? ⟨go24, (x9_1 : Int).toNat * 5, none⟩ = false := hfr26 0; have hf26_1 : w32.frozen? ⟨go24, (x9_1 : Int).toNat * 5 + 1, none⟩ = false := hfr26 1; have hf26_2 : w32.frozen? ⟨go24, (x9_1 : Int).toNat * 5 + 2, none⟩ = false := hfr26 2; have hf26_3 : w32.frozen? ⟨go24, (x9_1 : Int).toNat * 5 + 3, none⟩ = false := hfr26 3; have hf26_4 : w32.frozen? ⟨go24, (x9_1 : Int).toNat * 5 + 4, none⟩ = false := hfr26 4; clear hcl26 hcc26 hfr26 hM26; replace p26 := eq_true p26; replace q26 := eq_true q26; have HX34 := Aside0.mk (show Kd.R k51 51 w32 w.heap.size (fun _ => True) (.slice (some ⟨go24, 0, none⟩) x8_1.length co24) y131 from (by (with_reducible repeat (first | apply Kd.R_alloc | apply Kd.R_drewN | apply Kd.R_drew)); exact HO_8.out)); obtain ⟨ce34, hcl34, hM34, hcc34, hfr34⟩ := Kd.R_elem HX34.out z51 (x9_1 : Int) (zdec) (by have h_ : (x9_1 : Int) < ((x8_1.length : Int) : Int) := zdec; first | exact h_ | (have e_ := (Kd.R_reads' HO_8.out).1; omega) | simpa using h_); obtain rfl := k51_openM hM34; have HP34 := Kd.R_seg HX34.out (x9_1 : Int) (zdec) (by have h_ : (x9_1 : Int) < ((x8_1.length : Int) : Int) := zdec; first | exact h_ | (have e_ := (Kd.R_reads' HO_8.out).1; omega) | simpa using h_) (seg := [.int .i64 1, .int .i64 0, .int .i64 0, .int .i64 0, .int .i64 0]) (j := 0) hcl34 hcc34 (show 5 ≤ 5 from by decide) (x' := (⟨1, 0, 0, 0, 0⟩ : S51)) (k51_mkM _ _ _ (⟨1, 0, 0, 0, 0⟩ : S51) ) (fun _ hk => hk); have hx34_0 := hcc34 0 _ rfl; (try simp only [show (k51).sz = 5 from rfl, Nat.mul_one, Nat.add_zero] at hx34_0); have hf34_0 := hfr34 0; (try simp only [show (k51).sz = 5 from rfl, Nat.mul_one, Nat.add_zero] at hf34_0); have hx34_1 := hcc34 1 _ rfl; (try simp only [show (k51).sz = 5 from rfl, Nat.mul_one, Nat.add_zero] at hx34_1); have hf34_1 := hfr34 1; (try simp only [show (k51).sz = 5 from rfl, Nat.mul_one, Nat.add_zero] at hf34_1); have hx34_2 := hcc34 2 _ rfl; (try simp only [show (k51).sz = 5 from rfl, Nat.mul_one, Nat.add_zero] at hx34_2); have hf34_2 := hfr34 2; (try simp only [show (k51).sz = 5 from rfl, Nat.mul_one, Nat.add_zero] at hf34_2); have hx34_3 := hcc34 3 _ rfl; (try simp only [show (k51).sz = 5 from rfl, Nat.mul_one, Nat.add_zero] at hx34_3); have hf34_3 := hfr34 3; (try simp only [show (k51).sz = 5 from rfl, Nat.mul_one, Nat.add_zero] at hf34_3); have hx34_4 := hcc34 4 _ rfl; (try simp only [show (k51).sz = 5 from rfl, Nat.mul_one, Nat.add_zero] at hx34_4); have hf34_4 := hfr34 4; (try simp only [show (k51).sz = 5 from rfl, Nat.mul_one, Nat.add_zero] at hf34_4); clear hcl34 hcc34 hfr34 hM34) | ((with_reducible refine gate_store (t := 51) (p := 43) rfl ?_); refine store_event (t := 51) (p := 43) (v := ?vo_w35) (w1 := (((((w32.setCell ⟨go24, (x9_1 : Int).toNat * 5, none⟩ (.int .i64 1)).setCell ⟨go24, (x9_1 : Int).toNat * 5 + 1, none⟩ (.int .i64 0)).setCell ⟨go24, (x9_1 : Int).toNat * 5 + 2, none⟩ (.int .i64 0)).setCell ⟨go24, (x9_1 : Int).toNat * 5 + 3, none⟩ (.int .i64 0)).setCell ⟨go24, (x9_1 : Int).toNat * 5 + 4, none⟩ (.int .i64 0))) ?hg ?ho ?hn ?hr ?_; (case ho => rfl); (case hg => rfl); (case hn => rfl); (case hr => first | (go_simp; done) | (go_simp; rfl)); intro w35 hw; have hg : w32.grownBy w35 (some go24) := (by rw [hw]; exact HP34.2); have hp_ : Kd.R k51 51 w35 w.heap.size (fun _ => True) (.slice (some ⟨go24, 0, none⟩) x8_1.length co24) y132 := (by rw [hw, Ny132.out]; exact HP34.1); clear HP34; have n0_ := Aside0.mk (hp_); have n1_ := Aside0.mk (blk_grown (g := gb125) (o := .cells #[.bool a0_0, .int .i64 a0_1] 38 (0, 0)) (zb BK125.out) hg (Kd.R_ne HO_8.out BK125.out (by decide))); have n2_ := Aside0.mk (blk_grown (g := gb126) (o := .cells #[.bool true, .int .i64 a2_1, .int .i64 a2_2, .int .i64 a2_3] 33 (0, 0)) (zb BK126.out) hg (Kd.R_ne HO_8.out BK126.out (by decide))); have n3_ := Aside0.mk ((by rw [hw]; exact below_set (below_set (below_set (below_set (below_set (HB.out) GB24.out) GB24.out) GB24.out) GB24.out) GB24.out : Below w.heap.size w w35)); clear HO_8 BK125 BK126 HB; have HO_8 := n0_; have BK125 := n1_; have BK126 := n2_; have HB := n3_; clear n0_ n1_ n2_ n3_; clear hg hw hp_; have hcz36_0 := zc BK126.out 0; have hcz36_1 := zc BK126.out 1; have hcz36_2 := zc BK126.out 2; have hcz36_3 := zc BK126.out 3; have hfz36_0 := blk_frozen BK126.out 0; have hfz36_1 := blk_frozen BK126.out 1; have hfz36_2 := blk_frozen BK126.out 2; have hfz36_3 := blk_frozen BK126.out 3; have p28 : 0 ≤ (x9_1 : Int) := zdec; have q28 : (x9_1 : Int) < ((x8_1.length : Int) : Int) := zdec; obtain ⟨ce28, hcl28, hM28, hcc28, hfr28⟩ := Kd.R_elem HO_8.out z51 (x9_1 : Int) p28 q28; obtain rfl := k51_openM hM28; have hx28_0 : w35.cell? ⟨go24, (x9_1 : Int).toNat * 5, none⟩ = some (.int .i64 ((rd_T51 y132 x9_1).f0)) := hcc28 0 _ rfl; have hx28_1 : w35.cell? ⟨go24, (x9_1 : Int).toNat * 5 + 1, none⟩ = some (.int .i64 ((rd_T51 y132 x9_1).f1)) := hcc28 1 _ rfl; have hx28_2 : w35.cell? ⟨go24, (x9_1 : Int).toNat * 5 + 2, none⟩ = some (.int .i64 ((rd_T51 y132 x9_1).f2)) := hcc28 2 _ rfl; have hx28_3 : w35.cell? ⟨go24, (x9_1 : Int).toNat * 5 + 3, none⟩ = some (.int .i64 ((rd_T51 y132 x9_1).f3)) := hcc28 3 _ rfl; have hx28_4 : w35.cell? ⟨go24, (x9_1 : Int).toNat * 5 + 4, none⟩ = some (.int .i64 ((rd_T51 y132 x9_1).f4)) := hcc28 4 _ rfl; have hf28_0 : w35.frozen? ⟨go24, (x9_1 : Int).toNat * 5, none⟩ = false := hfr28 0; have hf28_1 : w35.frozen? ⟨go24, (x9_1 : Int).toNat * 5 + 1, none⟩ = false := hfr28 1; have hf28_2 : w35.frozen? ⟨go24, (x9_1 : Int).toNat * 5 + 2, none⟩ = false := hfr28 2; have hf28_3 : w35.frozen? ⟨go24, (x9_1 : Int).toNat * 5 + 3, none⟩ = false := hfr28 3; have hf28_4 : w35.frozen? ⟨go24, (x9_1 : Int).toNat * 5 + 4, none⟩ = false := hfr28 4; clear hcl28 hcc28 hfr28 hM28; replace p28 := eq_true p28; replace q28 := eq_true q28; have HX37 := Aside0.mk (show Kd.R k51 51 w35 w.heap.size (fun _ => True) (.slice (some ⟨go24, 0, none⟩) x8_1.length co24) y132 from (by (with_reducible repeat (first | apply Kd.R_alloc | apply Kd.R_drewN | apply Kd.R_drew)); exact HO_8.out)); obtain ⟨ce37, hcl37, hM37, hcc37, hfr37⟩ := Kd.R_elem HX37.out z51 (x9_1 : Int) (zdec) (by have h_ : (x9_1 : Int) < ((x8_1.length : Int) : Int) := zdec; first | exact h_ | (have e_ := (Kd.R_reads' HO_8.out).1; omega) | simpa using h_); obtain rfl := k51_openM hM37; have HP37 := Kd.R_seg HX37.out (x9_1 : Int) (zdec) (by have h_ : (x9_1 : Int) < ((x8_1.length : Int) : Int) := zdec; first | exact h_ | (have e_ := (Kd.R_reads' HO_8.out).1; omega) | simpa using h_) (seg := [.int .i64 2, .int .i64 0, .int .i64 a2_2, .int .i64 a2_3, .int .i64 x9_1]) (j := 0) hcl37 hcc37 (show 5 ≤ 5 from by decide) (x' := (⟨2, 0, a2_2, a2_3, x9_1⟩ : S51)) (k51_mkM _ _ _ (⟨2, 0, a2_2, a2_3, x9_1⟩ : S51) ) (fun _ hk => hk); have hx37_0 := hcc37 0 _ rfl; (try simp only [show (k51).sz = 5 from rfl, Nat.mul_one, Nat.add_zero] at hx37_0); have hf37_0 := hfr37 0; (try simp only [show (k51).sz = 5 from rfl, Nat.mul_one, Nat.add_zero] at hf37_0); have hx37_1 := hcc37 1 _ rfl; (try simp only [show (k51).sz = 5 from rfl, Nat.mul_one, Nat.add_zero] at hx37_1); have hf37_1 := hfr37 1; (try simp only [show (k51).sz = 5 from rfl, Nat.mul_one, Nat.add_zero] at hf37_1); have hx37_2 := hcc37 2 _ rfl; (try simp only [show (k51).sz = 5 from rfl, Nat.mul_one, Nat.add_zero] at hx37_2); have hf37_2 := hfr37 2; (try simp only [show (k51).sz = 5 from rfl, Nat.mul_one, Nat.add_zero] at hf37_2); have hx37_3 := hcc37 3 _ rfl; (try simp only [show (k51).sz = 5 from rfl, Nat.mul_one, Nat.add_zero] at hx37_3); have hf37_3 := hfr37 3; (try simp only [show (k51).sz = 5 from rfl, Nat.mul_one, Nat.add_zero] at hf37_3); have hx37_4 := hcc37 4 _ rfl; (try simp only [show (k51).sz = 5 from rfl, Nat.mul_one, Nat.add_zero] at hx37_4); have hf37_4 := hfr37 4; (try simp only [show (k51).sz = 5 from rfl, Nat.mul_one, Nat.add_zero] at hf37_4); clear hcl37 hcc37 hfr37 hM37) | ((with_reducible refine gate_store (t := 51) (p := 55) rfl ?_); refine store_event (t := 51) (p := 55) (v := ?vo_w38) (w1 := (((((w35.setCell ⟨go24, (x9_1 : Int).toNat * 5, none⟩ (.int .i64 2)).setCell ⟨go24, (x9_1 : Int).toNat * 5 + 1, none⟩ (.int .i64 0)).setCell ⟨go24, (x9_1 : Int).toNat * 5 + 2, none⟩ (.int .i64 a2_2)).setCell ⟨go24, (x9_1 : Int).toNat * 5 + 3, none⟩ (.int .i64 a2_3)).setCell ⟨go24, (x9_1 : Int).toNat * 5 + 4, none⟩ (.int .i64 x9_1))) ?hg ?ho ?hn ?hr ?_; (case ho => rfl); (case hg => rfl); (case hn => rfl); (case hr => first | (go_simp; done) | (go_simp; rfl)); intro w38 hw; have hg : w35.grownBy w38 (some go24) := (by rw [hw]; exact HP37.2); have hp_ : Kd.R k51 51 w38 w.heap.size (fun _ => True) (.slice (some ⟨go24, 0, none⟩) x8_1.length co24) y133 := (by rw [hw, Ny133.out]; exact HP37.1); clear HP37; have n0_ := Aside0.mk (hp_); have n1_ := Aside0.mk (blk_grown (g := gb125) (o := .cells #[.bool a0_0, .int .i64 a0_1] 38 (0, 0)) (zb BK125.out) hg (Kd.R_ne HO_8.out BK125.out (by decide))); have n2_ := Aside0.mk (blk_grown (g := gb126) (o := .cells #[.bool true, .int .i64 a2_1, .int .i64 a2_2, .int .i64 a2_3] 33 (0, 0)) (zb BK126.out) hg (Kd.R_ne HO_8.out BK126.out (by decide))); have n3_ := Aside0.mk ((by rw [hw]; exact below_set (below_set (below_set (below_set (below_set (HB.out) GB24.out) GB24.out) GB24.out) GB24.out) GB24.out : Below w.heap.size w w38)); clear HO_8 BK125 BK126 HB; have HO_8 := n0_; have BK125 := n1_; have BK126 := n2_; have HB := n3_; clear n0_ n1_ n2_ n3_; clear hg hw hp_))
      go_roundg kj14
      case measure => have := HK1.out; have := HJ14.out; omega
      case rel => exact ⟨(y133), (wrap64 (x9_1 + 1)), (zr), H', ⟨by have := HK1.out; have := HJ14.out; omega⟩, ⟨by (with_reducible repeat (first | apply Kd.R_alloc | apply Kd.R_drewN | apply Kd.R_drew)); exact HO_8.out⟩, ⟨zb BK125.out⟩, ⟨zb BK126.out⟩, ⟨zw2 HB.out GE125.out GE126.out⟩⟩
 ·rw [if_neg c5] at H
  exact absurd H (by simp)

end Go.Proofs.Ythhdmanpjeminaa.H
