-- Written by this session's own edition of the print.
import Derived.Test.YthhdmanpjeminaaHx0
import Derived.Test.YthhdmanpjeminaaHx6
import Derived.Test.YthhdmanpjeminaaHx8
import Derived.Test.YthhdmanpjeminaaHx11
import Derived.Test.YthhdmanpjeminaaSq
import Derived.Test.YthhdmanpjeminaaSq2
namespace Go.Proofs.Ythhdmanpjeminaa.H
open Go.RowKit Go.Proofs.Ythhdmanpjeminaa.Fn Go.Proofs.YthhdmanpjeminaaW.PrintWords Go.Proofs.YthhdmanpjeminaaW.PrintLast Go.Proofs.YthhdmanpjeminaaW.PrintMore
attribute [local go_sem] max2_int min2_int max_two min_two max_three min_three max_four min_four   -- for this text's walks alone
set_option linter.unusedVariables false
set_option linter.unusedSimpArgs false

/-! bytes_Spell -/
def bytes_Spell.l0 : Nat → Int → List (S51) → Int → Int → Bool → Int → Bool → Int → Int → Int → Option ((List (S51)))
 | 0, _, _, _, _, _, _, _, _, _, _ => none
 | k + 1, x1, x7, x14, x15, x257000, x257001, x258000, x258001, x258002, x258003 => if x15 < x14 then (if x258002 > 0 then (if 0 ≤ x15 then (if x15 < (x7.length : Int) then (bytes_Spell.l0 k x1 (x7.set (x15 : Int).toNat (⟨2, 0, x258002, x258003, x15⟩ : S51)) x14 (wrap64 (x15 + 1)) x257000 x257001 x258000 x258001 x258002 x258003) else (none)) else (none)) else (if 0 ≤ (wrap64 (8 * x15)) then (if 0 ≤ x15 then (if x15 < (x7.length : Int) then (bytes_Spell.l0 k x1 (x7.set (x15 : Int).toNat (⟨1, Go.bits .and .i64 (shr .i64 x258001 (wrap64 (8 * x15))) 255, 0, 0, 0⟩ : S51)) x14 (wrap64 (x15 + 1)) x257000 x257001 x258000 x258001 x258002 x258003) else (none)) else (none)) else (none))) else (if x1 = 7 then (some x7) else (if x257000 = true then ((api_Byte_55.f k x7).bind fun t264 => (some t264)) else (some x7)))
def bytes_Spell.f (k : Nat) (a0_0 : Bool) (a0_1 : Int) (a1 : Int) (a2_0 : Bool) (a2_1 : Int) (a2_2 : Int) (a2_3 : Int) : Option ((List (S51))) := (word_Bytes.f a0_0 a0_1 a1).bind fun t258 => (if 0 ≤ t258 then (if (t258 : Int).toNat ≤ 7036874417766 then ((some (List.replicate (t258 : Int).toNat z51 : List (S51))).bind fun y259 => (bytes_Spell.l0 k a1 y259 (y259.length : Int) 0 a0_0 a0_1 a2_0 a2_1 a2_2 a2_3)) else (none)) else (none))
theorem bytes_Spell.mono_l : ∀ k, (∀ y0 y1 y2 y3 y4 y5 y6 y7 y8 y9, LeO (bytes_Spell.l0 k y0 y1 y2 y3 y4 y5 y6 y7 y8 y9) (bytes_Spell.l0 (k + 1) y0 y1 y2 y3 y4 y5 y6 y7 y8 y9))
 | 0 => fun _ _ _ _ _ _ _ _ _ _ r h => by simp [bytes_Spell.l0] at h
 | k + 1 => by
  have ih0 := bytes_Spell.mono_l k
  ·intro y0 y1 y2 y3 y4 y5 y6 y7 y8 y9
   unfold bytes_Spell.l0
   repeat' first
   | (with_reducible apply ih0)
   | (with_reducible apply api_Byte_55.mono)
   | (with_reducible apply LeO.refl)
   | (with_reducible apply LeO.none)
   | (with_reducible refine LeO.ite ?_ ?_)
   | (with_reducible refine LeO.bind ?_ (fun _ => ?_))
theorem bytes_Spell.mono : ∀ a0 a1 a2 a3 a4 a5 a6 k, LeO (bytes_Spell.f k a0 a1 a2 a3 a4 a5 a6) (bytes_Spell.f (k + 1) a0 a1 a2 a3 a4 a5 a6) := by
 intro a0 a1 a2 a3 a4 a5 a6 k
 have ih0 := bytes_Spell.mono_l k
 unfold bytes_Spell.f
 repeat' first
   | (with_reducible apply ih0)
   | (with_reducible apply api_Byte_55.mono)
   | (with_reducible apply LeO.refl)
   | (with_reducible apply LeO.none)
   | (with_reducible refine LeO.ite ?_ ?_)
   | (with_reducible refine LeO.bind ?_ (fun _ => ?_))
set_option maxHeartbeats 8000000 in
set_option maxRecDepth 100000 in
theorem bytes_Spell.calls (k : Nat) (a0_0 : Bool) (a0_1 : Int) (a1 : Int) (a2_0 : Bool) (a2_1 : Int) (a2_2 : Int) (a2_3 : Int) (r : List (S51)) (w : World) (h : bytes_Spell.f k a0_0 a0_1 a1 a2_0 a2_1 a2_2 a2_3 = some r) :
  Calls Try.prog 44 #[.agg #[.bool a0_0, .int .i64 a0_1], .int .i64 a1, .agg #[.bool a2_0, .int .i64 a2_1, .int .i64 a2_2, .int .i64 a2_3]] w fun e w' => ∃ v0_ : Value, e = .returned (v0_) ∧ Kd.R k51 51 w' w.heap.size (fun _ => True) v0_ r ∧ Below w.heap.size w w' := by
 have hu38 := Try.underlying38
 have hu33 := Try.underlying33
 have hu51 := Try.underlying51
 have HB := Aside0.mk (Below.refl w.heap.size w)
 have H : ((word_Bytes.f a0_0 a0_1 a1).bind fun t258 => (if 0 ≤ t258 then (if (t258 : Int).toNat ≤ 7036874417766 then ((some (List.replicate (t258 : Int).toNat z51 : List (S51))).bind fun y259 => (bytes_Spell.l0 k a1 y259 (y259.length : Int) 0 a0_0 a0_1 a2_0 a2_1 a2_2 a2_3)) else (none)) else (none))) = some r := h
 clear h
 replace H := Option.bind_eq_some_iff.mp H
 obtain ⟨t258, A40, H⟩ := H
 replace H : (if 0 ≤ t258 then (if (t258 : Int).toNat ≤ 7036874417766 then ((some (List.replicate (t258 : Int).toNat z51 : List (S51))).bind fun y259 => (bytes_Spell.l0 k a1 y259 (y259.length : Int) 0 a0_0 a0_1 a2_0 a2_1 a2_2 a2_3)) else (none)) else (none)) = some r := H
 have A4 := Aside0.mk A40
 clear A40
 by_cases c5 : 0 ≤ t258
 ·rw [if_pos c5] at H
  have c5b0 := eq_true c5
  have c5b1 : decide (0 ≤ t258) = true := decide_eq_true c5
  clear c5
  by_cases c6 : (t258 : Int).toNat ≤ 7036874417766
  rotate_left
  ·rw [if_neg c6] at H
   exact absurd H (by simp)
  rw [if_pos c6] at H
  have c6b0 := eq_true c6
  have c6b1 : decide ((t258 : Int).toNat ≤ 7036874417766) = true := decide_eq_true c6
  clear c6
  obtain ⟨y259, hy259⟩ : ∃ y_ : List (S51), y_ = (List.replicate (t258 : Int).toNat z51) := ⟨_, rfl⟩
  replace H : (bytes_Spell.l0 k a1 y259 (y259.length : Int) 0 a0_0 a0_1 a2_0 a2_1 a2_2 a2_3) = some r := by first | (rw [hy259]; with_reducible exact H) | (have H2_ := (Option.bind_some _ _).symm.trans H; rw [hy259]; with_reducible exact H2_) | (have H2_ := (Option.bind_some _ _).symm.trans H; with_reducible exact H2_) | with_reducible exact H | (rw [hy259]; exact H) | exact H
  have Ny259 := Aside0.mk hy259
  clear hy259
  have H' := Aside0.mk H
  clear H
  go_enter Try.func44, Try.ntmps44
  go_wp2_with (first | ((with_reducible refine gate_dst (N := 3) rfl ?_); refine zbox (N := 3) (cs := #[.bool a0_0, .int .i64 a0_1]) (t := 38) ?_; intro gb256 hg w7 hbox hb; have n0_ := Aside0.mk (below_step (zw0 HB.out) hb); have BK256 := Aside0.mk (hbox); have GW256 := Aside0.mk (zg hg (below_size (zw0 HB.out))); have GE256 := GW256; clear HB; have HB := n0_; clear n0_; clear hb hbox hg) | ((with_reducible refine gate_dst (N := 5) rfl ?_); refine zbox (N := 5) (cs := #[.bool a2_0, .int .i64 a2_1, .int .i64 a2_2, .int .i64 a2_3]) (t := 33) ?_; intro gb257 hg w8 hbox hb; have n0_ := Aside0.mk (zbb BK256.out hb); have n1_ := Aside0.mk (below_step (zw1 HB.out GE256.out) hb); have BK257 := Aside0.mk (hbox); have GW257 := Aside0.mk (zg hg (below_size (zw1 HB.out GE256.out))); have GE257 := GW257; have NB256_257 := Aside0.mk (zlt hg BK256.out); have NB257_256 := Aside0.mk (zgt hg BK256.out); clear BK256 HB; have BK256 := n0_; have HB := n1_; clear n0_ n1_; clear hb hbox hg; have hnb9 := NB256_257.out; have hnc9 := NB257_256.out; have hcz10_0 := zc BK256.out 0; have hcz10_1 := zc BK256.out 1; have hfz10_0 := blk_frozen BK256.out 0; have hfz10_1 := blk_frozen BK256.out 1) | ((with_reducible refine gate_callee (f := 36) rfl ?_); refine zgo (some 11) Try.func36 #[.agg #[.bool a0_0, .int .i64 a0_1], .int .i64 a1] ?_; (with_reducible refine (word_Bytes.calls a0_0 a0_1 a1 t258 _ A4.out).mono ?_); rintro e w11 ⟨rfl, hb⟩; refine ⟨_, rfl, ?_⟩; have n0_ := Aside0.mk (zbb BK256.out hb); have n1_ := Aside0.mk (zbb BK257.out hb); have n2_ := Aside0.mk (below_step (zw2 HB.out GE256.out GE257.out) hb); clear BK256 BK257 HB; have BK256 := n0_; have BK257 := n1_; have HB := n2_; clear n0_ n1_ n2_; (try clear hb); (try clear hb2); (try clear hk); (try clear hi)) | ((with_reducible refine gate_dst (N := 12) rfl ?_); refine Kd.R_make k51 _ 51 rfl (N := 12) rfl 24 _ _ rfl t258 rfl rfl Try.underlying24 (.agg #[(.int .i64 0), (.int .i64 0), (.int .i64 0), (.int .i64 0), (.int .i64 0)]) 40 info51 rfl (by decide) (by omega) z51 (ok := fun _ => True) (okp := fun _ => True) (k51_mkM _ _ _ z51 ) (fun _ hk => hk) trivial (zdec) (Nat.le_trans (Nat.mul_le_mul_right _ (zdec : t258.toNat ≤ 7036874417766)) (by omega)) (Below.refl _ _) (Nat.le_refl _) ?_; intro v260 w12 ho13 hb hg_ hnew_; clear hg_ hnew_; (first | rw [← Ny259.out] at ho13 | (simp only [Int.reduceToNat] at ho13; rw [← Ny259.out] at ho13)); have HO261 := Aside0.mk (Kd.R_lower ho13 (below_size (zw2 HB.out GE256.out GE257.out))); have n1_ := Aside0.mk (zbb BK256.out hb); have n2_ := Aside0.mk (zbb BK257.out hb); have n3_ := Aside0.mk (below_step (zw2 HB.out GE256.out GE257.out) hb); clear BK256 BK257 HB; have BK256 := n1_; have BK257 := n2_; have HB := n3_; clear n1_ n2_ n3_; clear hb ho13; obtain ⟨Ao14, co14, eo14⟩ := Kd.R_slice HO261.out; subst eo14))
  go_loopg [15] k (fun kq v15 w' => ∃ (x7_1 : List (S51)) (x15_1 : Int), v15 = .int .i64 x15_1 ∧ Aside0 (bytes_Spell.l0 kq a1 x7_1 (y259.length : Int) x15_1 a0_0 a0_1 a2_0 a2_1 a2_2 a2_3 = some r) ∧ Aside0 (kq ≤ k) ∧ Aside0 (Kd.R k51 51 w' w.heap.size (fun _ => True) (.slice Ao14 y259.length co14) x7_1) ∧ Aside0 (w'.heap[gb256]? = some (.cells #[.bool a0_0, .int .i64 a0_1] 38 (0, 0))) ∧ Aside0 (w'.heap[gb257]? = some (.cells #[.bool a2_0, .int .i64 a2_1, .int .i64 a2_2, .int .i64 a2_3] 33 (0, 0))) ∧ Aside0 (Below w.heap.size w w'))
  case atStart => exact ⟨(y259), (0), (zr), H', ⟨Nat.le_refl _⟩, ⟨by (with_reducible repeat (first | apply Kd.R_alloc | apply Kd.R_drewN | apply Kd.R_drew)); exact HO261.out⟩, ⟨zb BK256.out⟩, ⟨zb BK257.out⟩, ⟨zw2 HB.out GE256.out GE257.out⟩⟩
  case round =>
   clear H'
   try clear p2; try clear c3; try clear c4; try clear c5; try clear c5b0; try clear c5b1; try clear c6; try clear c6b0; try clear c6b1; try clear c9
   obtain ⟨x7_1, x15_1, rfl, HA, HK1, HO_7, BK256, BK257, HB⟩ := hrel
   have hl7_1 := (Kd.R_reads' HO_7.out).1
   rw [hl7_1] at HO_7
   (try simp only [hl7_1])
   (try simp only [hl7_1] at BK256)
   (try simp only [hl7_1] at BK257)
   cases gk with
   | zero => exact absurd HA.out (by simp [bytes_Spell.l0])
   | succ k1 =>
    have H := HA.out
    clear HA
    simp only [bytes_Spell.l0] at H
    by_cases c15 : x15_1 < (y259.length : Int)
    rotate_left
    ·rw [if_neg c15] at H
     have c15b0 : decide (x15_1 < (y259.length : Int)) = false := decide_eq_false c15
     try (have c15b0r := c15b0; rw [hl7_1] at c15b0r)
     clear c15
     by_cases c34 : a1 = 7
     ·rw [if_pos c34] at H
      have c34b0 : (a1 == 7) = true := beq_iff_eq.mpr c34
      have c34b1 : (a1 != 7) = false := bne_eq_false_iff_eq.mpr c34
      clear c34
      obtain rfl := Option.some.inj H
      go_wp2
      go_ret
      exact ⟨_, ze, by (with_reducible repeat (first | apply Kd.R_alloc | apply Kd.R_drewN | apply Kd.R_drew)); exact HO_7.out, zw2 HB.out GE256.out GE257.out⟩
     rw [if_neg c34] at H
     have c34b0 : (a1 == 7) = false := beq_eq_false_iff_ne.mpr c34
     have c34b1 : (a1 != 7) = true := bne_iff_ne.mpr c34
     by_cases c35 : a0_0 = true
     rotate_left
     ·replace c35 := Bool.eq_false_iff.mpr c35
      subst c35
      have H1 : (some x7_1) = some r := by rw [if_neg (show ¬ (false = true) by decide)] at H; exact H
      clear H
      have H := H1
      clear H1
      obtain rfl := Option.some.inj H
      have hnb40 := NB256_257.out
      have hnc40 := NB257_256.out
      have hcz41_0 := zc BK256.out 0
      have hcz41_1 := zc BK256.out 1
      have hfz41_0 := blk_frozen BK256.out 0
      have hfz41_1 := blk_frozen BK256.out 1
      go_wp2
      go_ret
      exact ⟨_, ze, by (with_reducible repeat (first | apply Kd.R_alloc | apply Kd.R_drewN | apply Kd.R_drew)); exact HO_7.out, zw2 HB.out GE256.out GE257.out⟩
     subst c35
     have H1 : ((api_Byte_55.f k1 x7_1).bind fun t264 => (some t264)) = some r := by rw [if_pos rfl] at H; exact H
     clear H
     have H := H1
     clear H1
     replace H := Option.bind_eq_some_iff.mp H
     obtain ⟨t264, A360, H⟩ := H
     replace H : (some t264) = some r := H
     have A36 := Aside0.mk A360
     clear A360
     obtain rfl := Option.some.inj H
     have hnb37 := NB256_257.out
     have hnc37 := NB257_256.out
     have hcz38_0 := zc BK256.out 0
     have hcz38_1 := zc BK256.out 1
     have hfz38_0 := blk_frozen BK256.out 0
     have hfz38_1 := blk_frozen BK256.out 1
     go_wp2_with (first | ((with_reducible refine gate_callee (f := 55) rfl ?_); refine zgo (some 49) Try.func55 #[.slice Ao14 x7_1.length co14] ?_; (with_reducible refine (api_Byte_55.calls k1 (fun k_ => some k_ = (.slice Ao14 x7_1.length co14 : Value).ownBlock) (.slice Ao14 x7_1.length co14) x7_1 t264 w _ ?side1 ?side2 A36.out).mono ?_); (case side1 => repeat (first | (with_reducible first | exact HB.out | apply below_alloc | apply pw_below_drewN | apply below_drew1 | refine below_set ?_ GE256.out | refine below_set ?_ GE257.out) | exact HB.out)); (case side2 => exact Kd.R_tight rfl HO_7.out); rintro e w39 ⟨rfl, hy0, hb, hkp⟩; refine ⟨_, rfl, ?_⟩; have n0_ := Aside0.mk (Kd.R_reok rfl hy0 (fun k_ e_ => HO_7.out.1 k_ e_)); have n1_ := Aside0.mk (blk_kept (zb BK256.out) hkp (fun hs_ => (fun e_ => (Kd.R_ne HO_7.out BK256.out (by decide)) e_) hs_)); have n2_ := Aside0.mk (blk_kept (zb BK257.out) hkp (fun hs_ => (fun e_ => (Kd.R_ne HO_7.out BK257.out (by decide)) e_) hs_)); have n3_ := Aside0.mk (hb); clear HO_7 BK256 BK257 HB; have HO_7 := n0_; have BK256 := n1_; have BK257 := n2_; have HB := n3_; clear n0_ n1_ n2_ n3_; (try clear hb); (try clear hkp); (try clear hy0)))
     go_ret
     exact ⟨_, ze, by (with_reducible repeat (first | apply Kd.R_alloc | apply Kd.R_drewN | apply Kd.R_drew)); exact HO_7.out, zw2 HB.out GE256.out GE257.out⟩
    rw [if_pos c15] at H
    have c15b0 : decide (x15_1 < (y259.length : Int)) = true := decide_eq_true c15
    clear c15
    by_cases c16 : a2_2 > 0
    ·rw [if_pos c16] at H
     have c16b0 : decide (0 < a2_2) = true := decide_eq_true c16
     clear c16
     by_cases c17 : 0 ≤ x15_1
     rotate_left
     ·rw [if_neg c17] at H
      exact absurd H (by simp)
     rw [if_pos c17] at H
     have c17b0 : decide (0 ≤ x15_1) = true := decide_eq_true c17
     clear c17
     by_cases c18 : x15_1 < (x7_1.length : Int)
     rotate_left
     ·rw [if_neg c18] at H
      exact absurd H (by simp)
     rw [if_pos c18] at H
     have c18b0 : decide (x15_1 < (x7_1.length : Int)) = true := decide_eq_true c18
     clear c18
     obtain ⟨y262, hy262⟩ : ∃ y_ : List (S51), y_ = (x7_1.set (x15_1 : Int).toNat (⟨2, 0, a2_2, a2_3, x15_1⟩ : S51)) := ⟨_, rfl⟩
     replace H : (bytes_Spell.l0 k1 a1 y262 (y259.length : Int) (wrap64 (x15_1 + 1)) a0_0 a0_1 a2_0 a2_1 a2_2 a2_3) = some r := by first | (rw [hy262]; with_reducible exact H) | (have H2_ := (Option.bind_some _ _).symm.trans H; rw [hy262]; with_reducible exact H2_) | (have H2_ := (Option.bind_some _ _).symm.trans H; with_reducible exact H2_) | with_reducible exact H | (rw [hy262]; exact H) | exact H
     have Ny262 := Aside0.mk hy262
     clear hy262
     have H' := Aside0.mk H
     clear H
     have hnb20 := NB257_256.out
     have hnc20 := NB256_257.out
     have hcz21_0 := zc BK257.out 0
     have hcz21_1 := zc BK257.out 1
     have hcz21_2 := zc BK257.out 2
     have hcz21_3 := zc BK257.out 3
     have hfz21_0 := blk_frozen BK257.out 0
     have hfz21_1 := blk_frozen BK257.out 1
     have hfz21_2 := blk_frozen BK257.out 2
     have hfz21_3 := blk_frozen BK257.out 3
     have p19 : 0 ≤ (x15_1 : Int) := zdec
     have q19 : (x15_1 : Int) < ((x7_1.length : Int) : Int) := zdec
     obtain ⟨go19, co19, eo19, gb19, gl19, cl19, HG19⟩ := Kd.R_form HO_7.out (by omega)
     (first | cases eo19 | (injection eo19 with ea_ en_ ec_; (first | subst ea_ | (injection ea_ with ea_; subst ea_)); subst ec_; clear en_))
     have GB19 := Aside0.mk gb19
     have GG19 := Aside0.mk HG19
     clear gb19 gl19 HG19
     obtain ⟨ce19, hcl19, hM19, hcc19, hfr19⟩ := Kd.R_elem HO_7.out z51 (x15_1 : Int) p19 q19
     obtain rfl := k51_openM hM19
     have hx19_0 : wr.cell? ⟨go19, (x15_1 : Int).toNat * 5, none⟩ = some (.int .i64 ((rd_T51 x7_1 x15_1).f0)) := hcc19 0 _ rfl
     have hx19_1 : wr.cell? ⟨go19, (x15_1 : Int).toNat * 5 + 1, none⟩ = some (.int .i64 ((rd_T51 x7_1 x15_1).f1)) := hcc19 1 _ rfl
     have hx19_2 : wr.cell? ⟨go19, (x15_1 : Int).toNat * 5 + 2, none⟩ = some (.int .i64 ((rd_T51 x7_1 x15_1).f2)) := hcc19 2 _ rfl
     have hx19_3 : wr.cell? ⟨go19, (x15_1 : Int).toNat * 5 + 3, none⟩ = some (.int .i64 ((rd_T51 x7_1 x15_1).f3)) := hcc19 3 _ rfl
     have hx19_4 : wr.cell? ⟨go19, (x15_1 : Int).toNat * 5 + 4, none⟩ = some (.int .i64 ((rd_T51 x7_1 x15_1).f4)) := hcc19 4 _ rfl
     have hf19_0 : wr.frozen? ⟨go19, (x15_1 : Int).toNat * 5, none⟩ = false := hfr19 0
     have hf19_1 : wr.frozen? ⟨go19, (x15_1 : Int).toNat * 5 + 1, none⟩ = false := hfr19 1
     have hf19_2 : wr.frozen? ⟨go19, (x15_1 : Int).toNat * 5 + 2, none⟩ = false := hfr19 2
     have hf19_3 : wr.frozen? ⟨go19, (x15_1 : Int).toNat * 5 + 3, none⟩ = false := hfr19 3
     have hf19_4 : wr.frozen? ⟨go19, (x15_1 : Int).toNat * 5 + 4, none⟩ = false := hfr19 4
     clear hcl19 hcc19 hfr19 hM19
     replace p19 := eq_true p19
     replace q19 := eq_true q19
     have HX22 := Aside0.mk (show Kd.R k51 51 wr w.heap.size (fun _ => True) (.slice (some ⟨go19, 0, none⟩) x7_1.length co14) x7_1 from (by (with_reducible repeat (first | apply Kd.R_alloc | apply Kd.R_drewN | apply Kd.R_drew)); exact HO_7.out))
     obtain ⟨ce22, hcl22, hM22, hcc22, hfr22⟩ := Kd.R_elem HX22.out z51 (x15_1 : Int) (zdec) (by have h_ : (x15_1 : Int) < ((x7_1.length : Int) : Int) := zdec; first | exact h_ | (have e_ := (Kd.R_reads' HO_7.out).1; omega) | simpa using h_)
     obtain rfl := k51_openM hM22
     have HP22 := Kd.R_seg HX22.out (x15_1 : Int) (zdec) (by have h_ : (x15_1 : Int) < ((x7_1.length : Int) : Int) := zdec; first | exact h_ | (have e_ := (Kd.R_reads' HO_7.out).1; omega) | simpa using h_) (seg := [.int .i64 2, .int .i64 0, .int .i64 a2_2, .int .i64 a2_3, .int .i64 x15_1]) (j := 0) hcl22 hcc22 (show 5 ≤ 5 from by decide) (x' := (⟨2, 0, a2_2, a2_3, x15_1⟩ : S51)) (k51_mkM _ _ _ (⟨2, 0, a2_2, a2_3, x15_1⟩ : S51) ) (fun _ hk => hk)
     have hx22_0 := hcc22 0 _ rfl
     (try simp only [show (k51).sz = 5 from rfl, Nat.mul_one, Nat.add_zero] at hx22_0)
     have hf22_0 := hfr22 0
     (try simp only [show (k51).sz = 5 from rfl, Nat.mul_one, Nat.add_zero] at hf22_0)
     have hx22_1 := hcc22 1 _ rfl
     (try simp only [show (k51).sz = 5 from rfl, Nat.mul_one, Nat.add_zero] at hx22_1)
     have hf22_1 := hfr22 1
     (try simp only [show (k51).sz = 5 from rfl, Nat.mul_one, Nat.add_zero] at hf22_1)
     have hx22_2 := hcc22 2 _ rfl
     (try simp only [show (k51).sz = 5 from rfl, Nat.mul_one, Nat.add_zero] at hx22_2)
     have hf22_2 := hfr22 2
     (try simp only [show (k51).sz = 5 from rfl, Nat.mul_one, Nat.add_zero] at hf22_2)
     have hx22_3 := hcc22 3 _ rfl
     (try simp only [show (k51).sz = 5 from rfl, Nat.mul_one, Nat.add_zero] at hx22_3)
     have hf22_3 := hfr22 3
     (try simp only [show (k51).sz = 5 from rfl, Nat.mul_one, Nat.add_zero] at hf22_3)
     have hx22_4 := hcc22 4 _ rfl
     (try simp only [show (k51).sz = 5 from rfl, Nat.mul_one, Nat.add_zero] at hx22_4)
     have hf22_4 := hfr22 4
     (try simp only [show (k51).sz = 5 from rfl, Nat.mul_one, Nat.add_zero] at hf22_4)
     clear hcl22 hcc22 hfr22 hM22
     go_wp2_with (first | ((with_reducible refine gate_store (t := 51) (p := 40) rfl ?_); refine store_event (t := 51) (p := 40) (v := ?vo_w23) (w1 := (((((wr.setCell ⟨go19, (x15_1 : Int).toNat * 5, none⟩ (.int .i64 2)).setCell ⟨go19, (x15_1 : Int).toNat * 5 + 1, none⟩ (.int .i64 0)).setCell ⟨go19, (x15_1 : Int).toNat * 5 + 2, none⟩ (.int .i64 a2_2)).setCell ⟨go19, (x15_1 : Int).toNat * 5 + 3, none⟩ (.int .i64 a2_3)).setCell ⟨go19, (x15_1 : Int).toNat * 5 + 4, none⟩ (.int .i64 x15_1))) ?hg ?ho ?hn ?hr ?_; (case ho => rfl); (case hg => rfl); (case hn => rfl); (case hr => first | (go_simp; done) | (go_simp; rfl)); intro w23 hw; have hg : wr.grownBy w23 (some go19) := (by rw [hw]; exact HP22.2); have hp_ : Kd.R k51 51 w23 w.heap.size (fun _ => True) (.slice (some ⟨go19, 0, none⟩) x7_1.length co14) y262 := (by rw [hw, Ny262.out]; exact HP22.1); clear HP22; have n0_ := Aside0.mk (hp_); have n1_ := Aside0.mk (blk_grown (g := gb256) (o := .cells #[.bool a0_0, .int .i64 a0_1] 38 (0, 0)) (zb BK256.out) hg (Kd.R_ne HO_7.out BK256.out (by decide))); have n2_ := Aside0.mk (blk_grown (g := gb257) (o := .cells #[.bool a2_0, .int .i64 a2_1, .int .i64 a2_2, .int .i64 a2_3] 33 (0, 0)) (zb BK257.out) hg (Kd.R_ne HO_7.out BK257.out (by decide))); have n3_ := Aside0.mk ((by rw [hw]; exact below_set (below_set (below_set (below_set (below_set (HB.out) GB19.out) GB19.out) GB19.out) GB19.out) GB19.out : Below w.heap.size w w23)); clear HO_7 BK256 BK257 HB; have HO_7 := n0_; have BK256 := n1_; have BK257 := n2_; have HB := n3_; clear n0_ n1_ n2_ n3_; clear hg hw hp_))
     (try simp only [← hl7_1])
     go_roundg k1
     case measure => have := HK1.out; omega
     case rel => exact ⟨(y262), (wrap64 (x15_1 + 1)), (zr), H', ⟨by have := HK1.out; omega⟩, ⟨by (try simp only [hl7_1]); (with_reducible repeat (first | apply Kd.R_alloc | apply Kd.R_drewN | apply Kd.R_drew)); exact HO_7.out⟩, ⟨by (try simp only [hl7_1]); (with_reducible repeat (first | refine blk_drewN ?_ _ | refine blk_drew ?_ | refine blk_alloc ?_ _)); exact BK256.out⟩, ⟨by (try simp only [hl7_1]); (with_reducible repeat (first | refine blk_drewN ?_ _ | refine blk_drew ?_ | refine blk_alloc ?_ _)); exact BK257.out⟩, ⟨zw2 HB.out GE256.out GE257.out⟩⟩
    rw [if_neg c16] at H
    have c16b0 : decide (0 < a2_2) = false := decide_eq_false c16
    clear c16
    obtain ⟨ji24, hji24⟩ : ∃ j_ : Int, (wrap64 (8 * x15_1)) = j_ := ⟨_, rfl⟩
    replace H : (if 0 ≤ (ji24) then (if 0 ≤ x15_1 then (if x15_1 < (x7_1.length : Int) then (bytes_Spell.l0 k1 a1 (x7_1.set (x15_1 : Int).toNat (⟨1, Go.bits .and .i64 (shr .i64 a2_1 (ji24)) 255, 0, 0, 0⟩ : S51)) (y259.length : Int) (wrap64 (x15_1 + 1)) a0_0 a0_1 a2_0 a2_1 a2_2 a2_3) else (none)) else (none)) else (none)) = some r := by first | (rw [hji24] at H; exact H) | (simp only [hji24] at H ⊢; exact H)
    have hji24w : (IntKind.i64.wrap (8 * x15_1)) = ji24 := (i64_w _).trans hji24
    by_cases c25 : 0 ≤ (ji24)
    rotate_left
    ·rw [if_neg c25] at H
     exact absurd H (by simp)
    rw [if_pos c25] at H
    have c25b0 := eq_true c25
    have c25b1 : decide (0 ≤ (ji24)) = true := decide_eq_true c25
    clear c25
    obtain ⟨ji26, hji26⟩ : ∃ j_ : Int, (shr .i64 a2_1 (ji24)) = j_ := ⟨_, rfl⟩
    replace H : (if 0 ≤ x15_1 then (if x15_1 < (x7_1.length : Int) then (bytes_Spell.l0 k1 a1 (x7_1.set (x15_1 : Int).toNat (⟨1, Go.bits .and .i64 (ji26) 255, 0, 0, 0⟩ : S51)) (y259.length : Int) (wrap64 (x15_1 + 1)) a0_0 a0_1 a2_0 a2_1 a2_2 a2_3) else (none)) else (none)) = some r := by first | (rw [hji26] at H; exact H) | (simp only [hji26] at H ⊢; exact H)
    have hji26_ : (a2_1 / 2 ^ min (ji24).toNat 64) = ji26 := hji26
    have hji26z : (ji24) ≤ 64 → (a2_1 / 2 ^ (ji24).toNat) = ji26 := shr_small hji26
    by_cases c27 : 0 ≤ x15_1
    rotate_left
    ·rw [if_neg c27] at H
     exact absurd H (by simp)
    rw [if_pos c27] at H
    have c27b0 : decide (0 ≤ x15_1) = true := decide_eq_true c27
    clear c27
    by_cases c28 : x15_1 < (x7_1.length : Int)
    rotate_left
    ·rw [if_neg c28] at H
     exact absurd H (by simp)
    rw [if_pos c28] at H
    have c28b0 : decide (x15_1 < (x7_1.length : Int)) = true := decide_eq_true c28
    clear c28
    obtain ⟨y263, hy263⟩ : ∃ y_ : List (S51), y_ = (x7_1.set (x15_1 : Int).toNat (⟨1, Go.bits .and .i64 (ji26) 255, 0, 0, 0⟩ : S51)) := ⟨_, rfl⟩
    replace H : (bytes_Spell.l0 k1 a1 y263 (y259.length : Int) (wrap64 (x15_1 + 1)) a0_0 a0_1 a2_0 a2_1 a2_2 a2_3) = some r := by first | (rw [hy263]; with_reducible exact H) | (have H2_ := (Option.bind_some _ _).symm.trans H; rw [hy263]; with_reducible exact H2_) | (have H2_ := (Option.bind_some _ _).symm.trans H; with_reducible exact H2_) | with_reducible exact H | (rw [hy263]; exact H) | exact H
    have Ny263 := Aside0.mk hy263
    clear hy263
    have H' := Aside0.mk H
    clear H
    have hnb30 := NB257_256.out
    have hnc30 := NB256_257.out
    have hcz31_0 := zc BK257.out 0
    have hcz31_1 := zc BK257.out 1
    have hcz31_2 := zc BK257.out 2
    have hcz31_3 := zc BK257.out 3
    have hfz31_0 := blk_frozen BK257.out 0
    have hfz31_1 := blk_frozen BK257.out 1
    have hfz31_2 := blk_frozen BK257.out 2
    have hfz31_3 := blk_frozen BK257.out 3
    have p29 : 0 ≤ (x15_1 : Int) := zdec
    have q29 : (x15_1 : Int) < ((x7_1.length : Int) : Int) := zdec
    obtain ⟨go29, co29, eo29, gb29, gl29, cl29, HG29⟩ := Kd.R_form HO_7.out (by omega)
    (first | cases eo29 | (injection eo29 with ea_ en_ ec_; (first | subst ea_ | (injection ea_ with ea_; subst ea_)); subst ec_; clear en_))
    have GB29 := Aside0.mk gb29
    have GG29 := Aside0.mk HG29
    clear gb29 gl29 HG29
    obtain ⟨ce29, hcl29, hM29, hcc29, hfr29⟩ := Kd.R_elem HO_7.out z51 (x15_1 : Int) p29 q29
    obtain rfl := k51_openM hM29
    have hx29_0 : wr.cell? ⟨go29, (x15_1 : Int).toNat * 5, none⟩ = some (.int .i64 ((rd_T51 x7_1 x15_1).f0)) := hcc29 0 _ rfl
    have hx29_1 : wr.cell? ⟨go29, (x15_1 : Int).toNat * 5 + 1, none⟩ = some (.int .i64 ((rd_T51 x7_1 x15_1).f1)) := hcc29 1 _ rfl
    have hx29_2 : wr.cell? ⟨go29, (x15_1 : Int).toNat * 5 + 2, none⟩ = some (.int .i64 ((rd_T51 x7_1 x15_1).f2)) := hcc29 2 _ rfl
    have hx29_3 : wr.cell? ⟨go29, (x15_1 : Int).toNat * 5 + 3, none⟩ = some (.int .i64 ((rd_T51 x7_1 x15_1).f3)) := hcc29 3 _ rfl
    have hx29_4 : wr.cell? ⟨go29, (x15_1 : Int).toNat * 5 + 4, none⟩ = some (.int .i64 ((rd_T51 x7_1 x15_1).f4)) := hcc29 4 _ rfl
    have hf29_0 : wr.frozen? ⟨go29, (x15_1 : Int).toNat * 5, none⟩ = false := hfr29 0
    have hf29_1 : wr.frozen? ⟨go29, (x15_1 : Int).toNat * 5 + 1, none⟩ = false := hfr29 1
    have hf29_2 : wr.frozen? ⟨go29, (x15_1 : Int).toNat * 5 + 2, none⟩ = false := hfr29 2
    have hf29_3 : wr.frozen? ⟨go29, (x15_1 : Int).toNat * 5 + 3, none⟩ = false := hfr29 3
    have hf29_4 : wr.frozen? ⟨go29, (x15_1 : Int).toNat * 5 + 4, none⟩ = false := hfr29 4
    clear hcl29 hcc29 hfr29 hM29
    replace p29 := eq_true p29
    replace q29 := eq_true q29
    have HX32 := Aside0.mk (show Kd.R k51 51 wr w.heap.size (fun _ => True) (.slice (some ⟨go29, 0, none⟩) x7_1.length co14) x7_1 from (by (with_reducible repeat (first | apply Kd.R_alloc | apply Kd.R_drewN | apply Kd.R_drew)); exact HO_7.out))
    obtain ⟨ce32, hcl32, hM32, hcc32, hfr32⟩ := Kd.R_elem HX32.out z51 (x15_1 : Int) (zdec) (by have h_ : (x15_1 : Int) < ((x7_1.length : Int) : Int) := zdec; first | exact h_ | (have e_ := (Kd.R_reads' HO_7.out).1; omega) | simpa using h_)
    obtain rfl := k51_openM hM32
    have HP32 := Kd.R_seg HX32.out (x15_1 : Int) (zdec) (by have h_ : (x15_1 : Int) < ((x7_1.length : Int) : Int) := zdec; first | exact h_ | (have e_ := (Kd.R_reads' HO_7.out).1; omega) | simpa using h_) (seg := [.int .i64 1, .int .i64 (Go.bits .and .i64 (ji26) 255), .int .i64 0, .int .i64 0, .int .i64 0]) (j := 0) hcl32 hcc32 (show 5 ≤ 5 from by decide) (x' := (⟨1, Go.bits .and .i64 (ji26) 255, 0, 0, 0⟩ : S51)) (k51_mkM _ _ _ (⟨1, Go.bits .and .i64 (ji26) 255, 0, 0, 0⟩ : S51) ) (fun _ hk => hk)
    have hx32_0 := hcc32 0 _ rfl
    (try simp only [show (k51).sz = 5 from rfl, Nat.mul_one, Nat.add_zero] at hx32_0)
    have hf32_0 := hfr32 0
    (try simp only [show (k51).sz = 5 from rfl, Nat.mul_one, Nat.add_zero] at hf32_0)
    have hx32_1 := hcc32 1 _ rfl
    (try simp only [show (k51).sz = 5 from rfl, Nat.mul_one, Nat.add_zero] at hx32_1)
    have hf32_1 := hfr32 1
    (try simp only [show (k51).sz = 5 from rfl, Nat.mul_one, Nat.add_zero] at hf32_1)
    have hx32_2 := hcc32 2 _ rfl
    (try simp only [show (k51).sz = 5 from rfl, Nat.mul_one, Nat.add_zero] at hx32_2)
    have hf32_2 := hfr32 2
    (try simp only [show (k51).sz = 5 from rfl, Nat.mul_one, Nat.add_zero] at hf32_2)
    have hx32_3 := hcc32 3 _ rfl
    (try simp only [show (k51).sz = 5 from rfl, Nat.mul_one, Nat.add_zero] at hx32_3)
    have hf32_3 := hfr32 3
    (try simp only [show (k51).sz = 5 from rfl, Nat.mul_one, Nat.add_zero] at hf32_3)
    have hx32_4 := hcc32 4 _ rfl
    (try simp only [show (k51).sz = 5 from rfl, Nat.mul_one, Nat.add_zero] at hx32_4)
    have hf32_4 := hfr32 4
    (try simp only [show (k51).sz = 5 from rfl, Nat.mul_one, Nat.add_zero] at hf32_4)
    clear hcl32 hcc32 hfr32 hM32
    go_wp2_with (first | ((with_reducible refine gate_store (t := 51) (p := 27) rfl ?_); refine store_event (t := 51) (p := 27) (v := ?vo_w33) (w1 := (((((wr.setCell ⟨go29, (x15_1 : Int).toNat * 5, none⟩ (.int .i64 1)).setCell ⟨go29, (x15_1 : Int).toNat * 5 + 1, none⟩ (.int .i64 (Go.bits .and .i64 (ji26) 255))).setCell ⟨go29, (x15_1 : Int).toNat * 5 + 2, none⟩ (.int .i64 0)).setCell ⟨go29, (x15_1 : Int).toNat * 5 + 3, none⟩ (.int .i64 0)).setCell ⟨go29, (x15_1 : Int).toNat * 5 + 4, none⟩ (.int .i64 0))) ?hg ?ho ?hn ?hr ?_; (case ho => rfl); (case hg => rfl); (case hn => rfl); (case hr => first | (go_simp; done) | (go_simp; rfl)); intro w33 hw; have hg : wr.grownBy w33 (some go29) := (by rw [hw]; exact HP32.2); have hp_ : Kd.R k51 51 w33 w.heap.size (fun _ => True) (.slice (some ⟨go29, 0, none⟩) x7_1.length co14) y263 := (by rw [hw, Ny263.out]; exact HP32.1); clear HP32; have n0_ := Aside0.mk (hp_); have n1_ := Aside0.mk (blk_grown (g := gb256) (o := .cells #[.bool a0_0, .int .i64 a0_1] 38 (0, 0)) (zb BK256.out) hg (Kd.R_ne HO_7.out BK256.out (by decide))); have n2_ := Aside0.mk (blk_grown (g := gb257) (o := .cells #[.bool a2_0, .int .i64 a2_1, .int .i64 a2_2, .int .i64 a2_3] 33 (0, 0)) (zb BK257.out) hg (Kd.R_ne HO_7.out BK257.out (by decide))); have n3_ := Aside0.mk ((by rw [hw]; exact below_set (below_set (below_set (below_set (below_set (HB.out) GB29.out) GB29.out) GB29.out) GB29.out) GB29.out : Below w.heap.size w w33)); clear HO_7 BK256 BK257 HB; have HO_7 := n0_; have BK256 := n1_; have BK257 := n2_; have HB := n3_; clear n0_ n1_ n2_ n3_; clear hg hw hp_))
    (try simp only [← hl7_1])
    go_roundg k1
    case measure => have := HK1.out; omega
    case rel => exact ⟨(y263), (wrap64 (x15_1 + 1)), (zr), H', ⟨by have := HK1.out; omega⟩, ⟨by (try simp only [hl7_1]); (with_reducible repeat (first | apply Kd.R_alloc | apply Kd.R_drewN | apply Kd.R_drew)); exact HO_7.out⟩, ⟨by (try simp only [hl7_1]); (with_reducible repeat (first | refine blk_drewN ?_ _ | refine blk_drew ?_ | refine blk_alloc ?_ _)); exact BK256.out⟩, ⟨by (try simp only [hl7_1]); (with_reducible repeat (first | refine blk_drewN ?_ _ | refine blk_drew ?_ | refine blk_alloc ?_ _)); exact BK257.out⟩, ⟨zw2 HB.out GE256.out GE257.out⟩⟩
 ·rw [if_neg c5] at H
  exact absurd H (by simp)

/-! bytes_Put -/
def bytes_Put.f (k : Nat) (a0_0 : Bool) (a0_1 : Int) (a1 : Int) (a2_0 : Bool) (a2_1 : Int) (a2_2 : Int) (a2_3 : Int) : Option ((List (S51)) × Int) := (word_May.f a0_0 a0_1).bind fun t267 => (if t267 = true then ((bytes_May.f a1 a2_0 a2_1 a2_2 a2_3).bind fun t268 => (if t268 = true then ((bytes_Spell.f k a0_0 a0_1 a1 a2_0 a2_1 a2_2 a2_3).bind fun t269 => (some (t269, 0))) else (some (([] : List (S51)), 1)))) else (some (([] : List (S51)), 1)))
theorem bytes_Put.mono : ∀ a0 a1 a2 a3 a4 a5 a6 k, LeO (bytes_Put.f k a0 a1 a2 a3 a4 a5 a6) (bytes_Put.f (k + 1) a0 a1 a2 a3 a4 a5 a6) := by
 intro a0 a1 a2 a3 a4 a5 a6 k
 unfold bytes_Put.f
 repeat' first
   | (with_reducible apply bytes_Spell.mono)
   | (with_reducible apply LeO.refl)
   | (with_reducible apply LeO.none)
   | (with_reducible refine LeO.ite ?_ ?_)
   | (with_reducible refine LeO.bind ?_ (fun _ => ?_))
set_option maxHeartbeats 8000000 in
set_option maxRecDepth 100000 in
theorem bytes_Put.calls (k : Nat) (a0_0 : Bool) (a0_1 : Int) (a1 : Int) (a2_0 : Bool) (a2_1 : Int) (a2_2 : Int) (a2_3 : Int) (r1 : List (S51)) (r2 : Int) (w : World) (h : bytes_Put.f k a0_0 a0_1 a1 a2_0 a2_1 a2_2 a2_3 = some (r1, r2)) :
  Calls Try.prog 26 #[.agg #[.bool a0_0, .int .i64 a0_1], .int .i64 a1, .agg #[.bool a2_0, .int .i64 a2_1, .int .i64 a2_2, .int .i64 a2_3]] w fun e w' => ∃ v0_ : Value, e = .returned (.tuple #[v0_, .int .i64 r2]) ∧ Kd.R k51 51 w' w.heap.size (fun _ => True) v0_ r1 ∧ Below w.heap.size w w' := by
 have hu38 := Try.underlying38
 have hu33 := Try.underlying33
 have HB := Aside0.mk (Below.refl w.heap.size w)
 have H : ((word_May.f a0_0 a0_1).bind fun t267 => (if t267 = true then ((bytes_May.f a1 a2_0 a2_1 a2_2 a2_3).bind fun t268 => (if t268 = true then ((bytes_Spell.f k a0_0 a0_1 a1 a2_0 a2_1 a2_2 a2_3).bind fun t269 => (some (t269, 0))) else (some (([] : List (S51)), 1)))) else (some (([] : List (S51)), 1)))) = some (r1, r2) := h
 clear h
 replace H := Option.bind_eq_some_iff.mp H
 obtain ⟨t267, A40, H⟩ := H
 replace H : (if t267 = true then ((bytes_May.f a1 a2_0 a2_1 a2_2 a2_3).bind fun t268 => (if t268 = true then ((bytes_Spell.f k a0_0 a0_1 a1 a2_0 a2_1 a2_2 a2_3).bind fun t269 => (some (t269, 0))) else (some (([] : List (S51)), 1)))) else (some (([] : List (S51)), 1))) = some (r1, r2) := H
 have A4 := Aside0.mk A40
 clear A40
 by_cases c5 : t267 = true
 ·subst c5
  have H1 : ((bytes_May.f a1 a2_0 a2_1 a2_2 a2_3).bind fun t268 => (if t268 = true then ((bytes_Spell.f k a0_0 a0_1 a1 a2_0 a2_1 a2_2 a2_3).bind fun t269 => (some (t269, 0))) else (some (([] : List (S51)), 1)))) = some (r1, r2) := by rw [if_pos rfl] at H; exact H
  clear H
  have H := H1
  clear H1
  replace H := Option.bind_eq_some_iff.mp H
  obtain ⟨t268, A60, H⟩ := H
  replace H : (if t268 = true then ((bytes_Spell.f k a0_0 a0_1 a1 a2_0 a2_1 a2_2 a2_3).bind fun t269 => (some (t269, 0))) else (some (([] : List (S51)), 1))) = some (r1, r2) := H
  have A6 := Aside0.mk A60
  clear A60
  by_cases c7 : t268 = true
  rotate_left
  ·replace c7 := Bool.eq_false_iff.mpr c7
   subst c7
   have H1 : (some (([] : List (S51)), 1)) = some (r1, r2) := by rw [if_neg (show ¬ (false = true) by decide)] at H; exact H
   clear H
   have H := H1
   clear H1
   simp only [Option.some.injEq, Prod.mk.injEq] at H
   obtain ⟨rfl, rfl⟩ := H
   go_enter Try.func26, Try.ntmps26
   go_wp2_with (first | ((with_reducible refine gate_dst (N := 3) rfl ?_); refine zbox (N := 3) (cs := #[.bool a0_0, .int .i64 a0_1]) (t := 38) ?_; intro gb265 hg w19 hbox hb; have n0_ := Aside0.mk (below_step (zw0 HB.out) hb); have BK265 := Aside0.mk (hbox); have GW265 := Aside0.mk (zg hg (below_size (zw0 HB.out))); have GE265 := GW265; clear HB; have HB := n0_; clear n0_; clear hb hbox hg) | ((with_reducible refine gate_dst (N := 5) rfl ?_); refine zbox (N := 5) (cs := #[.bool a2_0, .int .i64 a2_1, .int .i64 a2_2, .int .i64 a2_3]) (t := 33) ?_; intro gb266 hg w20 hbox hb; have n0_ := Aside0.mk (zbb BK265.out hb); have n1_ := Aside0.mk (below_step (zw1 HB.out GE265.out) hb); have BK266 := Aside0.mk (hbox); have GW266 := Aside0.mk (zg hg (below_size (zw1 HB.out GE265.out))); have GE266 := GW266; have NB265_266 := Aside0.mk (zlt hg BK265.out); have NB266_265 := Aside0.mk (zgt hg BK265.out); clear BK265 HB; have BK265 := n0_; have HB := n1_; clear n0_ n1_; clear hb hbox hg; have hnb21 := NB265_266.out; have hnc21 := NB266_265.out; have hcz22_0 := zc BK265.out 0; have hcz22_1 := zc BK265.out 1; have hfz22_0 := blk_frozen BK265.out 0; have hfz22_1 := blk_frozen BK265.out 1) | ((with_reducible refine gate_callee (f := 34) rfl ?_); refine zgo (some 9) Try.func34 #[.agg #[.bool a0_0, .int .i64 a0_1]] ?_; (with_reducible refine (word_May.calls a0_0 a0_1 true _ A4.out).mono ?_); rintro e w23 ⟨rfl, hb⟩; refine ⟨_, rfl, ?_⟩; have n0_ := Aside0.mk (zbb BK265.out hb); have n1_ := Aside0.mk (zbb BK266.out hb); have n2_ := Aside0.mk (below_step (zw2 HB.out GE265.out GE266.out) hb); clear BK265 BK266 HB; have BK265 := n0_; have BK266 := n1_; have HB := n2_; clear n0_ n1_ n2_; (try clear hb); (try clear hb2); (try clear hk); (try clear hi); have hcz24_0 := zc BK266.out 0; have hcz24_1 := zc BK266.out 1; have hcz24_2 := zc BK266.out 2; have hcz24_3 := zc BK266.out 3; have hfz24_0 := blk_frozen BK266.out 0; have hfz24_1 := blk_frozen BK266.out 1; have hfz24_2 := blk_frozen BK266.out 2; have hfz24_3 := blk_frozen BK266.out 3) | (go_at_call 43; (with_reducible refine (bytes_May.calls a1 a2_0 a2_1 a2_2 a2_3 false _ A6.out).mono ?_); rintro e w25 ⟨rfl, hb⟩; have n0_ := Aside0.mk (zbb BK265.out hb); have n1_ := Aside0.mk (zbb BK266.out hb); have n2_ := Aside0.mk (below_step (zw2 HB.out GE265.out GE266.out) hb); clear BK265 BK266 HB; have BK265 := n0_; have BK266 := n1_; have HB := n2_; clear n0_ n1_ n2_; (try clear hb); (try clear hb2); (try clear hk); (try clear hi)))
   go_ret2
   exact ⟨_, ze, by first | exact Kd.R_nil _ _ _ _ _ | exact Kd.N_nil _ _ _ _ _ | exact Kd.V_nil _ _ _ _ _ | exact Kd.Q_nil _ _ _ _ _ | exact Kd.S_nil _ _ _ _ _, zw2 HB.out GE265.out GE266.out⟩
  subst c7
  have H1 : ((bytes_Spell.f k a0_0 a0_1 a1 a2_0 a2_1 a2_2 a2_3).bind fun t269 => (some (t269, 0))) = some (r1, r2) := by rw [if_pos rfl] at H; exact H
  clear H
  have H := H1
  clear H1
  replace H := Option.bind_eq_some_iff.mp H
  obtain ⟨t269, A80, H⟩ := H
  replace H : (some (t269, 0)) = some (r1, r2) := H
  have A8 := Aside0.mk A80
  clear A80
  simp only [Option.some.injEq, Prod.mk.injEq] at H
  obtain ⟨rfl, rfl⟩ := H
  go_enter Try.func26, Try.ntmps26
  go_wp2_with (first | ((with_reducible refine gate_dst (N := 3) rfl ?_); refine zbox (N := 3) (cs := #[.bool a0_0, .int .i64 a0_1]) (t := 38) ?_; intro gb265 hg w9 hbox hb; have n0_ := Aside0.mk (below_step (zw0 HB.out) hb); have BK265 := Aside0.mk (hbox); have GW265 := Aside0.mk (zg hg (below_size (zw0 HB.out))); have GE265 := GW265; clear HB; have HB := n0_; clear n0_; clear hb hbox hg) | ((with_reducible refine gate_dst (N := 5) rfl ?_); refine zbox (N := 5) (cs := #[.bool a2_0, .int .i64 a2_1, .int .i64 a2_2, .int .i64 a2_3]) (t := 33) ?_; intro gb266 hg w10 hbox hb; have n0_ := Aside0.mk (zbb BK265.out hb); have n1_ := Aside0.mk (below_step (zw1 HB.out GE265.out) hb); have BK266 := Aside0.mk (hbox); have GW266 := Aside0.mk (zg hg (below_size (zw1 HB.out GE265.out))); have GE266 := GW266; have NB265_266 := Aside0.mk (zlt hg BK265.out); have NB266_265 := Aside0.mk (zgt hg BK265.out); clear BK265 HB; have BK265 := n0_; have HB := n1_; clear n0_ n1_; clear hb hbox hg; have hnb11 := NB265_266.out; have hnc11 := NB266_265.out; have hcz12_0 := zc BK265.out 0; have hcz12_1 := zc BK265.out 1; have hfz12_0 := blk_frozen BK265.out 0; have hfz12_1 := blk_frozen BK265.out 1) | ((with_reducible refine gate_callee (f := 34) rfl ?_); refine zgo (some 9) Try.func34 #[.agg #[.bool a0_0, .int .i64 a0_1]] ?_; (with_reducible refine (word_May.calls a0_0 a0_1 true _ A4.out).mono ?_); rintro e w13 ⟨rfl, hb⟩; refine ⟨_, rfl, ?_⟩; have n0_ := Aside0.mk (zbb BK265.out hb); have n1_ := Aside0.mk (zbb BK266.out hb); have n2_ := Aside0.mk (below_step (zw2 HB.out GE265.out GE266.out) hb); clear BK265 BK266 HB; have BK265 := n0_; have BK266 := n1_; have HB := n2_; clear n0_ n1_ n2_; (try clear hb); (try clear hb2); (try clear hk); (try clear hi); have hcz14_0 := zc BK266.out 0; have hcz14_1 := zc BK266.out 1; have hcz14_2 := zc BK266.out 2; have hcz14_3 := zc BK266.out 3; have hfz14_0 := blk_frozen BK266.out 0; have hfz14_1 := blk_frozen BK266.out 1; have hfz14_2 := blk_frozen BK266.out 2; have hfz14_3 := blk_frozen BK266.out 3) | (go_at_call 43; (with_reducible refine (bytes_May.calls a1 a2_0 a2_1 a2_2 a2_3 true _ A6.out).mono ?_); rintro e w15 ⟨rfl, hb⟩; have n0_ := Aside0.mk (zbb BK265.out hb); have n1_ := Aside0.mk (zbb BK266.out hb); have n2_ := Aside0.mk (below_step (zw2 HB.out GE265.out GE266.out) hb); clear BK265 BK266 HB; have BK265 := n0_; have BK266 := n1_; have HB := n2_; clear n0_ n1_ n2_; (try clear hb); (try clear hb2); (try clear hk); (try clear hi); have hcz16_0 := zc BK265.out 0; have hcz16_1 := zc BK265.out 1; have hfz16_0 := blk_frozen BK265.out 0; have hfz16_1 := blk_frozen BK265.out 1; have hcz17_0 := zc BK266.out 0; have hcz17_1 := zc BK266.out 1; have hcz17_2 := zc BK266.out 2; have hcz17_3 := zc BK266.out 3; have hfz17_0 := blk_frozen BK266.out 0; have hfz17_1 := blk_frozen BK266.out 1; have hfz17_2 := blk_frozen BK266.out 2; have hfz17_3 := blk_frozen BK266.out 3) | ((with_reducible refine gate_callee (f := 44) rfl ?_); refine zgo (some 20) Try.func44 #[.agg #[.bool a0_0, .int .i64 a0_1], .int .i64 a1, .agg #[.bool a2_0, .int .i64 a2_1, .int .i64 a2_2, .int .i64 a2_3]] ?_; (with_reducible refine (bytes_Spell.calls k a0_0 a0_1 a1 a2_0 a2_1 a2_2 a2_3 t269 _ A8.out).mono ?_); rintro e w18 ⟨v270, rfl, ho0, hb⟩; refine ⟨_, rfl, ?_⟩; have HO271 := Aside0.mk (Kd.R_lower ho0 (below_size (zw2 HB.out GE265.out GE266.out))); have n1_ := Aside0.mk (zbb BK265.out hb); have n2_ := Aside0.mk (zbb BK266.out hb); have n3_ := Aside0.mk (below_step (zw2 HB.out GE265.out GE266.out) hb); clear BK265 BK266 HB; have BK265 := n1_; have BK266 := n2_; have HB := n3_; clear n1_ n2_ n3_; (try clear hb); (try clear hb2); (try clear hk); (try clear hi); (try clear ho0)))
  go_ret2
  exact ⟨_, ze, by (with_reducible repeat (first | apply Kd.R_alloc | apply Kd.R_drewN | apply Kd.R_drew)); exact HO271.out, zw2 HB.out GE265.out GE266.out⟩
 ·replace c5 := Bool.eq_false_iff.mpr c5
  subst c5
  have H1 : (some (([] : List (S51)), 1)) = some (r1, r2) := by rw [if_neg (show ¬ (false = true) by decide)] at H; exact H
  clear H
  have H := H1
  clear H1
  simp only [Option.some.injEq, Prod.mk.injEq] at H
  obtain ⟨rfl, rfl⟩ := H
  go_enter Try.func26, Try.ntmps26
  go_wp2_with (first | ((with_reducible refine gate_dst (N := 3) rfl ?_); refine zbox (N := 3) (cs := #[.bool a0_0, .int .i64 a0_1]) (t := 38) ?_; intro gb265 hg w26 hbox hb; have n0_ := Aside0.mk (below_step (zw0 HB.out) hb); have BK265 := Aside0.mk (hbox); have GW265 := Aside0.mk (zg hg (below_size (zw0 HB.out))); have GE265 := GW265; clear HB; have HB := n0_; clear n0_; clear hb hbox hg) | ((with_reducible refine gate_dst (N := 5) rfl ?_); refine zbox (N := 5) (cs := #[.bool a2_0, .int .i64 a2_1, .int .i64 a2_2, .int .i64 a2_3]) (t := 33) ?_; intro gb266 hg w27 hbox hb; have n0_ := Aside0.mk (zbb BK265.out hb); have n1_ := Aside0.mk (below_step (zw1 HB.out GE265.out) hb); have BK266 := Aside0.mk (hbox); have GW266 := Aside0.mk (zg hg (below_size (zw1 HB.out GE265.out))); have GE266 := GW266; have NB265_266 := Aside0.mk (zlt hg BK265.out); have NB266_265 := Aside0.mk (zgt hg BK265.out); clear BK265 HB; have BK265 := n0_; have HB := n1_; clear n0_ n1_; clear hb hbox hg; have hnb28 := NB265_266.out; have hnc28 := NB266_265.out; have hcz29_0 := zc BK265.out 0; have hcz29_1 := zc BK265.out 1; have hfz29_0 := blk_frozen BK265.out 0; have hfz29_1 := blk_frozen BK265.out 1) | ((with_reducible refine gate_callee (f := 34) rfl ?_); refine zgo (some 9) Try.func34 #[.agg #[.bool a0_0, .int .i64 a0_1]] ?_; (with_reducible refine (word_May.calls a0_0 a0_1 false _ A4.out).mono ?_); rintro e w30 ⟨rfl, hb⟩; refine ⟨_, rfl, ?_⟩; have n0_ := Aside0.mk (zbb BK265.out hb); have n1_ := Aside0.mk (zbb BK266.out hb); have n2_ := Aside0.mk (below_step (zw2 HB.out GE265.out GE266.out) hb); clear BK265 BK266 HB; have BK265 := n0_; have BK266 := n1_; have HB := n2_; clear n0_ n1_ n2_; (try clear hb); (try clear hb2); (try clear hk); (try clear hi)))
  go_ret2
  exact ⟨_, ze, by first | exact Kd.R_nil _ _ _ _ _ | exact Kd.N_nil _ _ _ _ _ | exact Kd.V_nil _ _ _ _ _ | exact Kd.Q_nil _ _ _ _ _ | exact Kd.S_nil _ _ _ _ _, zw2 HB.out GE265.out GE266.out⟩

/-! cellarlaw8_wakes -/
def cellarlaw8_wakes.f (k : Nat)  : Option (Bool) := (bytes_Put.f k true 4 3 false 258 0 0).bind fun bt272 => ((bytes_Get.f k true 4 3 bt272.1).bind fun bt276 => ((cellarlaw8_num.f bt272.2).bind fun t283 => (if t283 = 0 then ((cellarlaw8_num.f bt276.2.2.2.2.2).bind fun t284 => (if t284 = 0 then (if (bt272.1.length : Int) = 2 then (if 0 < (bt272.1.length : Int) then (if ((rd_T51 bt272.1 0).f1) = 1 then (if 1 < (bt272.1.length : Int) then (if ((rd_T51 bt272.1 1).f1) = 2 then (if bt276.2.1 = 258 then (some (bt276.2.2.2.2.1 == 0)) else (some false)) else (some false)) else (none)) else (some false)) else (none)) else (some false)) else (some false))) else (some false))))
theorem cellarlaw8_wakes.mono : ∀ k, LeO (cellarlaw8_wakes.f k ) (cellarlaw8_wakes.f (k + 1) ) := by
 intro  k
 unfold cellarlaw8_wakes.f
 repeat' first
   | (with_reducible apply bytes_Get.mono)
   | (with_reducible apply bytes_Put.mono)
   | (with_reducible apply LeO.refl)
   | (with_reducible apply LeO.none)
   | (with_reducible refine LeO.ite ?_ ?_)
   | (with_reducible refine LeO.bind ?_ (fun _ => ?_))
set_option maxHeartbeats 8000000 in
set_option maxRecDepth 100000 in
theorem cellarlaw8_wakes.calls (k : Nat)  (r : Bool) (w : World) (h : cellarlaw8_wakes.f k  = some r) :
  Calls Try.prog 25 #[] w fun e w' => e = .returned (.bool r) ∧ Below w.heap.size w w' := by
 have hu38 := Try.underlying38
 have hu33 := Try.underlying33
 have HB := Aside0.mk (Below.refl w.heap.size w)
 have H : ((bytes_Put.f k true 4 3 false 258 0 0).bind fun bt272 => ((bytes_Get.f k true 4 3 bt272.1).bind fun bt276 => ((cellarlaw8_num.f bt272.2).bind fun t283 => (if t283 = 0 then ((cellarlaw8_num.f bt276.2.2.2.2.2).bind fun t284 => (if t284 = 0 then (if (bt272.1.length : Int) = 2 then (if 0 < (bt272.1.length : Int) then (if ((rd_T51 bt272.1 0).f1) = 1 then (if 1 < (bt272.1.length : Int) then (if ((rd_T51 bt272.1 1).f1) = 2 then (if bt276.2.1 = 258 then (some (bt276.2.2.2.2.1 == 0)) else (some false)) else (some false)) else (none)) else (some false)) else (none)) else (some false)) else (some false))) else (some false))))) = some r := h
 clear h
 replace H := Option.bind_eq_some_iff.mp H
 obtain ⟨⟨t272, t275⟩, A10, H⟩ := H
 replace H : ((bytes_Get.f k true 4 3 t272).bind fun bt276 => ((cellarlaw8_num.f t275).bind fun t283 => (if t283 = 0 then ((cellarlaw8_num.f bt276.2.2.2.2.2).bind fun t284 => (if t284 = 0 then (if (t272.length : Int) = 2 then (if 0 < (t272.length : Int) then (if ((rd_T51 t272 0).f1) = 1 then (if 1 < (t272.length : Int) then (if ((rd_T51 t272 1).f1) = 2 then (if bt276.2.1 = 258 then (some (bt276.2.2.2.2.1 == 0)) else (some false)) else (some false)) else (none)) else (some false)) else (none)) else (some false)) else (some false))) else (some false)))) = some r := H
 have A1 := Aside0.mk A10
 clear A10
 replace H := Option.bind_eq_some_iff.mp H
 obtain ⟨⟨t276, t277, t278, t279, t280, t281⟩, A20, H⟩ := H
 replace H : ((cellarlaw8_num.f t275).bind fun t283 => (if t283 = 0 then ((cellarlaw8_num.f t281).bind fun t284 => (if t284 = 0 then (if (t272.length : Int) = 2 then (if 0 < (t272.length : Int) then (if ((rd_T51 t272 0).f1) = 1 then (if 1 < (t272.length : Int) then (if ((rd_T51 t272 1).f1) = 2 then (if t277 = 258 then (some (t280 == 0)) else (some false)) else (some false)) else (none)) else (some false)) else (none)) else (some false)) else (some false))) else (some false))) = some r := H
 have A2 := Aside0.mk A20
 clear A20
 replace H := Option.bind_eq_some_iff.mp H
 obtain ⟨t283, A30, H⟩ := H
 replace H : (if t283 = 0 then ((cellarlaw8_num.f t281).bind fun t284 => (if t284 = 0 then (if (t272.length : Int) = 2 then (if 0 < (t272.length : Int) then (if ((rd_T51 t272 0).f1) = 1 then (if 1 < (t272.length : Int) then (if ((rd_T51 t272 1).f1) = 2 then (if t277 = 258 then (some (t280 == 0)) else (some false)) else (some false)) else (none)) else (some false)) else (none)) else (some false)) else (some false))) else (some false)) = some r := H
 have A3 := Aside0.mk A30
 clear A30
 by_cases c4 : t283 = 0
 ·rw [if_pos c4] at H
  have c4b0 : (t283 == 0) = true := beq_iff_eq.mpr c4
  have c4b1 : (t283 != 0) = false := bne_eq_false_iff_eq.mpr c4
  clear c4
  replace H := Option.bind_eq_some_iff.mp H
  obtain ⟨t284, A50, H⟩ := H
  replace H : (if t284 = 0 then (if (t272.length : Int) = 2 then (if 0 < (t272.length : Int) then (if ((rd_T51 t272 0).f1) = 1 then (if 1 < (t272.length : Int) then (if ((rd_T51 t272 1).f1) = 2 then (if t277 = 258 then (some (t280 == 0)) else (some false)) else (some false)) else (none)) else (some false)) else (none)) else (some false)) else (some false)) = some r := H
  have A5 := Aside0.mk A50
  clear A50
  by_cases c6 : t284 = 0
  rotate_left
  ·rw [if_neg c6] at H
   have c6b0 : (t284 == 0) = false := beq_eq_false_iff_ne.mpr c6
   have c6b1 : (t284 != 0) = true := bne_iff_ne.mpr c6
   obtain rfl := Option.some.inj H
   go_enter Try.func25, Try.ntmps25
   go_wp2_with (first | ((with_reducible refine gate_callee (f := 26) rfl ?_); refine zgo (some 9) Try.func26 #[.agg #[.bool true, .int .i64 4], .int .i64 3, .agg #[.bool false, .int .i64 258, .int .i64 0, .int .i64 0]] ?_; (with_reducible refine (bytes_Put.calls k true 4 3 false 258 0 0 t272 t275 _ A1.out).mono ?_); rintro e w38 ⟨v273, rfl, ho0, hb⟩; refine ⟨_, rfl, ?_⟩; have HO274 := Aside0.mk (Kd.R_lower ho0 (below_size (zw0 HB.out))); have n1_ := Aside0.mk (below_step (zw0 HB.out) hb); clear HB; have HB := n1_; clear n1_; (try clear hb); (try clear hb2); (try clear hk); (try clear hi); (try clear ho0); obtain ⟨Ao39, co39, eo39⟩ := Kd.R_slice HO274.out; subst eo39) | ((with_reducible refine gate_callee (f := 17) rfl ?_); refine zgo (some 15) Try.func17 #[.agg #[.bool true, .int .i64 4], .int .i64 3, .slice Ao39 t272.length co39] ?_; (with_reducible refine (bytes_Get.calls k true 4 3 _ _ t272 t276 t277 t278 t279 t280 t281 _ ?side1 ?side2 A2.out).mono ?_); (case side1 => repeat (first | exact (Kd.R_reads' HO274.out).2.2 | (with_reducible refine Kd.C_alloc ?_ _) | (with_reducible refine Kd.C_drewN ?_ _) | (with_reducible refine Kd.C_drew ?_))); (case side2 => exact (Kd.R_reads' HO274.out).2.1); rintro e w40 ⟨rfl, hb⟩; refine ⟨_, rfl, ?_⟩; have n0_ := Aside0.mk (Kd.R_below (by (with_reducible repeat (first | apply Kd.R_alloc | apply Kd.R_drewN | apply Kd.R_drew)); exact HO274.out) hb); have n1_ := Aside0.mk (below_step (zw0 HB.out) hb); clear HO274 HB; have HO274 := n0_; have HB := n1_; clear n0_ n1_; (try clear hb); (try clear hb2); (try clear hk); (try clear hi)) | ((with_reducible refine gate_dst (N := 3) rfl ?_); (try (refine gate_guard (by rfl) ?_; dsimp only)); refine zbox (N := 3) (cs := #[.bool false, .int .i64 0, .int .i64 0, .int .i64 0]) (t := 33) ?_; intro gb282 hg w41 hbox hb; have n0_ := Aside0.mk (Kd.R_below (by (with_reducible repeat (first | apply Kd.R_alloc | apply Kd.R_drewN | apply Kd.R_drew)); exact HO274.out) hb); have n1_ := Aside0.mk (below_step (zw0 HB.out) hb); have BK282 := Aside0.mk (hbox); have GW282 := Aside0.mk (zg hg (below_size (zw0 HB.out))); have GE282 := GW282; clear HO274 HB; have HO274 := n0_; have HB := n1_; clear n0_ n1_; clear hb hbox hg; have hcz42_0 := zc BK282.out 0; have hcz42_1 := zc BK282.out 1; have hcz42_2 := zc BK282.out 2; have hcz42_3 := zc BK282.out 3; have hfz42_0 := blk_frozen BK282.out 0; have hfz42_1 := blk_frozen BK282.out 1; have hfz42_2 := blk_frozen BK282.out 2; have hfz42_3 := blk_frozen BK282.out 3) | ((with_reducible refine gate_callee (f := 23) rfl ?_); refine zgo (some 20) Try.func23 #[.int .i64 t275] ?_; (with_reducible refine (cellarlaw8_num.calls t275 t283 _ A3.out).mono ?_); rintro e w' ⟨rfl, ⟨nd, rfl⟩⟩; refine ⟨_, rfl, ?_⟩) | (go_at_call 23; (with_reducible refine (cellarlaw8_num.calls t281 t284 _ A5.out).mono ?_); rintro e w' ⟨rfl, ⟨nd, rfl⟩⟩))
   go_ret
   exact ⟨ze, zw1 HB.out GE282.out⟩
  rw [if_pos c6] at H
  have c6b0 : (t284 == 0) = true := beq_iff_eq.mpr c6
  have c6b1 : (t284 != 0) = false := bne_eq_false_iff_eq.mpr c6
  clear c6
  by_cases c7 : (t272.length : Int) = 2
  rotate_left
  ·rw [if_neg c7] at H
   have c7b0 : ((t272.length : Int) == 2) = false := beq_eq_false_iff_ne.mpr c7
   have c7b1 : ((t272.length : Int) != 2) = true := bne_iff_ne.mpr c7
   obtain rfl := Option.some.inj H
   go_enter Try.func25, Try.ntmps25
   go_wp2_with (first | ((with_reducible refine gate_callee (f := 26) rfl ?_); refine zgo (some 9) Try.func26 #[.agg #[.bool true, .int .i64 4], .int .i64 3, .agg #[.bool false, .int .i64 258, .int .i64 0, .int .i64 0]] ?_; (with_reducible refine (bytes_Put.calls k true 4 3 false 258 0 0 t272 t275 _ A1.out).mono ?_); rintro e w33 ⟨v273, rfl, ho0, hb⟩; refine ⟨_, rfl, ?_⟩; have HO274 := Aside0.mk (Kd.R_lower ho0 (below_size (zw0 HB.out))); have n1_ := Aside0.mk (below_step (zw0 HB.out) hb); clear HB; have HB := n1_; clear n1_; (try clear hb); (try clear hb2); (try clear hk); (try clear hi); (try clear ho0); obtain ⟨Ao34, co34, eo34⟩ := Kd.R_slice HO274.out; subst eo34) | ((with_reducible refine gate_callee (f := 17) rfl ?_); refine zgo (some 15) Try.func17 #[.agg #[.bool true, .int .i64 4], .int .i64 3, .slice Ao34 t272.length co34] ?_; (with_reducible refine (bytes_Get.calls k true 4 3 _ _ t272 t276 t277 t278 t279 t280 t281 _ ?side1 ?side2 A2.out).mono ?_); (case side1 => repeat (first | exact (Kd.R_reads' HO274.out).2.2 | (with_reducible refine Kd.C_alloc ?_ _) | (with_reducible refine Kd.C_drewN ?_ _) | (with_reducible refine Kd.C_drew ?_))); (case side2 => exact (Kd.R_reads' HO274.out).2.1); rintro e w35 ⟨rfl, hb⟩; refine ⟨_, rfl, ?_⟩; have n0_ := Aside0.mk (Kd.R_below (by (with_reducible repeat (first | apply Kd.R_alloc | apply Kd.R_drewN | apply Kd.R_drew)); exact HO274.out) hb); have n1_ := Aside0.mk (below_step (zw0 HB.out) hb); clear HO274 HB; have HO274 := n0_; have HB := n1_; clear n0_ n1_; (try clear hb); (try clear hb2); (try clear hk); (try clear hi)) | ((with_reducible refine gate_dst (N := 3) rfl ?_); (try (refine gate_guard (by rfl) ?_; dsimp only)); refine zbox (N := 3) (cs := #[.bool false, .int .i64 0, .int .i64 0, .int .i64 0]) (t := 33) ?_; intro gb282 hg w36 hbox hb; have n0_ := Aside0.mk (Kd.R_below (by (with_reducible repeat (first | apply Kd.R_alloc | apply Kd.R_drewN | apply Kd.R_drew)); exact HO274.out) hb); have n1_ := Aside0.mk (below_step (zw0 HB.out) hb); have BK282 := Aside0.mk (hbox); have GW282 := Aside0.mk (zg hg (below_size (zw0 HB.out))); have GE282 := GW282; clear HO274 HB; have HO274 := n0_; have HB := n1_; clear n0_ n1_; clear hb hbox hg; have hcz37_0 := zc BK282.out 0; have hcz37_1 := zc BK282.out 1; have hcz37_2 := zc BK282.out 2; have hcz37_3 := zc BK282.out 3; have hfz37_0 := blk_frozen BK282.out 0; have hfz37_1 := blk_frozen BK282.out 1; have hfz37_2 := blk_frozen BK282.out 2; have hfz37_3 := blk_frozen BK282.out 3) | ((with_reducible refine gate_callee (f := 23) rfl ?_); refine zgo (some 20) Try.func23 #[.int .i64 t275] ?_; (with_reducible refine (cellarlaw8_num.calls t275 t283 _ A3.out).mono ?_); rintro e w' ⟨rfl, ⟨nd, rfl⟩⟩; refine ⟨_, rfl, ?_⟩) | (go_at_call 23; (with_reducible refine (cellarlaw8_num.calls t281 t284 _ A5.out).mono ?_); rintro e w' ⟨rfl, ⟨nd, rfl⟩⟩))
   go_ret
   exact ⟨ze, zw1 HB.out GE282.out⟩
  rw [if_pos c7] at H
  have c7b0 : ((t272.length : Int) == 2) = true := beq_iff_eq.mpr c7
  have c7b1 : ((t272.length : Int) != 2) = false := bne_eq_false_iff_eq.mpr c7
  clear c7
  by_cases c8 : 0 < (t272.length : Int)
  rotate_left
  ·rw [if_neg c8] at H
   exact absurd H (by simp)
  rw [if_pos c8] at H
  have c8b0 : decide (0 < (t272.length : Int)) = true := decide_eq_true c8
  have c8b1 : decide (0 < t272.length) = true := decide_eq_true (by omega)
  clear c8
  by_cases c9 : ((rd_T51 t272 0).f1) = 1
  rotate_left
  ·rw [if_neg c9] at H
   have c9b0 : (((rd_T51 t272 0).f1) == 1) = false := beq_eq_false_iff_ne.mpr c9
   have c9b1 : (((rd_T51 t272 0).f1) != 1) = true := bne_iff_ne.mpr c9
   obtain rfl := Option.some.inj H
   go_enter Try.func25, Try.ntmps25
   go_wp2_with (first | ((with_reducible refine gate_callee (f := 26) rfl ?_); refine zgo (some 9) Try.func26 #[.agg #[.bool true, .int .i64 4], .int .i64 3, .agg #[.bool false, .int .i64 258, .int .i64 0, .int .i64 0]] ?_; (with_reducible refine (bytes_Put.calls k true 4 3 false 258 0 0 t272 t275 _ A1.out).mono ?_); rintro e w28 ⟨v273, rfl, ho0, hb⟩; refine ⟨_, rfl, ?_⟩; have HO274 := Aside0.mk (Kd.R_lower ho0 (below_size (zw0 HB.out))); have n1_ := Aside0.mk (below_step (zw0 HB.out) hb); clear HB; have HB := n1_; clear n1_; (try clear hb); (try clear hb2); (try clear hk); (try clear hi); (try clear ho0); obtain ⟨Ao29, co29, eo29⟩ := Kd.R_slice HO274.out; subst eo29) | ((with_reducible refine gate_callee (f := 17) rfl ?_); refine zgo (some 15) Try.func17 #[.agg #[.bool true, .int .i64 4], .int .i64 3, .slice Ao29 t272.length co29] ?_; (with_reducible refine (bytes_Get.calls k true 4 3 _ _ t272 t276 t277 t278 t279 t280 t281 _ ?side1 ?side2 A2.out).mono ?_); (case side1 => repeat (first | exact (Kd.R_reads' HO274.out).2.2 | (with_reducible refine Kd.C_alloc ?_ _) | (with_reducible refine Kd.C_drewN ?_ _) | (with_reducible refine Kd.C_drew ?_))); (case side2 => exact (Kd.R_reads' HO274.out).2.1); rintro e w30 ⟨rfl, hb⟩; refine ⟨_, rfl, ?_⟩; have n0_ := Aside0.mk (Kd.R_below (by (with_reducible repeat (first | apply Kd.R_alloc | apply Kd.R_drewN | apply Kd.R_drew)); exact HO274.out) hb); have n1_ := Aside0.mk (below_step (zw0 HB.out) hb); clear HO274 HB; have HO274 := n0_; have HB := n1_; clear n0_ n1_; (try clear hb); (try clear hb2); (try clear hk); (try clear hi)) | ((with_reducible refine gate_dst (N := 3) rfl ?_); (try (refine gate_guard (by rfl) ?_; dsimp only)); refine zbox (N := 3) (cs := #[.bool false, .int .i64 0, .int .i64 0, .int .i64 0]) (t := 33) ?_; intro gb282 hg w31 hbox hb; have n0_ := Aside0.mk (Kd.R_below (by (with_reducible repeat (first | apply Kd.R_alloc | apply Kd.R_drewN | apply Kd.R_drew)); exact HO274.out) hb); have n1_ := Aside0.mk (below_step (zw0 HB.out) hb); have BK282 := Aside0.mk (hbox); have GW282 := Aside0.mk (zg hg (below_size (zw0 HB.out))); have GE282 := GW282; clear HO274 HB; have HO274 := n0_; have HB := n1_; clear n0_ n1_; clear hb hbox hg; have hcz32_0 := zc BK282.out 0; have hcz32_1 := zc BK282.out 1; have hcz32_2 := zc BK282.out 2; have hcz32_3 := zc BK282.out 3; have hfz32_0 := blk_frozen BK282.out 0; have hfz32_1 := blk_frozen BK282.out 1; have hfz32_2 := blk_frozen BK282.out 2; have hfz32_3 := blk_frozen BK282.out 3) | ((with_reducible refine gate_callee (f := 23) rfl ?_); refine zgo (some 20) Try.func23 #[.int .i64 t275] ?_; (with_reducible refine (cellarlaw8_num.calls t275 t283 _ A3.out).mono ?_); rintro e w' ⟨rfl, ⟨nd, rfl⟩⟩; refine ⟨_, rfl, ?_⟩) | (go_at_call 23; (with_reducible refine (cellarlaw8_num.calls t281 t284 _ A5.out).mono ?_); rintro e w' ⟨rfl, ⟨nd, rfl⟩⟩; have p285 : 0 ≤ (0 : Int) := (by omega); have q285 : 0 < (t272.length : Int) := zdec; obtain ⟨ad285, e285, hx285_0, hx285_1, hx285_2, hx285_3, hx285_4⟩ := at_T51 (Kd.R_reads' HO274.out).2.2 0 p285 q285; cases e285; have qi285 : (0 < t272.length) = True := eq_true (by omega); (try rw [show ((0 : Int)).toNat = 0 from rfl] at hx285_0); (try rw [show 0 * 5 = 0 from rfl] at hx285_0); (try rw [Addr.add_zero'] at hx285_0); (try rw [show ((0 : Int)).toNat = 0 from rfl] at hx285_1); (try rw [show 0 * 5 = 0 from rfl] at hx285_1); (try rw [Addr.add_zero'] at hx285_1); (try rw [show ((0 : Int)).toNat = 0 from rfl] at hx285_2); (try rw [show 0 * 5 = 0 from rfl] at hx285_2); (try rw [Addr.add_zero'] at hx285_2); (try rw [show ((0 : Int)).toNat = 0 from rfl] at hx285_3); (try rw [show 0 * 5 = 0 from rfl] at hx285_3); (try rw [Addr.add_zero'] at hx285_3); (try rw [show ((0 : Int)).toNat = 0 from rfl] at hx285_4); (try rw [show 0 * 5 = 0 from rfl] at hx285_4); (try rw [Addr.add_zero'] at hx285_4); have hn285_0 : ad285.block ≠ gb282 := Kd.own_blk (Kd.R_ne HO274.out BK282.out (by decide)); have hn285_1 : ad285.block ≠ gb282 := Kd.own_blk (Kd.R_ne HO274.out BK282.out (by decide)); have hn285_2 : ad285.block ≠ gb282 := Kd.own_blk (Kd.R_ne HO274.out BK282.out (by decide)); have hn285_3 : ad285.block ≠ gb282 := Kd.own_blk (Kd.R_ne HO274.out BK282.out (by decide)); replace hx285_0 := (cell_far (p := ⟨gb282, 0, none⟩) (zy hn285_0) (.bool t276)).trans hx285_0; replace hx285_1 := (cell_far (p := ⟨gb282, 0, none⟩) (zy hn285_0) (.bool t276)).trans hx285_1; replace hx285_2 := (cell_far (p := ⟨gb282, 0, none⟩) (zy hn285_0) (.bool t276)).trans hx285_2; replace hx285_3 := (cell_far (p := ⟨gb282, 0, none⟩) (zy hn285_0) (.bool t276)).trans hx285_3; replace hx285_4 := (cell_far (p := ⟨gb282, 0, none⟩) (zy hn285_0) (.bool t276)).trans hx285_4; replace hx285_0 := (cell_far (p := ⟨gb282, 1, none⟩) (zy hn285_1) (.int .i64 t277)).trans hx285_0; replace hx285_1 := (cell_far (p := ⟨gb282, 1, none⟩) (zy hn285_1) (.int .i64 t277)).trans hx285_1; replace hx285_2 := (cell_far (p := ⟨gb282, 1, none⟩) (zy hn285_1) (.int .i64 t277)).trans hx285_2; replace hx285_3 := (cell_far (p := ⟨gb282, 1, none⟩) (zy hn285_1) (.int .i64 t277)).trans hx285_3; replace hx285_4 := (cell_far (p := ⟨gb282, 1, none⟩) (zy hn285_1) (.int .i64 t277)).trans hx285_4; replace hx285_0 := (cell_far (p := ⟨gb282, 2, none⟩) (zy hn285_2) (.int .i64 t278)).trans hx285_0; replace hx285_1 := (cell_far (p := ⟨gb282, 2, none⟩) (zy hn285_2) (.int .i64 t278)).trans hx285_1; replace hx285_2 := (cell_far (p := ⟨gb282, 2, none⟩) (zy hn285_2) (.int .i64 t278)).trans hx285_2; replace hx285_3 := (cell_far (p := ⟨gb282, 2, none⟩) (zy hn285_2) (.int .i64 t278)).trans hx285_3; replace hx285_4 := (cell_far (p := ⟨gb282, 2, none⟩) (zy hn285_2) (.int .i64 t278)).trans hx285_4; replace hx285_0 := (cell_far (p := ⟨gb282, 3, none⟩) (zy hn285_3) (.int .i64 t279)).trans hx285_0; replace hx285_1 := (cell_far (p := ⟨gb282, 3, none⟩) (zy hn285_3) (.int .i64 t279)).trans hx285_1; replace hx285_2 := (cell_far (p := ⟨gb282, 3, none⟩) (zy hn285_3) (.int .i64 t279)).trans hx285_2; replace hx285_3 := (cell_far (p := ⟨gb282, 3, none⟩) (zy hn285_3) (.int .i64 t279)).trans hx285_3; replace hx285_4 := (cell_far (p := ⟨gb282, 3, none⟩) (zy hn285_3) (.int .i64 t279)).trans hx285_4; clear hn285_0; clear hn285_1; clear hn285_2; clear hn285_3; replace p285 := eq_true p285; replace q285 := eq_true q285))
   go_ret
   exact ⟨ze, zw1 HB.out GE282.out⟩
  rw [if_pos c9] at H
  have c9b0 : (((rd_T51 t272 0).f1) == 1) = true := beq_iff_eq.mpr c9
  have c9b1 : (((rd_T51 t272 0).f1) != 1) = false := bne_eq_false_iff_eq.mpr c9
  clear c9
  by_cases c10 : 1 < (t272.length : Int)
  rotate_left
  ·rw [if_neg c10] at H
   exact absurd H (by simp)
  rw [if_pos c10] at H
  have c10b0 : decide (1 < (t272.length : Int)) = true := decide_eq_true c10
  have c10b1 : decide (1 < t272.length) = true := decide_eq_true (by omega)
  clear c10
  by_cases c11 : ((rd_T51 t272 1).f1) = 2
  rotate_left
  ·rw [if_neg c11] at H
   have c11b0 : (((rd_T51 t272 1).f1) == 2) = false := beq_eq_false_iff_ne.mpr c11
   have c11b1 : (((rd_T51 t272 1).f1) != 2) = true := bne_iff_ne.mpr c11
   obtain rfl := Option.some.inj H
   go_enter Try.func25, Try.ntmps25
   go_wp2_with (first | ((with_reducible refine gate_callee (f := 26) rfl ?_); refine zgo (some 9) Try.func26 #[.agg #[.bool true, .int .i64 4], .int .i64 3, .agg #[.bool false, .int .i64 258, .int .i64 0, .int .i64 0]] ?_; (with_reducible refine (bytes_Put.calls k true 4 3 false 258 0 0 t272 t275 _ A1.out).mono ?_); rintro e w23 ⟨v273, rfl, ho0, hb⟩; refine ⟨_, rfl, ?_⟩; have HO274 := Aside0.mk (Kd.R_lower ho0 (below_size (zw0 HB.out))); have n1_ := Aside0.mk (below_step (zw0 HB.out) hb); clear HB; have HB := n1_; clear n1_; (try clear hb); (try clear hb2); (try clear hk); (try clear hi); (try clear ho0); obtain ⟨Ao24, co24, eo24⟩ := Kd.R_slice HO274.out; subst eo24) | ((with_reducible refine gate_callee (f := 17) rfl ?_); refine zgo (some 15) Try.func17 #[.agg #[.bool true, .int .i64 4], .int .i64 3, .slice Ao24 t272.length co24] ?_; (with_reducible refine (bytes_Get.calls k true 4 3 _ _ t272 t276 t277 t278 t279 t280 t281 _ ?side1 ?side2 A2.out).mono ?_); (case side1 => repeat (first | exact (Kd.R_reads' HO274.out).2.2 | (with_reducible refine Kd.C_alloc ?_ _) | (with_reducible refine Kd.C_drewN ?_ _) | (with_reducible refine Kd.C_drew ?_))); (case side2 => exact (Kd.R_reads' HO274.out).2.1); rintro e w25 ⟨rfl, hb⟩; refine ⟨_, rfl, ?_⟩; have n0_ := Aside0.mk (Kd.R_below (by (with_reducible repeat (first | apply Kd.R_alloc | apply Kd.R_drewN | apply Kd.R_drew)); exact HO274.out) hb); have n1_ := Aside0.mk (below_step (zw0 HB.out) hb); clear HO274 HB; have HO274 := n0_; have HB := n1_; clear n0_ n1_; (try clear hb); (try clear hb2); (try clear hk); (try clear hi)) | ((with_reducible refine gate_dst (N := 3) rfl ?_); (try (refine gate_guard (by rfl) ?_; dsimp only)); refine zbox (N := 3) (cs := #[.bool false, .int .i64 0, .int .i64 0, .int .i64 0]) (t := 33) ?_; intro gb282 hg w26 hbox hb; have n0_ := Aside0.mk (Kd.R_below (by (with_reducible repeat (first | apply Kd.R_alloc | apply Kd.R_drewN | apply Kd.R_drew)); exact HO274.out) hb); have n1_ := Aside0.mk (below_step (zw0 HB.out) hb); have BK282 := Aside0.mk (hbox); have GW282 := Aside0.mk (zg hg (below_size (zw0 HB.out))); have GE282 := GW282; clear HO274 HB; have HO274 := n0_; have HB := n1_; clear n0_ n1_; clear hb hbox hg; have hcz27_0 := zc BK282.out 0; have hcz27_1 := zc BK282.out 1; have hcz27_2 := zc BK282.out 2; have hcz27_3 := zc BK282.out 3; have hfz27_0 := blk_frozen BK282.out 0; have hfz27_1 := blk_frozen BK282.out 1; have hfz27_2 := blk_frozen BK282.out 2; have hfz27_3 := blk_frozen BK282.out 3) | ((with_reducible refine gate_callee (f := 23) rfl ?_); refine zgo (some 20) Try.func23 #[.int .i64 t275] ?_; (with_reducible refine (cellarlaw8_num.calls t275 t283 _ A3.out).mono ?_); rintro e w' ⟨rfl, ⟨nd, rfl⟩⟩; refine ⟨_, rfl, ?_⟩) | (go_at_call 23; (with_reducible refine (cellarlaw8_num.calls t281 t284 _ A5.out).mono ?_); rintro e w' ⟨rfl, ⟨nd, rfl⟩⟩; have p285 : 0 ≤ (0 : Int) := (by omega); have q285 : 0 < (t272.length : Int) := zdec; obtain ⟨ad285, e285, hx285_0, hx285_1, hx285_2, hx285_3, hx285_4⟩ := at_T51 (Kd.R_reads' HO274.out).2.2 0 p285 q285; cases e285; have qi285 : (0 < t272.length) = True := eq_true (by omega); (try rw [show ((0 : Int)).toNat = 0 from rfl] at hx285_0); (try rw [show 0 * 5 = 0 from rfl] at hx285_0); (try rw [Addr.add_zero'] at hx285_0); (try rw [show ((0 : Int)).toNat = 0 from rfl] at hx285_1); (try rw [show 0 * 5 = 0 from rfl] at hx285_1); (try rw [Addr.add_zero'] at hx285_1); (try rw [show ((0 : Int)).toNat = 0 from rfl] at hx285_2); (try rw [show 0 * 5 = 0 from rfl] at hx285_2); (try rw [Addr.add_zero'] at hx285_2); (try rw [show ((0 : Int)).toNat = 0 from rfl] at hx285_3); (try rw [show 0 * 5 = 0 from rfl] at hx285_3); (try rw [Addr.add_zero'] at hx285_3); (try rw [show ((0 : Int)).toNat = 0 from rfl] at hx285_4); (try rw [show 0 * 5 = 0 from rfl] at hx285_4); (try rw [Addr.add_zero'] at hx285_4); have hn285_0 : ad285.block ≠ gb282 := Kd.own_blk (Kd.R_ne HO274.out BK282.out (by decide)); have hn285_1 : ad285.block ≠ gb282 := Kd.own_blk (Kd.R_ne HO274.out BK282.out (by decide)); have hn285_2 : ad285.block ≠ gb282 := Kd.own_blk (Kd.R_ne HO274.out BK282.out (by decide)); have hn285_3 : ad285.block ≠ gb282 := Kd.own_blk (Kd.R_ne HO274.out BK282.out (by decide)); replace hx285_0 := (cell_far (p := ⟨gb282, 0, none⟩) (zy hn285_0) (.bool t276)).trans hx285_0; replace hx285_1 := (cell_far (p := ⟨gb282, 0, none⟩) (zy hn285_0) (.bool t276)).trans hx285_1; replace hx285_2 := (cell_far (p := ⟨gb282, 0, none⟩) (zy hn285_0) (.bool t276)).trans hx285_2; replace hx285_3 := (cell_far (p := ⟨gb282, 0, none⟩) (zy hn285_0) (.bool t276)).trans hx285_3; replace hx285_4 := (cell_far (p := ⟨gb282, 0, none⟩) (zy hn285_0) (.bool t276)).trans hx285_4; replace hx285_0 := (cell_far (p := ⟨gb282, 1, none⟩) (zy hn285_1) (.int .i64 t277)).trans hx285_0; replace hx285_1 := (cell_far (p := ⟨gb282, 1, none⟩) (zy hn285_1) (.int .i64 t277)).trans hx285_1; replace hx285_2 := (cell_far (p := ⟨gb282, 1, none⟩) (zy hn285_1) (.int .i64 t277)).trans hx285_2; replace hx285_3 := (cell_far (p := ⟨gb282, 1, none⟩) (zy hn285_1) (.int .i64 t277)).trans hx285_3; replace hx285_4 := (cell_far (p := ⟨gb282, 1, none⟩) (zy hn285_1) (.int .i64 t277)).trans hx285_4; replace hx285_0 := (cell_far (p := ⟨gb282, 2, none⟩) (zy hn285_2) (.int .i64 t278)).trans hx285_0; replace hx285_1 := (cell_far (p := ⟨gb282, 2, none⟩) (zy hn285_2) (.int .i64 t278)).trans hx285_1; replace hx285_2 := (cell_far (p := ⟨gb282, 2, none⟩) (zy hn285_2) (.int .i64 t278)).trans hx285_2; replace hx285_3 := (cell_far (p := ⟨gb282, 2, none⟩) (zy hn285_2) (.int .i64 t278)).trans hx285_3; replace hx285_4 := (cell_far (p := ⟨gb282, 2, none⟩) (zy hn285_2) (.int .i64 t278)).trans hx285_4; replace hx285_0 := (cell_far (p := ⟨gb282, 3, none⟩) (zy hn285_3) (.int .i64 t279)).trans hx285_0; replace hx285_1 := (cell_far (p := ⟨gb282, 3, none⟩) (zy hn285_3) (.int .i64 t279)).trans hx285_1; replace hx285_2 := (cell_far (p := ⟨gb282, 3, none⟩) (zy hn285_3) (.int .i64 t279)).trans hx285_2; replace hx285_3 := (cell_far (p := ⟨gb282, 3, none⟩) (zy hn285_3) (.int .i64 t279)).trans hx285_3; replace hx285_4 := (cell_far (p := ⟨gb282, 3, none⟩) (zy hn285_3) (.int .i64 t279)).trans hx285_4; clear hn285_0; clear hn285_1; clear hn285_2; clear hn285_3; replace p285 := eq_true p285; replace q285 := eq_true q285; have p286 : 0 ≤ (1 : Int) := (by omega); have q286 : 1 < (t272.length : Int) := zdec; obtain ⟨ad286, e286, hx286_0, hx286_1, hx286_2, hx286_3, hx286_4⟩ := at_T51 (Kd.R_reads' HO274.out).2.2 1 p286 q286; obtain rfl : ad285 = ad286 := (by injection e286); (try simp only [show (1 : Int).toNat = 1 from rfl, Nat.reduceMul, Nat.reduceEqDiff, Go.Addr.add, ↓reduceIte] at hx286_0); (try simp only [show (1 : Int).toNat = 1 from rfl, Nat.reduceMul, Nat.reduceEqDiff, Go.Addr.add, ↓reduceIte] at hx286_1); (try simp only [show (1 : Int).toNat = 1 from rfl, Nat.reduceMul, Nat.reduceEqDiff, Go.Addr.add, ↓reduceIte] at hx286_2); (try simp only [show (1 : Int).toNat = 1 from rfl, Nat.reduceMul, Nat.reduceEqDiff, Go.Addr.add, ↓reduceIte] at hx286_3); (try simp only [show (1 : Int).toNat = 1 from rfl, Nat.reduceMul, Nat.reduceEqDiff, Go.Addr.add, ↓reduceIte] at hx286_4); have qi286 : (1 < t272.length) = True := eq_true (by omega); (try rw [show ((1 : Int)).toNat = 1 from rfl] at hx286_0); (try rw [show 1 * 5 = 5 from rfl] at hx286_0); (try rw [show ((1 : Int)).toNat = 1 from rfl] at hx286_1); (try rw [show 1 * 5 = 5 from rfl] at hx286_1); (try rw [show ((1 : Int)).toNat = 1 from rfl] at hx286_2); (try rw [show 1 * 5 = 5 from rfl] at hx286_2); (try rw [show ((1 : Int)).toNat = 1 from rfl] at hx286_3); (try rw [show 1 * 5 = 5 from rfl] at hx286_3); (try rw [show ((1 : Int)).toNat = 1 from rfl] at hx286_4); (try rw [show 1 * 5 = 5 from rfl] at hx286_4); have hn286_0 : ad285.block ≠ gb282 := Kd.own_blk (Kd.R_ne HO274.out BK282.out (by decide)); have hn286_1 : ad285.block ≠ gb282 := Kd.own_blk (Kd.R_ne HO274.out BK282.out (by decide)); have hn286_2 : ad285.block ≠ gb282 := Kd.own_blk (Kd.R_ne HO274.out BK282.out (by decide)); have hn286_3 : ad285.block ≠ gb282 := Kd.own_blk (Kd.R_ne HO274.out BK282.out (by decide)); replace hx286_0 := (cell_far (p := ⟨gb282, 0, none⟩) (zy hn286_0) (.bool t276)).trans hx286_0; replace hx286_1 := (cell_far (p := ⟨gb282, 0, none⟩) (zy hn286_0) (.bool t276)).trans hx286_1; replace hx286_2 := (cell_far (p := ⟨gb282, 0, none⟩) (zy hn286_0) (.bool t276)).trans hx286_2; replace hx286_3 := (cell_far (p := ⟨gb282, 0, none⟩) (zy hn286_0) (.bool t276)).trans hx286_3; replace hx286_4 := (cell_far (p := ⟨gb282, 0, none⟩) (zy hn286_0) (.bool t276)).trans hx286_4; replace hx286_0 := (cell_far (p := ⟨gb282, 1, none⟩) (zy hn286_1) (.int .i64 t277)).trans hx286_0; replace hx286_1 := (cell_far (p := ⟨gb282, 1, none⟩) (zy hn286_1) (.int .i64 t277)).trans hx286_1; replace hx286_2 := (cell_far (p := ⟨gb282, 1, none⟩) (zy hn286_1) (.int .i64 t277)).trans hx286_2; replace hx286_3 := (cell_far (p := ⟨gb282, 1, none⟩) (zy hn286_1) (.int .i64 t277)).trans hx286_3; replace hx286_4 := (cell_far (p := ⟨gb282, 1, none⟩) (zy hn286_1) (.int .i64 t277)).trans hx286_4; replace hx286_0 := (cell_far (p := ⟨gb282, 2, none⟩) (zy hn286_2) (.int .i64 t278)).trans hx286_0; replace hx286_1 := (cell_far (p := ⟨gb282, 2, none⟩) (zy hn286_2) (.int .i64 t278)).trans hx286_1; replace hx286_2 := (cell_far (p := ⟨gb282, 2, none⟩) (zy hn286_2) (.int .i64 t278)).trans hx286_2; replace hx286_3 := (cell_far (p := ⟨gb282, 2, none⟩) (zy hn286_2) (.int .i64 t278)).trans hx286_3; replace hx286_4 := (cell_far (p := ⟨gb282, 2, none⟩) (zy hn286_2) (.int .i64 t278)).trans hx286_4; replace hx286_0 := (cell_far (p := ⟨gb282, 3, none⟩) (zy hn286_3) (.int .i64 t279)).trans hx286_0; replace hx286_1 := (cell_far (p := ⟨gb282, 3, none⟩) (zy hn286_3) (.int .i64 t279)).trans hx286_1; replace hx286_2 := (cell_far (p := ⟨gb282, 3, none⟩) (zy hn286_3) (.int .i64 t279)).trans hx286_2; replace hx286_3 := (cell_far (p := ⟨gb282, 3, none⟩) (zy hn286_3) (.int .i64 t279)).trans hx286_3; replace hx286_4 := (cell_far (p := ⟨gb282, 3, none⟩) (zy hn286_3) (.int .i64 t279)).trans hx286_4; clear hn286_0; clear hn286_1; clear hn286_2; clear hn286_3; replace p286 := eq_true p286; replace q286 := eq_true q286))
   go_ret
   exact ⟨ze, zw1 HB.out GE282.out⟩
  rw [if_pos c11] at H
  have c11b0 : (((rd_T51 t272 1).f1) == 2) = true := beq_iff_eq.mpr c11
  have c11b1 : (((rd_T51 t272 1).f1) != 2) = false := bne_eq_false_iff_eq.mpr c11
  clear c11
  by_cases c12 : t277 = 258
  rotate_left
  ·rw [if_neg c12] at H
   have c12b0 : (t277 == 258) = false := beq_eq_false_iff_ne.mpr c12
   have c12b1 : (t277 != 258) = true := bne_iff_ne.mpr c12
   obtain rfl := Option.some.inj H
   go_enter Try.func25, Try.ntmps25
   go_wp2_with (first | ((with_reducible refine gate_callee (f := 26) rfl ?_); refine zgo (some 9) Try.func26 #[.agg #[.bool true, .int .i64 4], .int .i64 3, .agg #[.bool false, .int .i64 258, .int .i64 0, .int .i64 0]] ?_; (with_reducible refine (bytes_Put.calls k true 4 3 false 258 0 0 t272 t275 _ A1.out).mono ?_); rintro e w18 ⟨v273, rfl, ho0, hb⟩; refine ⟨_, rfl, ?_⟩; have HO274 := Aside0.mk (Kd.R_lower ho0 (below_size (zw0 HB.out))); have n1_ := Aside0.mk (below_step (zw0 HB.out) hb); clear HB; have HB := n1_; clear n1_; (try clear hb); (try clear hb2); (try clear hk); (try clear hi); (try clear ho0); obtain ⟨Ao19, co19, eo19⟩ := Kd.R_slice HO274.out; subst eo19) | ((with_reducible refine gate_callee (f := 17) rfl ?_); refine zgo (some 15) Try.func17 #[.agg #[.bool true, .int .i64 4], .int .i64 3, .slice Ao19 t272.length co19] ?_; (with_reducible refine (bytes_Get.calls k true 4 3 _ _ t272 t276 t277 t278 t279 t280 t281 _ ?side1 ?side2 A2.out).mono ?_); (case side1 => repeat (first | exact (Kd.R_reads' HO274.out).2.2 | (with_reducible refine Kd.C_alloc ?_ _) | (with_reducible refine Kd.C_drewN ?_ _) | (with_reducible refine Kd.C_drew ?_))); (case side2 => exact (Kd.R_reads' HO274.out).2.1); rintro e w20 ⟨rfl, hb⟩; refine ⟨_, rfl, ?_⟩; have n0_ := Aside0.mk (Kd.R_below (by (with_reducible repeat (first | apply Kd.R_alloc | apply Kd.R_drewN | apply Kd.R_drew)); exact HO274.out) hb); have n1_ := Aside0.mk (below_step (zw0 HB.out) hb); clear HO274 HB; have HO274 := n0_; have HB := n1_; clear n0_ n1_; (try clear hb); (try clear hb2); (try clear hk); (try clear hi)) | ((with_reducible refine gate_dst (N := 3) rfl ?_); (try (refine gate_guard (by rfl) ?_; dsimp only)); refine zbox (N := 3) (cs := #[.bool false, .int .i64 0, .int .i64 0, .int .i64 0]) (t := 33) ?_; intro gb282 hg w21 hbox hb; have n0_ := Aside0.mk (Kd.R_below (by (with_reducible repeat (first | apply Kd.R_alloc | apply Kd.R_drewN | apply Kd.R_drew)); exact HO274.out) hb); have n1_ := Aside0.mk (below_step (zw0 HB.out) hb); have BK282 := Aside0.mk (hbox); have GW282 := Aside0.mk (zg hg (below_size (zw0 HB.out))); have GE282 := GW282; clear HO274 HB; have HO274 := n0_; have HB := n1_; clear n0_ n1_; clear hb hbox hg; have hcz22_0 := zc BK282.out 0; have hcz22_1 := zc BK282.out 1; have hcz22_2 := zc BK282.out 2; have hcz22_3 := zc BK282.out 3; have hfz22_0 := blk_frozen BK282.out 0; have hfz22_1 := blk_frozen BK282.out 1; have hfz22_2 := blk_frozen BK282.out 2; have hfz22_3 := blk_frozen BK282.out 3) | ((with_reducible refine gate_callee (f := 23) rfl ?_); refine zgo (some 20) Try.func23 #[.int .i64 t275] ?_; (with_reducible refine (cellarlaw8_num.calls t275 t283 _ A3.out).mono ?_); rintro e w' ⟨rfl, ⟨nd, rfl⟩⟩; refine ⟨_, rfl, ?_⟩) | (go_at_call 23; (with_reducible refine (cellarlaw8_num.calls t281 t284 _ A5.out).mono ?_); rintro e w' ⟨rfl, ⟨nd, rfl⟩⟩; have p285 : 0 ≤ (0 : Int) := (by omega); have q285 : 0 < (t272.length : Int) := zdec; obtain ⟨ad285, e285, hx285_0, hx285_1, hx285_2, hx285_3, hx285_4⟩ := at_T51 (Kd.R_reads' HO274.out).2.2 0 p285 q285; cases e285; have qi285 : (0 < t272.length) = True := eq_true (by omega); (try rw [show ((0 : Int)).toNat = 0 from rfl] at hx285_0); (try rw [show 0 * 5 = 0 from rfl] at hx285_0); (try rw [Addr.add_zero'] at hx285_0); (try rw [show ((0 : Int)).toNat = 0 from rfl] at hx285_1); (try rw [show 0 * 5 = 0 from rfl] at hx285_1); (try rw [Addr.add_zero'] at hx285_1); (try rw [show ((0 : Int)).toNat = 0 from rfl] at hx285_2); (try rw [show 0 * 5 = 0 from rfl] at hx285_2); (try rw [Addr.add_zero'] at hx285_2); (try rw [show ((0 : Int)).toNat = 0 from rfl] at hx285_3); (try rw [show 0 * 5 = 0 from rfl] at hx285_3); (try rw [Addr.add_zero'] at hx285_3); (try rw [show ((0 : Int)).toNat = 0 from rfl] at hx285_4); (try rw [show 0 * 5 = 0 from rfl] at hx285_4); (try rw [Addr.add_zero'] at hx285_4); have hn285_0 : ad285.block ≠ gb282 := Kd.own_blk (Kd.R_ne HO274.out BK282.out (by decide)); have hn285_1 : ad285.block ≠ gb282 := Kd.own_blk (Kd.R_ne HO274.out BK282.out (by decide)); have hn285_2 : ad285.block ≠ gb282 := Kd.own_blk (Kd.R_ne HO274.out BK282.out (by decide)); have hn285_3 : ad285.block ≠ gb282 := Kd.own_blk (Kd.R_ne HO274.out BK282.out (by decide)); replace hx285_0 := (cell_far (p := ⟨gb282, 0, none⟩) (zy hn285_0) (.bool t276)).trans hx285_0; replace hx285_1 := (cell_far (p := ⟨gb282, 0, none⟩) (zy hn285_0) (.bool t276)).trans hx285_1; replace hx285_2 := (cell_far (p := ⟨gb282, 0, none⟩) (zy hn285_0) (.bool t276)).trans hx285_2; replace hx285_3 := (cell_far (p := ⟨gb282, 0, none⟩) (zy hn285_0) (.bool t276)).trans hx285_3; replace hx285_4 := (cell_far (p := ⟨gb282, 0, none⟩) (zy hn285_0) (.bool t276)).trans hx285_4; replace hx285_0 := (cell_far (p := ⟨gb282, 1, none⟩) (zy hn285_1) (.int .i64 t277)).trans hx285_0; replace hx285_1 := (cell_far (p := ⟨gb282, 1, none⟩) (zy hn285_1) (.int .i64 t277)).trans hx285_1; replace hx285_2 := (cell_far (p := ⟨gb282, 1, none⟩) (zy hn285_1) (.int .i64 t277)).trans hx285_2; replace hx285_3 := (cell_far (p := ⟨gb282, 1, none⟩) (zy hn285_1) (.int .i64 t277)).trans hx285_3; replace hx285_4 := (cell_far (p := ⟨gb282, 1, none⟩) (zy hn285_1) (.int .i64 t277)).trans hx285_4; replace hx285_0 := (cell_far (p := ⟨gb282, 2, none⟩) (zy hn285_2) (.int .i64 t278)).trans hx285_0; replace hx285_1 := (cell_far (p := ⟨gb282, 2, none⟩) (zy hn285_2) (.int .i64 t278)).trans hx285_1; replace hx285_2 := (cell_far (p := ⟨gb282, 2, none⟩) (zy hn285_2) (.int .i64 t278)).trans hx285_2; replace hx285_3 := (cell_far (p := ⟨gb282, 2, none⟩) (zy hn285_2) (.int .i64 t278)).trans hx285_3; replace hx285_4 := (cell_far (p := ⟨gb282, 2, none⟩) (zy hn285_2) (.int .i64 t278)).trans hx285_4; replace hx285_0 := (cell_far (p := ⟨gb282, 3, none⟩) (zy hn285_3) (.int .i64 t279)).trans hx285_0; replace hx285_1 := (cell_far (p := ⟨gb282, 3, none⟩) (zy hn285_3) (.int .i64 t279)).trans hx285_1; replace hx285_2 := (cell_far (p := ⟨gb282, 3, none⟩) (zy hn285_3) (.int .i64 t279)).trans hx285_2; replace hx285_3 := (cell_far (p := ⟨gb282, 3, none⟩) (zy hn285_3) (.int .i64 t279)).trans hx285_3; replace hx285_4 := (cell_far (p := ⟨gb282, 3, none⟩) (zy hn285_3) (.int .i64 t279)).trans hx285_4; clear hn285_0; clear hn285_1; clear hn285_2; clear hn285_3; replace p285 := eq_true p285; replace q285 := eq_true q285; have p286 : 0 ≤ (1 : Int) := (by omega); have q286 : 1 < (t272.length : Int) := zdec; obtain ⟨ad286, e286, hx286_0, hx286_1, hx286_2, hx286_3, hx286_4⟩ := at_T51 (Kd.R_reads' HO274.out).2.2 1 p286 q286; obtain rfl : ad285 = ad286 := (by injection e286); (try simp only [show (1 : Int).toNat = 1 from rfl, Nat.reduceMul, Nat.reduceEqDiff, Go.Addr.add, ↓reduceIte] at hx286_0); (try simp only [show (1 : Int).toNat = 1 from rfl, Nat.reduceMul, Nat.reduceEqDiff, Go.Addr.add, ↓reduceIte] at hx286_1); (try simp only [show (1 : Int).toNat = 1 from rfl, Nat.reduceMul, Nat.reduceEqDiff, Go.Addr.add, ↓reduceIte] at hx286_2); (try simp only [show (1 : Int).toNat = 1 from rfl, Nat.reduceMul, Nat.reduceEqDiff, Go.Addr.add, ↓reduceIte] at hx286_3); (try simp only [show (1 : Int).toNat = 1 from rfl, Nat.reduceMul, Nat.reduceEqDiff, Go.Addr.add, ↓reduceIte] at hx286_4); have qi286 : (1 < t272.length) = True := eq_true (by omega); (try rw [show ((1 : Int)).toNat = 1 from rfl] at hx286_0); (try rw [show 1 * 5 = 5 from rfl] at hx286_0); (try rw [show ((1 : Int)).toNat = 1 from rfl] at hx286_1); (try rw [show 1 * 5 = 5 from rfl] at hx286_1); (try rw [show ((1 : Int)).toNat = 1 from rfl] at hx286_2); (try rw [show 1 * 5 = 5 from rfl] at hx286_2); (try rw [show ((1 : Int)).toNat = 1 from rfl] at hx286_3); (try rw [show 1 * 5 = 5 from rfl] at hx286_3); (try rw [show ((1 : Int)).toNat = 1 from rfl] at hx286_4); (try rw [show 1 * 5 = 5 from rfl] at hx286_4); have hn286_0 : ad285.block ≠ gb282 := Kd.own_blk (Kd.R_ne HO274.out BK282.out (by decide)); have hn286_1 : ad285.block ≠ gb282 := Kd.own_blk (Kd.R_ne HO274.out BK282.out (by decide)); have hn286_2 : ad285.block ≠ gb282 := Kd.own_blk (Kd.R_ne HO274.out BK282.out (by decide)); have hn286_3 : ad285.block ≠ gb282 := Kd.own_blk (Kd.R_ne HO274.out BK282.out (by decide)); replace hx286_0 := (cell_far (p := ⟨gb282, 0, none⟩) (zy hn286_0) (.bool t276)).trans hx286_0; replace hx286_1 := (cell_far (p := ⟨gb282, 0, none⟩) (zy hn286_0) (.bool t276)).trans hx286_1; replace hx286_2 := (cell_far (p := ⟨gb282, 0, none⟩) (zy hn286_0) (.bool t276)).trans hx286_2; replace hx286_3 := (cell_far (p := ⟨gb282, 0, none⟩) (zy hn286_0) (.bool t276)).trans hx286_3; replace hx286_4 := (cell_far (p := ⟨gb282, 0, none⟩) (zy hn286_0) (.bool t276)).trans hx286_4; replace hx286_0 := (cell_far (p := ⟨gb282, 1, none⟩) (zy hn286_1) (.int .i64 t277)).trans hx286_0; replace hx286_1 := (cell_far (p := ⟨gb282, 1, none⟩) (zy hn286_1) (.int .i64 t277)).trans hx286_1; replace hx286_2 := (cell_far (p := ⟨gb282, 1, none⟩) (zy hn286_1) (.int .i64 t277)).trans hx286_2; replace hx286_3 := (cell_far (p := ⟨gb282, 1, none⟩) (zy hn286_1) (.int .i64 t277)).trans hx286_3; replace hx286_4 := (cell_far (p := ⟨gb282, 1, none⟩) (zy hn286_1) (.int .i64 t277)).trans hx286_4; replace hx286_0 := (cell_far (p := ⟨gb282, 2, none⟩) (zy hn286_2) (.int .i64 t278)).trans hx286_0; replace hx286_1 := (cell_far (p := ⟨gb282, 2, none⟩) (zy hn286_2) (.int .i64 t278)).trans hx286_1; replace hx286_2 := (cell_far (p := ⟨gb282, 2, none⟩) (zy hn286_2) (.int .i64 t278)).trans hx286_2; replace hx286_3 := (cell_far (p := ⟨gb282, 2, none⟩) (zy hn286_2) (.int .i64 t278)).trans hx286_3; replace hx286_4 := (cell_far (p := ⟨gb282, 2, none⟩) (zy hn286_2) (.int .i64 t278)).trans hx286_4; replace hx286_0 := (cell_far (p := ⟨gb282, 3, none⟩) (zy hn286_3) (.int .i64 t279)).trans hx286_0; replace hx286_1 := (cell_far (p := ⟨gb282, 3, none⟩) (zy hn286_3) (.int .i64 t279)).trans hx286_1; replace hx286_2 := (cell_far (p := ⟨gb282, 3, none⟩) (zy hn286_3) (.int .i64 t279)).trans hx286_2; replace hx286_3 := (cell_far (p := ⟨gb282, 3, none⟩) (zy hn286_3) (.int .i64 t279)).trans hx286_3; replace hx286_4 := (cell_far (p := ⟨gb282, 3, none⟩) (zy hn286_3) (.int .i64 t279)).trans hx286_4; clear hn286_0; clear hn286_1; clear hn286_2; clear hn286_3; replace p286 := eq_true p286; replace q286 := eq_true q286))
   go_ret
   exact ⟨ze, zw1 HB.out GE282.out⟩
  rw [if_pos c12] at H
  have c12b0 : (t277 == 258) = true := beq_iff_eq.mpr c12
  have c12b1 : (t277 != 258) = false := bne_eq_false_iff_eq.mpr c12
  clear c12
  obtain rfl := Option.some.inj H
  go_enter Try.func25, Try.ntmps25
  go_wp2_with (first | ((with_reducible refine gate_callee (f := 26) rfl ?_); refine zgo (some 9) Try.func26 #[.agg #[.bool true, .int .i64 4], .int .i64 3, .agg #[.bool false, .int .i64 258, .int .i64 0, .int .i64 0]] ?_; (with_reducible refine (bytes_Put.calls k true 4 3 false 258 0 0 t272 t275 _ A1.out).mono ?_); rintro e w13 ⟨v273, rfl, ho0, hb⟩; refine ⟨_, rfl, ?_⟩; have HO274 := Aside0.mk (Kd.R_lower ho0 (below_size (zw0 HB.out))); have n1_ := Aside0.mk (below_step (zw0 HB.out) hb); clear HB; have HB := n1_; clear n1_; (try clear hb); (try clear hb2); (try clear hk); (try clear hi); (try clear ho0); obtain ⟨Ao14, co14, eo14⟩ := Kd.R_slice HO274.out; subst eo14) | ((with_reducible refine gate_callee (f := 17) rfl ?_); refine zgo (some 15) Try.func17 #[.agg #[.bool true, .int .i64 4], .int .i64 3, .slice Ao14 t272.length co14] ?_; (with_reducible refine (bytes_Get.calls k true 4 3 _ _ t272 t276 t277 t278 t279 t280 t281 _ ?side1 ?side2 A2.out).mono ?_); (case side1 => repeat (first | exact (Kd.R_reads' HO274.out).2.2 | (with_reducible refine Kd.C_alloc ?_ _) | (with_reducible refine Kd.C_drewN ?_ _) | (with_reducible refine Kd.C_drew ?_))); (case side2 => exact (Kd.R_reads' HO274.out).2.1); rintro e w15 ⟨rfl, hb⟩; refine ⟨_, rfl, ?_⟩; have n0_ := Aside0.mk (Kd.R_below (by (with_reducible repeat (first | apply Kd.R_alloc | apply Kd.R_drewN | apply Kd.R_drew)); exact HO274.out) hb); have n1_ := Aside0.mk (below_step (zw0 HB.out) hb); clear HO274 HB; have HO274 := n0_; have HB := n1_; clear n0_ n1_; (try clear hb); (try clear hb2); (try clear hk); (try clear hi)) | ((with_reducible refine gate_dst (N := 3) rfl ?_); (try (refine gate_guard (by rfl) ?_; dsimp only)); refine zbox (N := 3) (cs := #[.bool false, .int .i64 0, .int .i64 0, .int .i64 0]) (t := 33) ?_; intro gb282 hg w16 hbox hb; have n0_ := Aside0.mk (Kd.R_below (by (with_reducible repeat (first | apply Kd.R_alloc | apply Kd.R_drewN | apply Kd.R_drew)); exact HO274.out) hb); have n1_ := Aside0.mk (below_step (zw0 HB.out) hb); have BK282 := Aside0.mk (hbox); have GW282 := Aside0.mk (zg hg (below_size (zw0 HB.out))); have GE282 := GW282; clear HO274 HB; have HO274 := n0_; have HB := n1_; clear n0_ n1_; clear hb hbox hg; have hcz17_0 := zc BK282.out 0; have hcz17_1 := zc BK282.out 1; have hcz17_2 := zc BK282.out 2; have hcz17_3 := zc BK282.out 3; have hfz17_0 := blk_frozen BK282.out 0; have hfz17_1 := blk_frozen BK282.out 1; have hfz17_2 := blk_frozen BK282.out 2; have hfz17_3 := blk_frozen BK282.out 3) | ((with_reducible refine gate_callee (f := 23) rfl ?_); refine zgo (some 20) Try.func23 #[.int .i64 t275] ?_; (with_reducible refine (cellarlaw8_num.calls t275 t283 _ A3.out).mono ?_); rintro e w' ⟨rfl, ⟨nd, rfl⟩⟩; refine ⟨_, rfl, ?_⟩) | (go_at_call 23; (with_reducible refine (cellarlaw8_num.calls t281 t284 _ A5.out).mono ?_); rintro e w' ⟨rfl, ⟨nd, rfl⟩⟩; have p285 : 0 ≤ (0 : Int) := (by omega); have q285 : 0 < (t272.length : Int) := zdec; obtain ⟨ad285, e285, hx285_0, hx285_1, hx285_2, hx285_3, hx285_4⟩ := at_T51 (Kd.R_reads' HO274.out).2.2 0 p285 q285; cases e285; have qi285 : (0 < t272.length) = True := eq_true (by omega); (try rw [show ((0 : Int)).toNat = 0 from rfl] at hx285_0); (try rw [show 0 * 5 = 0 from rfl] at hx285_0); (try rw [Addr.add_zero'] at hx285_0); (try rw [show ((0 : Int)).toNat = 0 from rfl] at hx285_1); (try rw [show 0 * 5 = 0 from rfl] at hx285_1); (try rw [Addr.add_zero'] at hx285_1); (try rw [show ((0 : Int)).toNat = 0 from rfl] at hx285_2); (try rw [show 0 * 5 = 0 from rfl] at hx285_2); (try rw [Addr.add_zero'] at hx285_2); (try rw [show ((0 : Int)).toNat = 0 from rfl] at hx285_3); (try rw [show 0 * 5 = 0 from rfl] at hx285_3); (try rw [Addr.add_zero'] at hx285_3); (try rw [show ((0 : Int)).toNat = 0 from rfl] at hx285_4); (try rw [show 0 * 5 = 0 from rfl] at hx285_4); (try rw [Addr.add_zero'] at hx285_4); have hn285_0 : ad285.block ≠ gb282 := Kd.own_blk (Kd.R_ne HO274.out BK282.out (by decide)); have hn285_1 : ad285.block ≠ gb282 := Kd.own_blk (Kd.R_ne HO274.out BK282.out (by decide)); have hn285_2 : ad285.block ≠ gb282 := Kd.own_blk (Kd.R_ne HO274.out BK282.out (by decide)); have hn285_3 : ad285.block ≠ gb282 := Kd.own_blk (Kd.R_ne HO274.out BK282.out (by decide)); replace hx285_0 := (cell_far (p := ⟨gb282, 0, none⟩) (zy hn285_0) (.bool t276)).trans hx285_0; replace hx285_1 := (cell_far (p := ⟨gb282, 0, none⟩) (zy hn285_0) (.bool t276)).trans hx285_1; replace hx285_2 := (cell_far (p := ⟨gb282, 0, none⟩) (zy hn285_0) (.bool t276)).trans hx285_2; replace hx285_3 := (cell_far (p := ⟨gb282, 0, none⟩) (zy hn285_0) (.bool t276)).trans hx285_3; replace hx285_4 := (cell_far (p := ⟨gb282, 0, none⟩) (zy hn285_0) (.bool t276)).trans hx285_4; replace hx285_0 := (cell_far (p := ⟨gb282, 1, none⟩) (zy hn285_1) (.int .i64 t277)).trans hx285_0; replace hx285_1 := (cell_far (p := ⟨gb282, 1, none⟩) (zy hn285_1) (.int .i64 t277)).trans hx285_1; replace hx285_2 := (cell_far (p := ⟨gb282, 1, none⟩) (zy hn285_1) (.int .i64 t277)).trans hx285_2; replace hx285_3 := (cell_far (p := ⟨gb282, 1, none⟩) (zy hn285_1) (.int .i64 t277)).trans hx285_3; replace hx285_4 := (cell_far (p := ⟨gb282, 1, none⟩) (zy hn285_1) (.int .i64 t277)).trans hx285_4; replace hx285_0 := (cell_far (p := ⟨gb282, 2, none⟩) (zy hn285_2) (.int .i64 t278)).trans hx285_0; replace hx285_1 := (cell_far (p := ⟨gb282, 2, none⟩) (zy hn285_2) (.int .i64 t278)).trans hx285_1; replace hx285_2 := (cell_far (p := ⟨gb282, 2, none⟩) (zy hn285_2) (.int .i64 t278)).trans hx285_2; replace hx285_3 := (cell_far (p := ⟨gb282, 2, none⟩) (zy hn285_2) (.int .i64 t278)).trans hx285_3; replace hx285_4 := (cell_far (p := ⟨gb282, 2, none⟩) (zy hn285_2) (.int .i64 t278)).trans hx285_4; replace hx285_0 := (cell_far (p := ⟨gb282, 3, none⟩) (zy hn285_3) (.int .i64 t279)).trans hx285_0; replace hx285_1 := (cell_far (p := ⟨gb282, 3, none⟩) (zy hn285_3) (.int .i64 t279)).trans hx285_1; replace hx285_2 := (cell_far (p := ⟨gb282, 3, none⟩) (zy hn285_3) (.int .i64 t279)).trans hx285_2; replace hx285_3 := (cell_far (p := ⟨gb282, 3, none⟩) (zy hn285_3) (.int .i64 t279)).trans hx285_3; replace hx285_4 := (cell_far (p := ⟨gb282, 3, none⟩) (zy hn285_3) (.int .i64 t279)).trans hx285_4; clear hn285_0; clear hn285_1; clear hn285_2; clear hn285_3; replace p285 := eq_true p285; replace q285 := eq_true q285; have p286 : 0 ≤ (1 : Int) := (by omega); have q286 : 1 < (t272.length : Int) := zdec; obtain ⟨ad286, e286, hx286_0, hx286_1, hx286_2, hx286_3, hx286_4⟩ := at_T51 (Kd.R_reads' HO274.out).2.2 1 p286 q286; obtain rfl : ad285 = ad286 := (by injection e286); (try simp only [show (1 : Int).toNat = 1 from rfl, Nat.reduceMul, Nat.reduceEqDiff, Go.Addr.add, ↓reduceIte] at hx286_0); (try simp only [show (1 : Int).toNat = 1 from rfl, Nat.reduceMul, Nat.reduceEqDiff, Go.Addr.add, ↓reduceIte] at hx286_1); (try simp only [show (1 : Int).toNat = 1 from rfl, Nat.reduceMul, Nat.reduceEqDiff, Go.Addr.add, ↓reduceIte] at hx286_2); (try simp only [show (1 : Int).toNat = 1 from rfl, Nat.reduceMul, Nat.reduceEqDiff, Go.Addr.add, ↓reduceIte] at hx286_3); (try simp only [show (1 : Int).toNat = 1 from rfl, Nat.reduceMul, Nat.reduceEqDiff, Go.Addr.add, ↓reduceIte] at hx286_4); have qi286 : (1 < t272.length) = True := eq_true (by omega); (try rw [show ((1 : Int)).toNat = 1 from rfl] at hx286_0); (try rw [show 1 * 5 = 5 from rfl] at hx286_0); (try rw [show ((1 : Int)).toNat = 1 from rfl] at hx286_1); (try rw [show 1 * 5 = 5 from rfl] at hx286_1); (try rw [show ((1 : Int)).toNat = 1 from rfl] at hx286_2); (try rw [show 1 * 5 = 5 from rfl] at hx286_2); (try rw [show ((1 : Int)).toNat = 1 from rfl] at hx286_3); (try rw [show 1 * 5 = 5 from rfl] at hx286_3); (try rw [show ((1 : Int)).toNat = 1 from rfl] at hx286_4); (try rw [show 1 * 5 = 5 from rfl] at hx286_4); have hn286_0 : ad285.block ≠ gb282 := Kd.own_blk (Kd.R_ne HO274.out BK282.out (by decide)); have hn286_1 : ad285.block ≠ gb282 := Kd.own_blk (Kd.R_ne HO274.out BK282.out (by decide)); have hn286_2 : ad285.block ≠ gb282 := Kd.own_blk (Kd.R_ne HO274.out BK282.out (by decide)); have hn286_3 : ad285.block ≠ gb282 := Kd.own_blk (Kd.R_ne HO274.out BK282.out (by decide)); replace hx286_0 := (cell_far (p := ⟨gb282, 0, none⟩) (zy hn286_0) (.bool t276)).trans hx286_0; replace hx286_1 := (cell_far (p := ⟨gb282, 0, none⟩) (zy hn286_0) (.bool t276)).trans hx286_1; replace hx286_2 := (cell_far (p := ⟨gb282, 0, none⟩) (zy hn286_0) (.bool t276)).trans hx286_2; replace hx286_3 := (cell_far (p := ⟨gb282, 0, none⟩) (zy hn286_0) (.bool t276)).trans hx286_3; replace hx286_4 := (cell_far (p := ⟨gb282, 0, none⟩) (zy hn286_0) (.bool t276)).trans hx286_4; replace hx286_0 := (cell_far (p := ⟨gb282, 1, none⟩) (zy hn286_1) (.int .i64 t277)).trans hx286_0; replace hx286_1 := (cell_far (p := ⟨gb282, 1, none⟩) (zy hn286_1) (.int .i64 t277)).trans hx286_1; replace hx286_2 := (cell_far (p := ⟨gb282, 1, none⟩) (zy hn286_1) (.int .i64 t277)).trans hx286_2; replace hx286_3 := (cell_far (p := ⟨gb282, 1, none⟩) (zy hn286_1) (.int .i64 t277)).trans hx286_3; replace hx286_4 := (cell_far (p := ⟨gb282, 1, none⟩) (zy hn286_1) (.int .i64 t277)).trans hx286_4; replace hx286_0 := (cell_far (p := ⟨gb282, 2, none⟩) (zy hn286_2) (.int .i64 t278)).trans hx286_0; replace hx286_1 := (cell_far (p := ⟨gb282, 2, none⟩) (zy hn286_2) (.int .i64 t278)).trans hx286_1; replace hx286_2 := (cell_far (p := ⟨gb282, 2, none⟩) (zy hn286_2) (.int .i64 t278)).trans hx286_2; replace hx286_3 := (cell_far (p := ⟨gb282, 2, none⟩) (zy hn286_2) (.int .i64 t278)).trans hx286_3; replace hx286_4 := (cell_far (p := ⟨gb282, 2, none⟩) (zy hn286_2) (.int .i64 t278)).trans hx286_4; replace hx286_0 := (cell_far (p := ⟨gb282, 3, none⟩) (zy hn286_3) (.int .i64 t279)).trans hx286_0; replace hx286_1 := (cell_far (p := ⟨gb282, 3, none⟩) (zy hn286_3) (.int .i64 t279)).trans hx286_1; replace hx286_2 := (cell_far (p := ⟨gb282, 3, none⟩) (zy hn286_3) (.int .i64 t279)).trans hx286_2; replace hx286_3 := (cell_far (p := ⟨gb282, 3, none⟩) (zy hn286_3) (.int .i64 t279)).trans hx286_3; replace hx286_4 := (cell_far (p := ⟨gb282, 3, none⟩) (zy hn286_3) (.int .i64 t279)).trans hx286_4; clear hn286_0; clear hn286_1; clear hn286_2; clear hn286_3; replace p286 := eq_true p286; replace q286 := eq_true q286))
  go_ret
  exact ⟨ze, zw1 HB.out GE282.out⟩
 ·rw [if_neg c4] at H
  have c4b0 : (t283 == 0) = false := beq_eq_false_iff_ne.mpr c4
  have c4b1 : (t283 != 0) = true := bne_iff_ne.mpr c4
  obtain rfl := Option.some.inj H
  go_enter Try.func25, Try.ntmps25
  go_wp2_with (first | ((with_reducible refine gate_callee (f := 26) rfl ?_); refine zgo (some 9) Try.func26 #[.agg #[.bool true, .int .i64 4], .int .i64 3, .agg #[.bool false, .int .i64 258, .int .i64 0, .int .i64 0]] ?_; (with_reducible refine (bytes_Put.calls k true 4 3 false 258 0 0 t272 t275 _ A1.out).mono ?_); rintro e w43 ⟨v273, rfl, ho0, hb⟩; refine ⟨_, rfl, ?_⟩; have HO274 := Aside0.mk (Kd.R_lower ho0 (below_size (zw0 HB.out))); have n1_ := Aside0.mk (below_step (zw0 HB.out) hb); clear HB; have HB := n1_; clear n1_; (try clear hb); (try clear hb2); (try clear hk); (try clear hi); (try clear ho0); obtain ⟨Ao44, co44, eo44⟩ := Kd.R_slice HO274.out; subst eo44) | ((with_reducible refine gate_callee (f := 17) rfl ?_); refine zgo (some 15) Try.func17 #[.agg #[.bool true, .int .i64 4], .int .i64 3, .slice Ao44 t272.length co44] ?_; (with_reducible refine (bytes_Get.calls k true 4 3 _ _ t272 t276 t277 t278 t279 t280 t281 _ ?side1 ?side2 A2.out).mono ?_); (case side1 => repeat (first | exact (Kd.R_reads' HO274.out).2.2 | (with_reducible refine Kd.C_alloc ?_ _) | (with_reducible refine Kd.C_drewN ?_ _) | (with_reducible refine Kd.C_drew ?_))); (case side2 => exact (Kd.R_reads' HO274.out).2.1); rintro e w45 ⟨rfl, hb⟩; refine ⟨_, rfl, ?_⟩; have n0_ := Aside0.mk (Kd.R_below (by (with_reducible repeat (first | apply Kd.R_alloc | apply Kd.R_drewN | apply Kd.R_drew)); exact HO274.out) hb); have n1_ := Aside0.mk (below_step (zw0 HB.out) hb); clear HO274 HB; have HO274 := n0_; have HB := n1_; clear n0_ n1_; (try clear hb); (try clear hb2); (try clear hk); (try clear hi)) | ((with_reducible refine gate_dst (N := 3) rfl ?_); (try (refine gate_guard (by rfl) ?_; dsimp only)); refine zbox (N := 3) (cs := #[.bool false, .int .i64 0, .int .i64 0, .int .i64 0]) (t := 33) ?_; intro gb282 hg w46 hbox hb; have n0_ := Aside0.mk (Kd.R_below (by (with_reducible repeat (first | apply Kd.R_alloc | apply Kd.R_drewN | apply Kd.R_drew)); exact HO274.out) hb); have n1_ := Aside0.mk (below_step (zw0 HB.out) hb); have BK282 := Aside0.mk (hbox); have GW282 := Aside0.mk (zg hg (below_size (zw0 HB.out))); have GE282 := GW282; clear HO274 HB; have HO274 := n0_; have HB := n1_; clear n0_ n1_; clear hb hbox hg; have hcz47_0 := zc BK282.out 0; have hcz47_1 := zc BK282.out 1; have hcz47_2 := zc BK282.out 2; have hcz47_3 := zc BK282.out 3; have hfz47_0 := blk_frozen BK282.out 0; have hfz47_1 := blk_frozen BK282.out 1; have hfz47_2 := blk_frozen BK282.out 2; have hfz47_3 := blk_frozen BK282.out 3) | ((with_reducible refine gate_callee (f := 23) rfl ?_); refine zgo (some 20) Try.func23 #[.int .i64 t275] ?_; (with_reducible refine (cellarlaw8_num.calls t275 t283 _ A3.out).mono ?_); rintro e w' ⟨rfl, ⟨nd, rfl⟩⟩; refine ⟨_, rfl, ?_⟩))
  go_ret
  exact ⟨ze, zw1 HB.out GE282.out⟩

end Go.Proofs.Ythhdmanpjeminaa.H
