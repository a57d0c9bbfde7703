-- Written by this session's own edition of the print.
import Derived.Test.YtjoplkillkhiaaaQ2x0
import Derived.Test.YtjoplkillkhiaaaQ2x4
import Derived.Test.YtjoplkillkhiaaaQ2x5
import Derived.Test.YtjoplkillkhiaaaYSq
import Derived.Test.YtjoplkillkhiaaaYSq2
namespace Go.Proofs.Ytjoplkillkhiaaa.Q2
open Go.RowKit Go.Proofs.Ytjoplkillkhiaaa.Fn Go.Proofs.YtjoplkillkhiaaaW.PrintWords Go.Proofs.YtjoplkillkhiaaaW.PrintLast Go.Proofs.YtjoplkillkhiaaaW.PrintMore
attribute [local go_sem] max2_int min2_int max_two min_two max_three min_three max_four min_four   -- for this text's walks alone
set_option linter.unusedVariables false
set_option linter.unusedSimpArgs false

/-! bytes_Spell -/
def bytes_Spell.l0 : Nat → Int → List (S74) → Int → Int → Bool → Int → Bool → Int → Int → Int → Option ((List (S74)))
 | 0, _, _, _, _, _, _, _, _, _, _ => none
 | k + 1, x1, x7, x14, x15, x163000, x163001, x164000, x164001, x164002, x164003 => if x15 < x14 then (if x164002 > 0 then (if 0 ≤ x15 then (if x15 < (x7.length : Int) then (bytes_Spell.l0 k x1 (x7.set (x15 : Int).toNat (⟨2, 0, x164002, x164003, x15⟩ : S74)) x14 (wrap64 (x15 + 1)) x163000 x163001 x164000 x164001 x164002 x164003) else (none)) else (none)) else (if 0 ≤ (wrap64 (8 * x15)) then (if 0 ≤ x15 then (if x15 < (x7.length : Int) then (bytes_Spell.l0 k x1 (x7.set (x15 : Int).toNat (⟨1, Go.bits .and .i64 (shr .i64 x164001 (wrap64 (8 * x15))) 255, 0, 0, 0⟩ : S74)) x14 (wrap64 (x15 + 1)) x163000 x163001 x164000 x164001 x164002 x164003) else (none)) else (none)) else (none))) else (if x1 = 7 then (some x7) else (if x163000 = true then ((api_Byte_118.f k x7).bind fun t170 => (some t170)) else (some x7)))
def bytes_Spell.f (k : Nat) (a0_0 : Bool) (a0_1 : Int) (a1 : Int) (a2_0 : Bool) (a2_1 : Int) (a2_2 : Int) (a2_3 : Int) : Option ((List (S74))) := (word_Bytes.f a0_0 a0_1 a1).bind fun t164 => (if 0 ≤ t164 then (if (t164 : Int).toNat ≤ 7036874417766 then ((some (List.replicate (t164 : Int).toNat z74 : List (S74))).bind fun y165 => (bytes_Spell.l0 k a1 y165 (y165.length : Int) 0 a0_0 a0_1 a2_0 a2_1 a2_2 a2_3)) else (none)) else (none))
theorem bytes_Spell.mono_l : ∀ k, (∀ y0 y1 y2 y3 y4 y5 y6 y7 y8 y9, LeO (bytes_Spell.l0 k y0 y1 y2 y3 y4 y5 y6 y7 y8 y9) (bytes_Spell.l0 (k + 1) y0 y1 y2 y3 y4 y5 y6 y7 y8 y9))
 | 0 => fun _ _ _ _ _ _ _ _ _ _ r h => by simp [bytes_Spell.l0] at h
 | k + 1 => by
  have ih0 := bytes_Spell.mono_l k
  ·intro y0 y1 y2 y3 y4 y5 y6 y7 y8 y9
   unfold bytes_Spell.l0
   repeat' first
   | (with_reducible apply ih0)
   | (with_reducible apply api_Byte_118.mono)
   | (with_reducible apply LeO.refl)
   | (with_reducible apply LeO.none)
   | (with_reducible refine LeO.ite ?_ ?_)
   | (with_reducible refine LeO.bind ?_ (fun _ => ?_))
theorem bytes_Spell.mono : ∀ a0 a1 a2 a3 a4 a5 a6 k, LeO (bytes_Spell.f k a0 a1 a2 a3 a4 a5 a6) (bytes_Spell.f (k + 1) a0 a1 a2 a3 a4 a5 a6) := by
 intro a0 a1 a2 a3 a4 a5 a6 k
 have ih0 := bytes_Spell.mono_l k
 unfold bytes_Spell.f
 repeat' first
   | (with_reducible apply ih0)
   | (with_reducible apply api_Byte_118.mono)
   | (with_reducible apply LeO.refl)
   | (with_reducible apply LeO.none)
   | (with_reducible refine LeO.ite ?_ ?_)
   | (with_reducible refine LeO.bind ?_ (fun _ => ?_))
set_option maxHeartbeats 8000000 in
set_option maxRecDepth 100000 in
theorem bytes_Spell.calls (k : Nat) (a0_0 : Bool) (a0_1 : Int) (a1 : Int) (a2_0 : Bool) (a2_1 : Int) (a2_2 : Int) (a2_3 : Int) (r : List (S74)) (w : World) (h : bytes_Spell.f k a0_0 a0_1 a1 a2_0 a2_1 a2_2 a2_3 = some r) :
  Calls Try.prog 104 #[.agg #[.bool a0_0, .int .i64 a0_1], .int .i64 a1, .agg #[.bool a2_0, .int .i64 a2_1, .int .i64 a2_2, .int .i64 a2_3]] w fun e w' => ∃ v0_ : Value, e = .returned (v0_) ∧ Kd.R k74 74 w' w.heap.size (fun _ => True) v0_ r ∧ Below w.heap.size w w' := by
 have hu29 := Try.underlying29
 have hu62 := Try.underlying62
 have hu74 := Try.underlying74
 have HB := Aside0.mk (Below.refl w.heap.size w)
 have H : ((word_Bytes.f a0_0 a0_1 a1).bind fun t164 => (if 0 ≤ t164 then (if (t164 : Int).toNat ≤ 7036874417766 then ((some (List.replicate (t164 : Int).toNat z74 : List (S74))).bind fun y165 => (bytes_Spell.l0 k a1 y165 (y165.length : Int) 0 a0_0 a0_1 a2_0 a2_1 a2_2 a2_3)) else (none)) else (none))) = some r := h
 clear h
 replace H := Option.bind_eq_some_iff.mp H
 obtain ⟨t164, A40, H⟩ := H
 replace H : (if 0 ≤ t164 then (if (t164 : Int).toNat ≤ 7036874417766 then ((some (List.replicate (t164 : Int).toNat z74 : List (S74))).bind fun y165 => (bytes_Spell.l0 k a1 y165 (y165.length : Int) 0 a0_0 a0_1 a2_0 a2_1 a2_2 a2_3)) else (none)) else (none)) = some r := H
 have A4 := Aside0.mk A40
 clear A40
 by_cases c5 : 0 ≤ t164
 ·rw [if_pos c5] at H
  have c5b0 := eq_true c5
  have c5b1 : decide (0 ≤ t164) = true := decide_eq_true c5
  clear c5
  by_cases c6 : (t164 : Int).toNat ≤ 7036874417766
  rotate_left
  ·rw [if_neg c6] at H
   exact absurd H (by simp)
  rw [if_pos c6] at H
  have c6b0 := eq_true c6
  have c6b1 : decide ((t164 : Int).toNat ≤ 7036874417766) = true := decide_eq_true c6
  clear c6
  obtain ⟨y165, hy165⟩ : ∃ y_ : List (S74), y_ = (List.replicate (t164 : Int).toNat z74) := ⟨_, rfl⟩
  replace H : (bytes_Spell.l0 k a1 y165 (y165.length : Int) 0 a0_0 a0_1 a2_0 a2_1 a2_2 a2_3) = some r := by first | (rw [hy165]; with_reducible exact H) | (have H2_ := (Option.bind_some _ _).symm.trans H; rw [hy165]; with_reducible exact H2_) | (have H2_ := (Option.bind_some _ _).symm.trans H; with_reducible exact H2_) | with_reducible exact H | (rw [hy165]; exact H) | exact H
  have Ny165 := Aside0.mk hy165
  clear hy165
  have H' := Aside0.mk H
  clear H
  go_enter Try.func104, Try.ntmps104
  go_wp2_with (first | ((with_reducible refine gate_dst (N := 3) rfl ?_); refine zbox (N := 3) (cs := #[.bool a0_0, .int .i64 a0_1]) (t := 29) ?_; intro gb162 hg w7 hbox hb; have n0_ := Aside0.mk (below_step (zw0 HB.out) hb); have BK162 := Aside0.mk (hbox); have GW162 := Aside0.mk (zg hg (below_size (zw0 HB.out))); have GE162 := GW162; clear HB; have HB := n0_; clear n0_; clear hb hbox hg) | ((with_reducible refine gate_dst (N := 5) rfl ?_); refine zbox (N := 5) (cs := #[.bool a2_0, .int .i64 a2_1, .int .i64 a2_2, .int .i64 a2_3]) (t := 62) ?_; intro gb163 hg w8 hbox hb; have n0_ := Aside0.mk (zbb BK162.out hb); have n1_ := Aside0.mk (below_step (zw1 HB.out GE162.out) hb); have BK163 := Aside0.mk (hbox); have GW163 := Aside0.mk (zg hg (below_size (zw1 HB.out GE162.out))); have GE163 := GW163; have NB162_163 := Aside0.mk (zlt hg BK162.out); have NB163_162 := Aside0.mk (zgt hg BK162.out); clear BK162 HB; have BK162 := n0_; have HB := n1_; clear n0_ n1_; clear hb hbox hg; have hnb9 := NB162_163.out; have hnc9 := NB163_162.out; have hcz10_0 := zc BK162.out 0; have hcz10_1 := zc BK162.out 1; have hfz10_0 := blk_frozen BK162.out 0; have hfz10_1 := blk_frozen BK162.out 1) | ((with_reducible refine gate_callee (f := 86) rfl ?_); refine zgo (some 11) Try.func86 #[.agg #[.bool a0_0, .int .i64 a0_1], .int .i64 a1] ?_; (with_reducible refine (word_Bytes.calls a0_0 a0_1 a1 t164 _ A4.out).mono ?_); rintro e w11 ⟨rfl, hb⟩; refine ⟨_, rfl, ?_⟩; have n0_ := Aside0.mk (zbb BK162.out hb); have n1_ := Aside0.mk (zbb BK163.out hb); have n2_ := Aside0.mk (below_step (zw2 HB.out GE162.out GE163.out) hb); clear BK162 BK163 HB; have BK162 := n0_; have BK163 := n1_; have HB := n2_; clear n0_ n1_ n2_; (try clear hb); (try clear hb2); (try clear hk); (try clear hi)) | ((with_reducible refine gate_dst (N := 12) rfl ?_); refine Kd.R_make k74 _ 74 rfl (N := 12) rfl 72 _ _ rfl t164 rfl rfl Try.underlying72 (.agg #[(.int .i64 0), (.int .i64 0), (.int .i64 0), (.int .i64 0), (.int .i64 0)]) 40 info74 rfl (by decide) (by omega) z74 (ok := fun _ => True) (okp := fun _ => True) (k74_mkM _ _ _ z74 ) (fun _ hk => hk) trivial (zdec) (Nat.le_trans (Nat.mul_le_mul_right _ (zdec : t164.toNat ≤ 7036874417766)) (by omega)) (Below.refl _ _) (Nat.le_refl _) ?_; intro v166 w12 ho13 hb hg_ hnew_; clear hg_ hnew_; (first | rw [← Ny165.out] at ho13 | (simp only [Int.reduceToNat] at ho13; rw [← Ny165.out] at ho13)); have HO167 := Aside0.mk (Kd.R_lower ho13 (below_size (zw2 HB.out GE162.out GE163.out))); have n1_ := Aside0.mk (zbb BK162.out hb); have n2_ := Aside0.mk (zbb BK163.out hb); have n3_ := Aside0.mk (below_step (zw2 HB.out GE162.out GE163.out) hb); clear BK162 BK163 HB; have BK162 := n1_; have BK163 := n2_; have HB := n3_; clear n1_ n2_ n3_; clear hb ho13; obtain ⟨Ao14, co14, eo14⟩ := Kd.R_slice HO167.out; subst eo14))
  go_loopg [15] k (fun kq v15 w' => ∃ (x7_1 : List (S74)) (x15_1 : Int), v15 = .int .i64 x15_1 ∧ Aside0 (bytes_Spell.l0 kq a1 x7_1 (y165.length : Int) x15_1 a0_0 a0_1 a2_0 a2_1 a2_2 a2_3 = some r) ∧ Aside0 (kq ≤ k) ∧ Aside0 (Kd.R k74 74 w' w.heap.size (fun _ => True) (.slice Ao14 y165.length co14) x7_1) ∧ Aside0 (w'.heap[gb162]? = some (.cells #[.bool a0_0, .int .i64 a0_1] 29 (0, 0))) ∧ Aside0 (w'.heap[gb163]? = some (.cells #[.bool a2_0, .int .i64 a2_1, .int .i64 a2_2, .int .i64 a2_3] 62 (0, 0))) ∧ Aside0 (Below w.heap.size w w'))
  case atStart => exact ⟨(y165), (0), (zr), H', ⟨Nat.le_refl _⟩, ⟨by (with_reducible repeat (first | apply Kd.R_alloc | apply Kd.R_drewN | apply Kd.R_drew)); exact HO167.out⟩, ⟨zb BK162.out⟩, ⟨zb BK163.out⟩, ⟨zw2 HB.out GE162.out GE163.out⟩⟩
  case round =>
   clear H'
   try clear c1; try clear p2; try clear c5; try clear c5b0; try clear c5b1; try clear c6; try clear c6b0; try clear c6b1; try clear c8; try clear c9; try clear c10
   obtain ⟨x7_1, x15_1, rfl, HA, HK1, HO_7, BK162, BK163, HB⟩ := hrel
   have hl7_1 := (Kd.R_reads' HO_7.out).1
   rw [hl7_1] at HO_7
   (try simp only [hl7_1])
   (try simp only [hl7_1] at BK162)
   (try simp only [hl7_1] at BK163)
   cases gk with
   | zero => exact absurd HA.out (by simp [bytes_Spell.l0])
   | succ k1 =>
    have H := HA.out
    clear HA
    simp only [bytes_Spell.l0] at H
    by_cases c15 : x15_1 < (y165.length : Int)
    rotate_left
    ·rw [if_neg c15] at H
     have c15b0 : decide (x15_1 < (y165.length : Int)) = false := decide_eq_false c15
     try (have c15b0r := c15b0; rw [hl7_1] at c15b0r)
     clear c15
     by_cases c34 : a1 = 7
     ·rw [if_pos c34] at H
      have c34b0 : (a1 == 7) = true := beq_iff_eq.mpr c34
      have c34b1 : (a1 != 7) = false := bne_eq_false_iff_eq.mpr c34
      clear c34
      obtain rfl := Option.some.inj H
      go_wp2
      go_ret
      exact ⟨_, ze, by (with_reducible repeat (first | apply Kd.R_alloc | apply Kd.R_drewN | apply Kd.R_drew)); exact HO_7.out, zw2 HB.out GE162.out GE163.out⟩
     rw [if_neg c34] at H
     have c34b0 : (a1 == 7) = false := beq_eq_false_iff_ne.mpr c34
     have c34b1 : (a1 != 7) = true := bne_iff_ne.mpr c34
     by_cases c35 : a0_0 = true
     rotate_left
     ·replace c35 := Bool.eq_false_iff.mpr c35
      subst c35
      have H1 : (some x7_1) = some r := by rw [if_neg (show ¬ (false = true) by decide)] at H; exact H
      clear H
      have H := H1
      clear H1
      obtain rfl := Option.some.inj H
      have hnb40 := NB162_163.out
      have hnc40 := NB163_162.out
      have hcz41_0 := zc BK162.out 0
      have hcz41_1 := zc BK162.out 1
      have hfz41_0 := blk_frozen BK162.out 0
      have hfz41_1 := blk_frozen BK162.out 1
      go_wp2
      go_ret
      exact ⟨_, ze, by (with_reducible repeat (first | apply Kd.R_alloc | apply Kd.R_drewN | apply Kd.R_drew)); exact HO_7.out, zw2 HB.out GE162.out GE163.out⟩
     subst c35
     have H1 : ((api_Byte_118.f k1 x7_1).bind fun t170 => (some t170)) = some r := by rw [if_pos rfl] at H; exact H
     clear H
     have H := H1
     clear H1
     replace H := Option.bind_eq_some_iff.mp H
     obtain ⟨t170, A360, H⟩ := H
     replace H : (some t170) = some r := H
     have A36 := Aside0.mk A360
     clear A360
     obtain rfl := Option.some.inj H
     have hnb37 := NB162_163.out
     have hnc37 := NB163_162.out
     have hcz38_0 := zc BK162.out 0
     have hcz38_1 := zc BK162.out 1
     have hfz38_0 := blk_frozen BK162.out 0
     have hfz38_1 := blk_frozen BK162.out 1
     go_wp2_with (first | ((with_reducible refine gate_callee (f := 118) rfl ?_); refine zgo (some 49) Try.func118 #[.slice Ao14 x7_1.length co14] ?_; (with_reducible refine (api_Byte_118.calls k1 (fun k_ => some k_ = (.slice Ao14 x7_1.length co14 : Value).ownBlock) (.slice Ao14 x7_1.length co14) x7_1 t170 w _ ?side1 ?side2 A36.out).mono ?_); (case side1 => repeat (first | (with_reducible first | exact HB.out | apply below_alloc | apply pw_below_drewN | apply below_drew1 | refine below_set ?_ GE162.out | refine below_set ?_ GE163.out) | exact HB.out)); (case side2 => exact Kd.R_tight rfl HO_7.out); rintro e w39 ⟨rfl, hy0, hb, hkp⟩; refine ⟨_, rfl, ?_⟩; have n0_ := Aside0.mk (Kd.R_reok rfl hy0 (fun k_ e_ => HO_7.out.1 k_ e_)); have n1_ := Aside0.mk (blk_kept (zb BK162.out) hkp (fun hs_ => (fun e_ => (Kd.R_ne HO_7.out BK162.out (by decide)) e_) hs_)); have n2_ := Aside0.mk (blk_kept (zb BK163.out) hkp (fun hs_ => (fun e_ => (Kd.R_ne HO_7.out BK163.out (by decide)) e_) hs_)); have n3_ := Aside0.mk (hb); clear HO_7 BK162 BK163 HB; have HO_7 := n0_; have BK162 := n1_; have BK163 := n2_; have HB := n3_; clear n0_ n1_ n2_ n3_; (try clear hb); (try clear hkp); (try clear hy0)))
     go_ret
     exact ⟨_, ze, by (with_reducible repeat (first | apply Kd.R_alloc | apply Kd.R_drewN | apply Kd.R_drew)); exact HO_7.out, zw2 HB.out GE162.out GE163.out⟩
    rw [if_pos c15] at H
    have c15b0 : decide (x15_1 < (y165.length : Int)) = true := decide_eq_true c15
    clear c15
    by_cases c16 : a2_2 > 0
    ·rw [if_pos c16] at H
     have c16b0 : decide (0 < a2_2) = true := decide_eq_true c16
     clear c16
     by_cases c17 : 0 ≤ x15_1
     rotate_left
     ·rw [if_neg c17] at H
      exact absurd H (by simp)
     rw [if_pos c17] at H
     have c17b0 : decide (0 ≤ x15_1) = true := decide_eq_true c17
     clear c17
     by_cases c18 : x15_1 < (x7_1.length : Int)
     rotate_left
     ·rw [if_neg c18] at H
      exact absurd H (by simp)
     rw [if_pos c18] at H
     have c18b0 : decide (x15_1 < (x7_1.length : Int)) = true := decide_eq_true c18
     clear c18
     obtain ⟨y168, hy168⟩ : ∃ y_ : List (S74), y_ = (x7_1.set (x15_1 : Int).toNat (⟨2, 0, a2_2, a2_3, x15_1⟩ : S74)) := ⟨_, rfl⟩
     replace H : (bytes_Spell.l0 k1 a1 y168 (y165.length : Int) (wrap64 (x15_1 + 1)) a0_0 a0_1 a2_0 a2_1 a2_2 a2_3) = some r := by first | (rw [hy168]; with_reducible exact H) | (have H2_ := (Option.bind_some _ _).symm.trans H; rw [hy168]; with_reducible exact H2_) | (have H2_ := (Option.bind_some _ _).symm.trans H; with_reducible exact H2_) | with_reducible exact H | (rw [hy168]; exact H) | exact H
     have Ny168 := Aside0.mk hy168
     clear hy168
     have H' := Aside0.mk H
     clear H
     have hnb20 := NB163_162.out
     have hnc20 := NB162_163.out
     have hcz21_0 := zc BK163.out 0
     have hcz21_1 := zc BK163.out 1
     have hcz21_2 := zc BK163.out 2
     have hcz21_3 := zc BK163.out 3
     have hfz21_0 := blk_frozen BK163.out 0
     have hfz21_1 := blk_frozen BK163.out 1
     have hfz21_2 := blk_frozen BK163.out 2
     have hfz21_3 := blk_frozen BK163.out 3
     have p19 : 0 ≤ (x15_1 : Int) := zdec
     have q19 : (x15_1 : Int) < ((x7_1.length : Int) : Int) := zdec
     obtain ⟨go19, co19, eo19, gb19, gl19, cl19, HG19⟩ := Kd.R_form HO_7.out (by omega)
     (first | cases eo19 | (injection eo19 with ea_ en_ ec_; (first | subst ea_ | (injection ea_ with ea_; subst ea_)); subst ec_; clear en_))
     have GB19 := Aside0.mk gb19
     have GG19 := Aside0.mk HG19
     clear gb19 gl19 HG19
     obtain ⟨ce19, hcl19, hM19, hcc19, hfr19⟩ := Kd.R_elem HO_7.out z74 (x15_1 : Int) p19 q19
     obtain rfl := k74_openM hM19
     have hx19_0 : wr.cell? ⟨go19, (x15_1 : Int).toNat * 5, none⟩ = some (.int .i64 ((rd_T74 x7_1 x15_1).f0)) := hcc19 0 _ rfl
     have hx19_1 : wr.cell? ⟨go19, (x15_1 : Int).toNat * 5 + 1, none⟩ = some (.int .i64 ((rd_T74 x7_1 x15_1).f1)) := hcc19 1 _ rfl
     have hx19_2 : wr.cell? ⟨go19, (x15_1 : Int).toNat * 5 + 2, none⟩ = some (.int .i64 ((rd_T74 x7_1 x15_1).f2)) := hcc19 2 _ rfl
     have hx19_3 : wr.cell? ⟨go19, (x15_1 : Int).toNat * 5 + 3, none⟩ = some (.int .i64 ((rd_T74 x7_1 x15_1).f3)) := hcc19 3 _ rfl
     have hx19_4 : wr.cell? ⟨go19, (x15_1 : Int).toNat * 5 + 4, none⟩ = some (.int .i64 ((rd_T74 x7_1 x15_1).f4)) := hcc19 4 _ rfl
     have hf19_0 : wr.frozen? ⟨go19, (x15_1 : Int).toNat * 5, none⟩ = false := hfr19 0
     have hf19_1 : wr.frozen? ⟨go19, (x15_1 : Int).toNat * 5 + 1, none⟩ = false := hfr19 1
     have hf19_2 : wr.frozen? ⟨go19, (x15_1 : Int).toNat * 5 + 2, none⟩ = false := hfr19 2
     have hf19_3 : wr.frozen? ⟨go19, (x15_1 : Int).toNat * 5 + 3, none⟩ = false := hfr19 3
     have hf19_4 : wr.frozen? ⟨go19, (x15_1 : Int).toNat * 5 + 4, none⟩ = false := hfr19 4
     clear hcl19 hcc19 hfr19 hM19
     replace p19 := eq_true p19
     replace q19 := eq_true q19
     have HX22 := Aside0.mk (show Kd.R k74 74 wr w.heap.size (fun _ => True) (.slice (some ⟨go19, 0, none⟩) x7_1.length co14) x7_1 from (by (with_reducible repeat (first | apply Kd.R_alloc | apply Kd.R_drewN | apply Kd.R_drew)); exact HO_7.out))
     obtain ⟨ce22, hcl22, hM22, hcc22, hfr22⟩ := Kd.R_elem HX22.out z74 (x15_1 : Int) (zdec) (by have h_ : (x15_1 : Int) < ((x7_1.length : Int) : Int) := zdec; first | exact h_ | (have e_ := (Kd.R_reads' HO_7.out).1; omega) | simpa using h_)
     obtain rfl := k74_openM hM22
     have HP22 := Kd.R_seg HX22.out (x15_1 : Int) (zdec) (by have h_ : (x15_1 : Int) < ((x7_1.length : Int) : Int) := zdec; first | exact h_ | (have e_ := (Kd.R_reads' HO_7.out).1; omega) | simpa using h_) (seg := [.int .i64 2, .int .i64 0, .int .i64 a2_2, .int .i64 a2_3, .int .i64 x15_1]) (j := 0) hcl22 hcc22 (show 5 ≤ 5 from by decide) (x' := (⟨2, 0, a2_2, a2_3, x15_1⟩ : S74)) (k74_mkM _ _ _ (⟨2, 0, a2_2, a2_3, x15_1⟩ : S74) ) (fun _ hk => hk)
     have hx22_0 := hcc22 0 _ rfl
     (try simp only [show (k74).sz = 5 from rfl, Nat.mul_one, Nat.add_zero] at hx22_0)
     have hf22_0 := hfr22 0
     (try simp only [show (k74).sz = 5 from rfl, Nat.mul_one, Nat.add_zero] at hf22_0)
     have hx22_1 := hcc22 1 _ rfl
     (try simp only [show (k74).sz = 5 from rfl, Nat.mul_one, Nat.add_zero] at hx22_1)
     have hf22_1 := hfr22 1
     (try simp only [show (k74).sz = 5 from rfl, Nat.mul_one, Nat.add_zero] at hf22_1)
     have hx22_2 := hcc22 2 _ rfl
     (try simp only [show (k74).sz = 5 from rfl, Nat.mul_one, Nat.add_zero] at hx22_2)
     have hf22_2 := hfr22 2
     (try simp only [show (k74).sz = 5 from rfl, Nat.mul_one, Nat.add_zero] at hf22_2)
     have hx22_3 := hcc22 3 _ rfl
     (try simp only [show (k74).sz = 5 from rfl, Nat.mul_one, Nat.add_zero] at hx22_3)
     have hf22_3 := hfr22 3
     (try simp only [show (k74).sz = 5 from rfl, Nat.mul_one, Nat.add_zero] at hf22_3)
     have hx22_4 := hcc22 4 _ rfl
     (try simp only [show (k74).sz = 5 from rfl, Nat.mul_one, Nat.add_zero] at hx22_4)
     have hf22_4 := hfr22 4
     (try simp only [show (k74).sz = 5 from rfl, Nat.mul_one, Nat.add_zero] at hf22_4)
     clear hcl22 hcc22 hfr22 hM22
     go_wp2_with (first | ((with_reducible refine gate_store (t := 74) (p := 40) rfl ?_); refine store_event (t := 74) (p := 40) (v := ?vo_w23) (w1 := (((((wr.setCell ⟨go19, (x15_1 : Int).toNat * 5, none⟩ (.int .i64 2)).setCell ⟨go19, (x15_1 : Int).toNat * 5 + 1, none⟩ (.int .i64 0)).setCell ⟨go19, (x15_1 : Int).toNat * 5 + 2, none⟩ (.int .i64 a2_2)).setCell ⟨go19, (x15_1 : Int).toNat * 5 + 3, none⟩ (.int .i64 a2_3)).setCell ⟨go19, (x15_1 : Int).toNat * 5 + 4, none⟩ (.int .i64 x15_1))) ?hg ?ho ?hn ?hr ?_; (case ho => rfl); (case hg => rfl); (case hn => rfl); (case hr => first | (go_simp; done) | (go_simp; rfl)); intro w23 hw; have hg : wr.grownBy w23 (some go19) := (by rw [hw]; exact HP22.2); have hp_ : Kd.R k74 74 w23 w.heap.size (fun _ => True) (.slice (some ⟨go19, 0, none⟩) x7_1.length co14) y168 := (by rw [hw, Ny168.out]; exact HP22.1); clear HP22; have n0_ := Aside0.mk (hp_); have n1_ := Aside0.mk (blk_grown (g := gb162) (o := .cells #[.bool a0_0, .int .i64 a0_1] 29 (0, 0)) (zb BK162.out) hg (Kd.R_ne HO_7.out BK162.out (by decide))); have n2_ := Aside0.mk (blk_grown (g := gb163) (o := .cells #[.bool a2_0, .int .i64 a2_1, .int .i64 a2_2, .int .i64 a2_3] 62 (0, 0)) (zb BK163.out) hg (Kd.R_ne HO_7.out BK163.out (by decide))); have n3_ := Aside0.mk ((by rw [hw]; exact below_set (below_set (below_set (below_set (below_set (HB.out) GB19.out) GB19.out) GB19.out) GB19.out) GB19.out : Below w.heap.size w w23)); clear HO_7 BK162 BK163 HB; have HO_7 := n0_; have BK162 := n1_; have BK163 := n2_; have HB := n3_; clear n0_ n1_ n2_ n3_; clear hg hw hp_))
     (try simp only [← hl7_1])
     go_roundg k1
     case measure => have := HK1.out; omega
     case rel => exact ⟨(y168), (wrap64 (x15_1 + 1)), (zr), H', ⟨by have := HK1.out; omega⟩, ⟨by (try simp only [hl7_1]); (with_reducible repeat (first | apply Kd.R_alloc | apply Kd.R_drewN | apply Kd.R_drew)); exact HO_7.out⟩, ⟨by (try simp only [hl7_1]); (with_reducible repeat (first | refine blk_drewN ?_ _ | refine blk_drew ?_ | refine blk_alloc ?_ _)); exact BK162.out⟩, ⟨by (try simp only [hl7_1]); (with_reducible repeat (first | refine blk_drewN ?_ _ | refine blk_drew ?_ | refine blk_alloc ?_ _)); exact BK163.out⟩, ⟨zw2 HB.out GE162.out GE163.out⟩⟩
    rw [if_neg c16] at H
    have c16b0 : decide (0 < a2_2) = false := decide_eq_false c16
    clear c16
    obtain ⟨ji24, hji24⟩ : ∃ j_ : Int, (wrap64 (8 * x15_1)) = j_ := ⟨_, rfl⟩
    replace H : (if 0 ≤ (ji24) then (if 0 ≤ x15_1 then (if x15_1 < (x7_1.length : Int) then (bytes_Spell.l0 k1 a1 (x7_1.set (x15_1 : Int).toNat (⟨1, Go.bits .and .i64 (shr .i64 a2_1 (ji24)) 255, 0, 0, 0⟩ : S74)) (y165.length : Int) (wrap64 (x15_1 + 1)) a0_0 a0_1 a2_0 a2_1 a2_2 a2_3) else (none)) else (none)) else (none)) = some r := by first | (rw [hji24] at H; exact H) | (simp only [hji24] at H ⊢; exact H)
    have hji24w : (IntKind.i64.wrap (8 * x15_1)) = ji24 := (i64_w _).trans hji24
    by_cases c25 : 0 ≤ (ji24)
    rotate_left
    ·rw [if_neg c25] at H
     exact absurd H (by simp)
    rw [if_pos c25] at H
    have c25b0 := eq_true c25
    have c25b1 : decide (0 ≤ (ji24)) = true := decide_eq_true c25
    clear c25
    obtain ⟨ji26, hji26⟩ : ∃ j_ : Int, (shr .i64 a2_1 (ji24)) = j_ := ⟨_, rfl⟩
    replace H : (if 0 ≤ x15_1 then (if x15_1 < (x7_1.length : Int) then (bytes_Spell.l0 k1 a1 (x7_1.set (x15_1 : Int).toNat (⟨1, Go.bits .and .i64 (ji26) 255, 0, 0, 0⟩ : S74)) (y165.length : Int) (wrap64 (x15_1 + 1)) a0_0 a0_1 a2_0 a2_1 a2_2 a2_3) else (none)) else (none)) = some r := by first | (rw [hji26] at H; exact H) | (simp only [hji26] at H ⊢; exact H)
    have hji26_ : (a2_1 / 2 ^ min (ji24).toNat 64) = ji26 := hji26
    have hji26z : (ji24) ≤ 64 → (a2_1 / 2 ^ (ji24).toNat) = ji26 := shr_small hji26
    by_cases c27 : 0 ≤ x15_1
    rotate_left
    ·rw [if_neg c27] at H
     exact absurd H (by simp)
    rw [if_pos c27] at H
    have c27b0 : decide (0 ≤ x15_1) = true := decide_eq_true c27
    clear c27
    by_cases c28 : x15_1 < (x7_1.length : Int)
    rotate_left
    ·rw [if_neg c28] at H
     exact absurd H (by simp)
    rw [if_pos c28] at H
    have c28b0 : decide (x15_1 < (x7_1.length : Int)) = true := decide_eq_true c28
    clear c28
    obtain ⟨y169, hy169⟩ : ∃ y_ : List (S74), y_ = (x7_1.set (x15_1 : Int).toNat (⟨1, Go.bits .and .i64 (ji26) 255, 0, 0, 0⟩ : S74)) := ⟨_, rfl⟩
    replace H : (bytes_Spell.l0 k1 a1 y169 (y165.length : Int) (wrap64 (x15_1 + 1)) a0_0 a0_1 a2_0 a2_1 a2_2 a2_3) = some r := by first | (rw [hy169]; with_reducible exact H) | (have H2_ := (Option.bind_some _ _).symm.trans H; rw [hy169]; with_reducible exact H2_) | (have H2_ := (Option.bind_some _ _).symm.trans H; with_reducible exact H2_) | with_reducible exact H | (rw [hy169]; exact H) | exact H
    have Ny169 := Aside0.mk hy169
    clear hy169
    have H' := Aside0.mk H
    clear H
    have hnb30 := NB163_162.out
    have hnc30 := NB162_163.out
    have hcz31_0 := zc BK163.out 0
    have hcz31_1 := zc BK163.out 1
    have hcz31_2 := zc BK163.out 2
    have hcz31_3 := zc BK163.out 3
    have hfz31_0 := blk_frozen BK163.out 0
    have hfz31_1 := blk_frozen BK163.out 1
    have hfz31_2 := blk_frozen BK163.out 2
    have hfz31_3 := blk_frozen BK163.out 3
    have p29 : 0 ≤ (x15_1 : Int) := zdec
    have q29 : (x15_1 : Int) < ((x7_1.length : Int) : Int) := zdec
    obtain ⟨go29, co29, eo29, gb29, gl29, cl29, HG29⟩ := Kd.R_form HO_7.out (by omega)
    (first | cases eo29 | (injection eo29 with ea_ en_ ec_; (first | subst ea_ | (injection ea_ with ea_; subst ea_)); subst ec_; clear en_))
    have GB29 := Aside0.mk gb29
    have GG29 := Aside0.mk HG29
    clear gb29 gl29 HG29
    obtain ⟨ce29, hcl29, hM29, hcc29, hfr29⟩ := Kd.R_elem HO_7.out z74 (x15_1 : Int) p29 q29
    obtain rfl := k74_openM hM29
    have hx29_0 : wr.cell? ⟨go29, (x15_1 : Int).toNat * 5, none⟩ = some (.int .i64 ((rd_T74 x7_1 x15_1).f0)) := hcc29 0 _ rfl
    have hx29_1 : wr.cell? ⟨go29, (x15_1 : Int).toNat * 5 + 1, none⟩ = some (.int .i64 ((rd_T74 x7_1 x15_1).f1)) := hcc29 1 _ rfl
    have hx29_2 : wr.cell? ⟨go29, (x15_1 : Int).toNat * 5 + 2, none⟩ = some (.int .i64 ((rd_T74 x7_1 x15_1).f2)) := hcc29 2 _ rfl
    have hx29_3 : wr.cell? ⟨go29, (x15_1 : Int).toNat * 5 + 3, none⟩ = some (.int .i64 ((rd_T74 x7_1 x15_1).f3)) := hcc29 3 _ rfl
    have hx29_4 : wr.cell? ⟨go29, (x15_1 : Int).toNat * 5 + 4, none⟩ = some (.int .i64 ((rd_T74 x7_1 x15_1).f4)) := hcc29 4 _ rfl
    have hf29_0 : wr.frozen? ⟨go29, (x15_1 : Int).toNat * 5, none⟩ = false := hfr29 0
    have hf29_1 : wr.frozen? ⟨go29, (x15_1 : Int).toNat * 5 + 1, none⟩ = false := hfr29 1
    have hf29_2 : wr.frozen? ⟨go29, (x15_1 : Int).toNat * 5 + 2, none⟩ = false := hfr29 2
    have hf29_3 : wr.frozen? ⟨go29, (x15_1 : Int).toNat * 5 + 3, none⟩ = false := hfr29 3
    have hf29_4 : wr.frozen? ⟨go29, (x15_1 : Int).toNat * 5 + 4, none⟩ = false := hfr29 4
    clear hcl29 hcc29 hfr29 hM29
    replace p29 := eq_true p29
    replace q29 := eq_true q29
    have HX32 := Aside0.mk (show Kd.R k74 74 wr w.heap.size (fun _ => True) (.slice (some ⟨go29, 0, none⟩) x7_1.length co14) x7_1 from (by (with_reducible repeat (first | apply Kd.R_alloc | apply Kd.R_drewN | apply Kd.R_drew)); exact HO_7.out))
    obtain ⟨ce32, hcl32, hM32, hcc32, hfr32⟩ := Kd.R_elem HX32.out z74 (x15_1 : Int) (zdec) (by have h_ : (x15_1 : Int) < ((x7_1.length : Int) : Int) := zdec; first | exact h_ | (have e_ := (Kd.R_reads' HO_7.out).1; omega) | simpa using h_)
    obtain rfl := k74_openM hM32
    have HP32 := Kd.R_seg HX32.out (x15_1 : Int) (zdec) (by have h_ : (x15_1 : Int) < ((x7_1.length : Int) : Int) := zdec; first | exact h_ | (have e_ := (Kd.R_reads' HO_7.out).1; omega) | simpa using h_) (seg := [.int .i64 1, .int .i64 (Go.bits .and .i64 (ji26) 255), .int .i64 0, .int .i64 0, .int .i64 0]) (j := 0) hcl32 hcc32 (show 5 ≤ 5 from by decide) (x' := (⟨1, Go.bits .and .i64 (ji26) 255, 0, 0, 0⟩ : S74)) (k74_mkM _ _ _ (⟨1, Go.bits .and .i64 (ji26) 255, 0, 0, 0⟩ : S74) ) (fun _ hk => hk)
    have hx32_0 := hcc32 0 _ rfl
    (try simp only [show (k74).sz = 5 from rfl, Nat.mul_one, Nat.add_zero] at hx32_0)
    have hf32_0 := hfr32 0
    (try simp only [show (k74).sz = 5 from rfl, Nat.mul_one, Nat.add_zero] at hf32_0)
    have hx32_1 := hcc32 1 _ rfl
    (try simp only [show (k74).sz = 5 from rfl, Nat.mul_one, Nat.add_zero] at hx32_1)
    have hf32_1 := hfr32 1
    (try simp only [show (k74).sz = 5 from rfl, Nat.mul_one, Nat.add_zero] at hf32_1)
    have hx32_2 := hcc32 2 _ rfl
    (try simp only [show (k74).sz = 5 from rfl, Nat.mul_one, Nat.add_zero] at hx32_2)
    have hf32_2 := hfr32 2
    (try simp only [show (k74).sz = 5 from rfl, Nat.mul_one, Nat.add_zero] at hf32_2)
    have hx32_3 := hcc32 3 _ rfl
    (try simp only [show (k74).sz = 5 from rfl, Nat.mul_one, Nat.add_zero] at hx32_3)
    have hf32_3 := hfr32 3
    (try simp only [show (k74).sz = 5 from rfl, Nat.mul_one, Nat.add_zero] at hf32_3)
    have hx32_4 := hcc32 4 _ rfl
    (try simp only [show (k74).sz = 5 from rfl, Nat.mul_one, Nat.add_zero] at hx32_4)
    have hf32_4 := hfr32 4
    (try simp only [show (k74).sz = 5 from rfl, Nat.mul_one, Nat.add_zero] at hf32_4)
    clear hcl32 hcc32 hfr32 hM32
    go_wp2_with (first | ((with_reducible refine gate_store (t := 74) (p := 27) rfl ?_); refine store_event (t := 74) (p := 27) (v := ?vo_w33) (w1 := (((((wr.setCell ⟨go29, (x15_1 : Int).toNat * 5, none⟩ (.int .i64 1)).setCell ⟨go29, (x15_1 : Int).toNat * 5 + 1, none⟩ (.int .i64 (Go.bits .and .i64 (ji26) 255))).setCell ⟨go29, (x15_1 : Int).toNat * 5 + 2, none⟩ (.int .i64 0)).setCell ⟨go29, (x15_1 : Int).toNat * 5 + 3, none⟩ (.int .i64 0)).setCell ⟨go29, (x15_1 : Int).toNat * 5 + 4, none⟩ (.int .i64 0))) ?hg ?ho ?hn ?hr ?_; (case ho => rfl); (case hg => rfl); (case hn => rfl); (case hr => first | (go_simp; done) | (go_simp; rfl)); intro w33 hw; have hg : wr.grownBy w33 (some go29) := (by rw [hw]; exact HP32.2); have hp_ : Kd.R k74 74 w33 w.heap.size (fun _ => True) (.slice (some ⟨go29, 0, none⟩) x7_1.length co14) y169 := (by rw [hw, Ny169.out]; exact HP32.1); clear HP32; have n0_ := Aside0.mk (hp_); have n1_ := Aside0.mk (blk_grown (g := gb162) (o := .cells #[.bool a0_0, .int .i64 a0_1] 29 (0, 0)) (zb BK162.out) hg (Kd.R_ne HO_7.out BK162.out (by decide))); have n2_ := Aside0.mk (blk_grown (g := gb163) (o := .cells #[.bool a2_0, .int .i64 a2_1, .int .i64 a2_2, .int .i64 a2_3] 62 (0, 0)) (zb BK163.out) hg (Kd.R_ne HO_7.out BK163.out (by decide))); have n3_ := Aside0.mk ((by rw [hw]; exact below_set (below_set (below_set (below_set (below_set (HB.out) GB29.out) GB29.out) GB29.out) GB29.out) GB29.out : Below w.heap.size w w33)); clear HO_7 BK162 BK163 HB; have HO_7 := n0_; have BK162 := n1_; have BK163 := n2_; have HB := n3_; clear n0_ n1_ n2_ n3_; clear hg hw hp_))
    (try simp only [← hl7_1])
    go_roundg k1
    case measure => have := HK1.out; omega
    case rel => exact ⟨(y169), (wrap64 (x15_1 + 1)), (zr), H', ⟨by have := HK1.out; omega⟩, ⟨by (try simp only [hl7_1]); (with_reducible repeat (first | apply Kd.R_alloc | apply Kd.R_drewN | apply Kd.R_drew)); exact HO_7.out⟩, ⟨by (try simp only [hl7_1]); (with_reducible repeat (first | refine blk_drewN ?_ _ | refine blk_drew ?_ | refine blk_alloc ?_ _)); exact BK162.out⟩, ⟨by (try simp only [hl7_1]); (with_reducible repeat (first | refine blk_drewN ?_ _ | refine blk_drew ?_ | refine blk_alloc ?_ _)); exact BK163.out⟩, ⟨zw2 HB.out GE162.out GE163.out⟩⟩
 ·rw [if_neg c5] at H
  exact absurd H (by simp)

/-! ### The builtin copy, into a row of one's own, of elements of any kind -/
theorem run_copy_seg {P : Program} (w : World) (dT sT ty elem : TypeId) (g o dLen dCap sz : Nat) (a : Addr) (sLen sCap : Nat) (cur : Array Value) (t : TypeId) (cs : List Value)
    (hu : P.underlying dT = some (.slice elem)) (hs : (P.info? elem).map (·.size) = some sz) (hle : sLen ≤ dLen)
    (hg : w.heap[g]? = some (.cells cur t (0, 0))) (hn : cs.length = sLen * sz)
    (hsrc : ∀ j v, cs[j]? = some v → w.cell? (a.add j) = some v) (hfit : o + cs.length ≤ cur.size) (h1 : ∀ v ∈ cs, v.oneCell' = true) :
    (Builtin.copy_ #[dT, sT] ty #[.slice (some ⟨g, o, none⟩) dLen dCap, .slice (some a) sLen sCap]).run P w =
      .ok (goInt sLen) (w.setRow g (cur.toList.take o ++ cs ++ cur.toList.drop (o + cs.length)).toArray) := by
  have hl := run_loadCells_list (P := P) w a cs hsrc
  rw [hn] at hl
  have hst := run_storeCells_at P g o t cs 0 cur w hg (by simpa using hfit) h1
  have hmin : Nat.min sLen dLen = sLen := Nat.min_eq_left hle
  cases hq : P.info? elem with
  | none => simp [hq] at hs
  | some i =>
    have hi : i.size = sz := by simpa [hq] using hs
    simp [Builtin.copy_, run_underlying hu, Builtin.lenOf, Builtin.firstCells, sizeOf, typeInfo, hq, hi, hmin, hl, hst]
theorem chunk_get (cs : List Value) (j sz q : Nat) : ((cs.drop (j * sz)).take sz)[q]? = if q < sz then cs[j * sz + q]? else none := by
  rw [List.getElem?_take]
  split
  · rw [List.getElem?_drop]
  · rfl
theorem R_copy {W : World} {base bs : Nat} {ok oks : Nat → Prop} {g gs n cap m cap2 : Nat} {xs ys : List S74} (o : Nat) (h : Kd.R k74 74 W base ok (.slice (some ⟨g, 0, none⟩) n cap) xs) (hy : Kd.R k74 74 W bs oks (.slice (some ⟨gs, 0, none⟩) m cap2) ys)
    (hfit : o + ys.length ≤ xs.length) (dT sT ty : TypeId) (hu : Try.prog.underlying dT = some (.slice 74)) (dLen dCap : Nat) (hle : m ≤ dLen) :
    ∃ W', (Builtin.copy_ #[dT, sT] ty #[.slice (some ⟨g, o * 5, none⟩) dLen dCap, .slice (some ⟨gs, 0, none⟩) m cap2]).run Try.prog W = .ok (goInt m) W' ∧
      Kd.R k74 74 W' base ok (.slice (some ⟨g, 0, none⟩) n cap) (xs.take o ++ ys ++ xs.drop (o + ys.length)) ∧ W.grownBy W' (some g) := by
  obtain ⟨hn, hnc, _⟩ := Kd.R_reads' h
  obtain ⟨hm, _, _⟩ := Kd.R_reads' hy
  obtain ⟨_, iy, hoy, hry⟩ := hy
  obtain ⟨hok, inner, ⟨hil, ho2⟩, hr⟩ := h
  rcases ho2 with ⟨hv, _⟩ | ⟨g', cap', cur, hv, hbg, hheap, hnc', hcm, hcs, ht⟩
  · cases hv
  injection hv with ha hn' hc
  injection ha with ha
  injection ha with ha _
  subst ha
  subst hc
  have hsz : k74.sz = 5 := rfl
  replace hcs : cur.size = cap * 5 := hcs
  replace ht : List.take (xs.length * 5) cur.toList = inner := ht
  replace hry : Reps (k74.M W bs fun k => oks k ∧ some k ≠ (Value.slice (some ⟨gs, 0, none⟩) m cap2).ownBlock) 5 ys iy := hry
  replace hr : Reps (k74.M W base fun k => ok k ∧ some k ≠ (Value.slice (some ⟨g, 0, none⟩) n cap).ownBlock) 5 xs inner := hr
  have h2 : (xs.take o ++ ys ++ xs.drop (o + ys.length)).length = xs.length := by
    rw [List.length_append, List.length_append, List.length_take, List.length_drop]
    omega
  have hiy : iy.length = ys.length * 5 := hry.1
  have hil2 : inner.length = xs.length * 5 := hr.1
  have hfit5 : o * 5 + iy.length ≤ inner.length := by rw [hiy, hil2]; omega
  have hilc : inner.length ≤ cur.size := by
    rw [← ht, List.length_take]
    have : cur.toList.length = cur.size := Array.length_toList
    omega
  have h1 : ∀ v ∈ iy, v.oneCell' = true := by
    intro v hvv
    obtain ⟨j, hj⟩ := List.mem_iff_getElem?.1 hvv
    have hjl : j < iy.length := (List.getElem?_eq_some_iff.1 hj).1
    have hq : j / 5 < ys.length := by omega
    have hp := hry.2 (j / 5) _ (List.getElem?_eq_getElem hq)
    have hone := k74.K_one (k74.K_of_M hp) v (List.mem_iff_getElem?.2 ⟨j % 5, by rw [chunk_get, if_pos (Nat.mod_lt j (by decide : 0 < 5)), show j / 5 * 5 + j % 5 = j by omega]; exact hj⟩)
    exact hone
  have hrun := run_copy_seg (P := Try.prog) W dT sT ty 74 g (o * 5) dLen dCap 5 ⟨gs, 0, none⟩ m cap2 cur 74 iy hu (by kernel_rfl) hle hheap (by rw [hiy, hm]) (fun j v hj => hoy.cells (by simp [Value.ownBlock]) j v hj) (by omega) h1
  refine ⟨_, hrun, ⟨hok, inner.take (o * 5) ++ iy ++ inner.drop (o * 5 + iy.length), ⟨?_, .inr ⟨g, cap, _, ?_, hbg, setRow_heap W g cur _ 74 (0, 0) hheap, by rw [h2]; exact hnc', hcm, ?_, ?_⟩⟩, ?_, ?_⟩, ⟨by simp, by simp, by simp, by simp, fun k hk hne => setRow_other W g k _ (fun e_ => hne (by rw [e_]))⟩⟩
  · rw [h2, List.length_append, List.length_append, List.length_take, List.length_drop]
    show _ = xs.length * 5
    omega
  · rw [h2, hn']
  · show (cur.toList.take (o * 5) ++ iy ++ cur.toList.drop (o * 5 + iy.length)).toArray.size = cap * 5
    rw [List.size_toArray, List.length_append, List.length_append, List.length_take, List.length_drop, Array.length_toList]
    omega
  · rw [h2]
    apply List.ext_getElem?
    intro q
    have hcl0 : cur.toList.length = cur.size := Array.length_toList
    have hcl : o * 5 + iy.length ≤ cur.toList.length := by omega
    show ((cur.toList.take (o * 5) ++ iy ++ cur.toList.drop (o * 5 + iy.length)).take (xs.length * 5))[q]? = _
    rw [List.getElem?_take, seg_get _ _ _ hcl, seg_get _ _ _ hfit5]
    have hin : ∀ q, inner[q]? = if q < xs.length * 5 then cur.toList[q]? else none := by
      intro q
      rw [← ht, List.getElem?_take]
    by_cases hq : q < xs.length * 5
    · simp only [hin, if_pos hq]
    · rw [if_neg hq, if_neg (by omega), if_neg (by omega), hin, if_neg hq]
  · rw [h2, List.length_append, List.length_append, List.length_take, List.length_drop]
    show _ = xs.length * 5
    omega
  · intro j p hj
    rw [hsz]
    rw [seg_get _ _ _ hfit] at hj
    have hch : ∀ (l2 : List Value) (j2 : Nat), (∀ q, q < 5 → (inner.take (o * 5) ++ iy ++ inner.drop (o * 5 + iy.length))[j * 5 + q]? = l2[j2 * 5 + q]?) →
        ((inner.take (o * 5) ++ iy ++ inner.drop (o * 5 + iy.length)).drop (j * 5)).take 5 = (l2.drop (j2 * 5)).take 5 := by
      intro l2 j2 hh
      apply List.ext_getElem?
      intro q
      rw [chunk_get, chunk_get]
      by_cases hq : q < 5
      · rw [if_pos hq, if_pos hq, hh q hq]
      · rw [if_neg hq, if_neg hq]
    by_cases hjo : j < o
    · rw [if_pos hjo] at hj
      rw [hch inner j (fun q hq => by rw [seg_get _ _ _ hfit5, if_pos (by omega)])]
      exact kB_M W _ _ _ _ _ (k74.K_of_M (hr.2 j p hj))
    · rw [if_neg hjo] at hj
      by_cases hjy : j < o + ys.length
      · rw [if_pos hjy] at hj
        rw [hch iy (j - o) (fun q hq => by rw [seg_get _ _ _ hfit5, if_neg (by omega), if_pos (by omega), show j * 5 + q - o * 5 = (j - o) * 5 + q by omega])]
        exact kB_M W _ _ _ _ _ (k74.K_of_M (hry.2 (j - o) p hj))
      · rw [if_neg hjy] at hj
        rw [hch inner j (fun q hq => by rw [seg_get _ _ _ hfit5, if_neg (by omega), if_neg (by omega)])]
        exact kB_M W _ _ _ _ _ (k74.K_of_M (hr.2 j p hj))
/-! cellar/mem.Lay -/
theorem copy_step {P : Program} {ops : Array Oper} {o : Oper} {a : Act} {Q : Exit → Act → World → Prop} {Kc : Act → World → Prop} {W W1 : World} {v x y : Value} (hw : Region.wanted o (yielded ops a.tmps) = true) (d s : Operand) (dT sT : TypeId)
    (ho : o.op = .call { callee := .builtin .copy, args := #[d, s], argTypes := #[dT, sT] }) (hd : a.eval d = x) (hs : a.eval s = y) (hrun : (Builtin.copy_ #[dT, sT] o.type #[x, y]).run P W = .ok v W1) (h : Kc (a.put o.dst v) W1) :
    if Region.wanted o (yielded ops a.tmps) = true then Oper.wp P o a W Kc Q else Kc (a.put o.dst undef) W := by
  rw [if_pos hw]
  unfold Oper.wp
  simp [execOp, ho, resolve, invoke, builtin, hd, hs, hrun, Result.andThen]
  exact h
def mem_Lay.f (k : Nat) (a0_0 : Bool) (a0_1 : Int) (l1 : List S76) (a2_0 : Bool) (a2_1 a2_2 a2_3 a3 : Int) (a4_0 : Bool) (a4_1 a4_2 a4_3 : Int) : Option (List S76 × Int) :=
  (mem_Way.f a0_0 a0_1 l1 a2_0 a2_1 a2_2 a2_3 a3).bind fun t => if t = 0 then (if 0 ≤ a2_2 then (if a2_2 < (l1.length : Int) then (if 0 ≤ a2_3 then ((bytes_Spell.f k a0_0 a0_1 a3 a4_0 a4_1 a4_2 a4_3).bind fun y => (if 0 < y.length then (if a2_3.toNat + y.length ≤ (rd_T76 l1 a2_2).f1.length then some (l1.set a2_2.toNat ⟨(rd_T76 l1 a2_2).f0, (rd_T76 l1 a2_2).f1.take a2_3.toNat ++ y ++ (rd_T76 l1 a2_2).f1.drop (a2_3.toNat + y.length)⟩, t) else none) else none)) else none) else none) else none) else some (l1, t)
theorem mem_Lay.mono : ∀ a0 a1 a2 a3 a4 a5 a6 a7 a8 a9 a10 a11 k, LeO (mem_Lay.f k a0 a1 a2 a3 a4 a5 a6 a7 a8 a9 a10 a11) (mem_Lay.f (k + 1) a0 a1 a2 a3 a4 a5 a6 a7 a8 a9 a10 a11) := by
  intro a0 a1 a2 a3 a4 a5 a6 a7 a8 a9 a10 a11 k
  unfold mem_Lay.f
  repeat' first
   | (with_reducible apply bytes_Spell.mono)
   | (with_reducible apply LeO.refl)
   | (with_reducible apply LeO.none)
   | (with_reducible refine LeO.ite ?_ ?_)
   | (with_reducible refine LeO.bind ?_ (fun _ => ?_))
set_option maxHeartbeats 8000000 in
set_option maxRecDepth 100000 in
theorem lay_calls (k : Nat) (a0_0 : Bool) (a0_1 : Int) (v : Value) (l1 : List S76) (a2_0 : Bool) (a2_1 a2_2 a2_3 a3 : Int) (a4_0 : Bool) (a4_1 a4_2 a4_3 : Int) (r1 : List S76) (r2 : Int) (w0 w : World) (HB0 : Below w0.heap.size w0 w) (HS : Kd.S k76 76 w w0.heap.size (fun _ => True) v l1)
    (h : mem_Lay.f k a0_0 a0_1 l1 a2_0 a2_1 a2_2 a2_3 a3 a4_0 a4_1 a4_2 a4_3 = some (r1, r2)) :
  Calls Try.prog 69 #[.agg #[.bool a0_0, .int .i64 a0_1], v, .agg #[.bool a2_0, .int .i64 a2_1, .int .i64 a2_2, .int .i64 a2_3], .int .i64 a3, .agg #[.bool a4_0, .int .i64 a4_1, .int .i64 a4_2, .int .i64 a4_3]] w fun e w' => e = .returned (.int .i64 r2) ∧ Kd.S k76 76 w' w0.heap.size (fun _ => True) v r1 ∧ Below w0.heap.size w0 w' := by
 have hu29 := Try.underlying29
 have hu62 := Try.underlying62
 have hu76 := Try.underlying76
 obtain ⟨A, c, rfl⟩ := Kd.S_slice HS
 have HR := Aside0.mk (Kd.S_reads' HS).2.2
 have HC := Aside0.mk (Kd.S_reads' HS).2.1
 have HS0 := Aside0.mk HS
 have HBz := Aside0.mk HB0
 clear HS HB0
 unfold mem_Lay.f at h
 obtain ⟨t, hw, H⟩ := Option.bind_eq_some_iff.1 h
 have HW := Aside0.mk hw
 clear h hw
 by_cases t0 : t = 0
 case neg =>
  rw [if_neg t0] at H
  have t0b : (t == 0) = false := beq_eq_false_iff_ne.mpr t0
  simp only [Option.some.injEq, Prod.mk.injEq] at H
  obtain ⟨rfl, rfl⟩ := H
  clear t0
  go_enter Try.func69, Try.ntmps69
  go_wp2_with (first | ((with_reducible refine gate_dst (N := 5) rfl ?_); refine zbox (N := 5) (cs := #[.bool a0_0, .int .i64 a0_1]) (t := 29) ?_; intro g5 hg w5 hbox hb; have HB5 := Aside0.mk hb; have BK5 := Aside0.mk hbox; have HG5 := Aside0.mk hg; clear hb hbox hg) | ((with_reducible refine gate_dst (N := 7) rfl ?_); refine zbox (N := 7) (cs := #[.bool a2_0, .int .i64 a2_1, .int .i64 a2_2, .int .i64 a2_3]) (t := 62) ?_; intro g7 hg w7 hbox hb; have HB7 := Aside0.mk hb; have BK7 := Aside0.mk hbox; have HG7 := Aside0.mk hg; clear hb hbox hg) | ((with_reducible refine gate_dst (N := 9) rfl ?_); refine zbox (N := 9) (cs := #[.bool a4_0, .int .i64 a4_1, .int .i64 a4_2, .int .i64 a4_3]) (t := 62) ?_; intro g9 hg w9 hbox hb; have HB9 := Aside0.mk hb; have BK9 := Aside0.mk hbox; have HG9 := Aside0.mk hg; clear hb hbox hg; have K5 := Aside0.mk (blk_below (blk_below BK5.out HB7.out) HB9.out); have K7 := Aside0.mk (blk_below BK7.out HB9.out); have HB := Aside0.mk (below_step (below_step HB5.out HB7.out) HB9.out); clear BK5 BK7 HB5 HB7; have hc5_0 : w9.cell? ⟨g5, 0, none⟩ = some (.bool a0_0) := (blk_cell K5.out 0).trans rfl; have hc5_1 : w9.cell? ⟨g5, 1, none⟩ = some (.int .i64 a0_1) := (blk_cell K5.out 1).trans rfl; have hc7_0 : w9.cell? ⟨g7, 0, none⟩ = some (.bool a2_0) := (blk_cell K7.out 0).trans rfl; have hc7_1 : w9.cell? ⟨g7, 1, none⟩ = some (.int .i64 a2_1) := (blk_cell K7.out 1).trans rfl; have hc7_2 : w9.cell? ⟨g7, 2, none⟩ = some (.int .i64 a2_2) := (blk_cell K7.out 2).trans rfl; have hc7_3 : w9.cell? ⟨g7, 3, none⟩ = some (.int .i64 a2_3) := (blk_cell K7.out 3).trans rfl) | (go_at_call 103; refine (mem_Way.calls a0_0 a0_1 _ _ l1 a2_0 a2_1 a2_2 a2_3 a3 t _ (Kd.C_below HR.out HB.out) HC.out HW.out).mono ?_; rintro e w10 ⟨rfl, hb⟩; have HX := Aside0.mk (below_step HB.out hb); have X5 := Aside0.mk (blk_below K5.out hb); have X7 := Aside0.mk (blk_below K7.out hb); have X9 := Aside0.mk (blk_below BK9.out hb); clear hb K5 K7 BK9 HB hc5_0 hc5_1 hc7_0 hc7_1 hc7_2 hc7_3))
  go_ret
  exact ⟨by first | rfl | (simp [*]; done), Kd.S_below HS0.out HX.out, below_then HBz.out HBz.out.size HX.out⟩
 rw [if_pos t0] at H
 have t0b : (t == 0) = true := beq_iff_eq.mpr t0
 by_cases p0 : 0 ≤ a2_2
 case neg => rw [if_neg p0] at H; cases H
 rw [if_pos p0] at H
 by_cases p1 : a2_2 < (l1.length : Int)
 case neg => rw [if_neg p1] at H; cases H
 rw [if_pos p1] at H
 by_cases p2 : 0 ≤ a2_3
 case neg => rw [if_neg p2] at H; cases H
 rw [if_pos p2] at H
 obtain ⟨y, hy, H⟩ := Option.bind_eq_some_iff.1 H
 have HY := Aside0.mk hy
 clear hy
 by_cases p3 : 0 < y.length
 case neg => rw [if_neg p3] at H; cases H
 rw [if_pos p3] at H
 generalize hx : rd_T76 l1 a2_2 = x at H
 by_cases p4 : a2_3.toNat + y.length ≤ x.f1.length
 case neg => rw [if_neg p4] at H; cases H
 rw [if_pos p4] at H
 simp only [Option.some.injEq, Prod.mk.injEq] at H
 obtain ⟨rfl, rfl⟩ := H
 have P0 := Aside0.mk p0
 have P1 := Aside0.mk p1
 have P2 := Aside0.mk p2
 have P3 := Aside0.mk p3
 have P4 := Aside0.mk p4
 have XE := Aside0.mk hx
 have T0 := Aside0.mk t0
 clear p0 p1 p2 p3 p4 hx t0
 go_enter Try.func69, Try.ntmps69
 go_upto_region 3 with (first | ((with_reducible refine gate_dst (N := 5) rfl ?_); refine zbox (N := 5) (cs := #[.bool a0_0, .int .i64 a0_1]) (t := 29) ?_; intro g5 hg w5 hbox hb; have HB5 := Aside0.mk hb; have BK5 := Aside0.mk hbox; have HG5 := Aside0.mk hg; clear hb hbox hg) | ((with_reducible refine gate_dst (N := 7) rfl ?_); refine zbox (N := 7) (cs := #[.bool a2_0, .int .i64 a2_1, .int .i64 a2_2, .int .i64 a2_3]) (t := 62) ?_; intro g7 hg w7 hbox hb; have HB7 := Aside0.mk hb; have BK7 := Aside0.mk hbox; have HG7 := Aside0.mk hg; clear hb hbox hg) | ((with_reducible refine gate_dst (N := 9) rfl ?_); refine zbox (N := 9) (cs := #[.bool a4_0, .int .i64 a4_1, .int .i64 a4_2, .int .i64 a4_3]) (t := 62) ?_; intro g9 hg w9 hbox hb; have HB9 := Aside0.mk hb; have BK9 := Aside0.mk hbox; have HG9 := Aside0.mk hg; clear hb hbox hg; have K5 := Aside0.mk (blk_below (blk_below BK5.out HB7.out) HB9.out); have K7 := Aside0.mk (blk_below BK7.out HB9.out); have HB := Aside0.mk (below_step (below_step HB5.out HB7.out) HB9.out); clear BK5 BK7 HB5 HB7; have hc5_0 : w9.cell? ⟨g5, 0, none⟩ = some (.bool a0_0) := (blk_cell K5.out 0).trans rfl; have hc5_1 : w9.cell? ⟨g5, 1, none⟩ = some (.int .i64 a0_1) := (blk_cell K5.out 1).trans rfl; have hc7_0 : w9.cell? ⟨g7, 0, none⟩ = some (.bool a2_0) := (blk_cell K7.out 0).trans rfl; have hc7_1 : w9.cell? ⟨g7, 1, none⟩ = some (.int .i64 a2_1) := (blk_cell K7.out 1).trans rfl; have hc7_2 : w9.cell? ⟨g7, 2, none⟩ = some (.int .i64 a2_2) := (blk_cell K7.out 2).trans rfl; have hc7_3 : w9.cell? ⟨g7, 3, none⟩ = some (.int .i64 a2_3) := (blk_cell K7.out 3).trans rfl) | (go_at_call 103; refine (mem_Way.calls a0_0 a0_1 _ _ l1 a2_0 a2_1 a2_2 a2_3 a3 t _ (Kd.C_below HR.out HB.out) HC.out HW.out).mono ?_; rintro e w10 ⟨rfl, hb⟩; have HX := Aside0.mk (below_step HB.out hb); have X5 := Aside0.mk (blk_below K5.out hb); have X7 := Aside0.mk (blk_below K7.out hb); have X9 := Aside0.mk (blk_below BK9.out hb); clear hb K5 K7 BK9 HB hc5_0 hc5_1 hc7_0 hc7_1 hc7_2 hc7_3))
 have HBd := Aside0.mk (below_drew1 HX.out)
 have D5 := Aside0.mk (blk_drew X5.out)
 have D7 := Aside0.mk (blk_drew X7.out)
 have D9 := Aside0.mk (blk_drew X9.out)
 have HSd := Aside0.mk (Kd.S_below HS0.out HBd.out)
 obtain ⟨ad, A1, c1, e0, hx0, hx1, hl1, hi1⟩ := at_T76 (Kd.S_reads' HSd.out).2.2 a2_2 P0.out P1.out
 rw [XE.out] at hx0 hx1 hl1 hi1
 cases e0
 obtain ⟨oki, ce, hcl, hM, hcc, hok, hbk⟩ := Kd.S_borrow HSd.out z76 a2_2 P0.out P1.out
 obtain ⟨ve, rfl, ge⟩ := k76_openM hM
 have hv := hcc 1 _ rfl
 rw [add_field _ _ 1 (by omega)] at hv
 replace hv := Option.some.inj (hv.symm.trans hx1)
 subst hv
 replace ge : Kd.R k74 74 _ _ _ _ x.f1 := (show l1.getD a2_2.toNat z76 = x from XE.out) ▸ ge
 obtain ⟨gB, capB, eB, hbB, hgB, hclB⟩ := Kd.R_form ge (by have := P3.out; have := P4.out; omega)
 injection eB with eB1 _ eB2
 subst eB1
 subst eB2
 have GE := Aside0.mk ge
 have BKk := Aside0.mk (fun (w1 : World) (x' : S76) (hg : World.grownBy _ w1 (some gB)) (hR : Kd.R k74 74 w1 w0.heap.size oki (.slice (some ⟨gB, 0, none⟩) x.f1.length c1) x'.f1) (h0 : x'.f0 = x.f0) =>
   hbk (row := some gB) (x' := x') hg (fun q hq => by injection hq with hq; subst hq; exact ge.1 _ rfl) (by have h1_ := k76_mkM w1 w0.heap.size oki x' hR; rw [h0] at h1_; rw [show l1.getD a2_2.toNat z76 = x from XE.out]; exact h1_))
 clear hbk hok hM hcc hcl
 have q0 := eq_true P0.out
 have q1 := eq_true P1.out
 obtain ⟨i0, hi0, _, hsz0, _⟩ := info_parts info74
 have hcut0 := cut_from (P := Try.prog) 72 74 .i64 Try.underlying72 hi0 5 hsz0 (some ⟨gB, 0, none⟩) x.f1.length c1 a2_3 P2.out (by have := P4.out; omega)
 have hcut : ∀ W : World, (Instr.slice 72 (.slice (some ⟨gB, 0, none⟩) x.f1.length c1) (some (.int .i64 a2_3)) none none).run Try.prog W = .ok (.slice (some ⟨gB, a2_3.toNat * 5, none⟩) (x.f1.length - a2_3.toNat) (c1 - a2_3.toNat)) W := fun W => by
   rw [hcut0 W, if_neg (by have := P3.out; have := P4.out; omega), Option.map_some, add_plain]
 clear hcut0 hi0 hsz0
 refine start_ (n := 14) (S := fun w' => w'.cell? ⟨g5, 0, none⟩ = some (.bool a0_0) ∧ w'.cell? ⟨g5, 1, none⟩ = some (.int .i64 a0_1) ∧ w'.cell? ⟨g7, 0, none⟩ = some (.bool a2_0) ∧ w'.cell? ⟨g7, 1, none⟩ = some (.int .i64 a2_1) ∧ w'.cell? ⟨g7, 2, none⟩ = some (.int .i64 a2_2) ∧ w'.cell? ⟨g7, 3, none⟩ = some (.int .i64 a2_3) ∧ w'.cell? ⟨g9, 0, none⟩ = some (.bool a4_0) ∧ w'.cell? ⟨g9, 1, none⟩ = some (.int .i64 a4_1) ∧ w'.cell? ⟨g9, 2, none⟩ = some (.int .i64 a4_2) ∧ w'.cell? ⟨g9, 3, none⟩ = some (.int .i64 a4_3) ∧ w'.cell? (ad.add (a2_2.toNat * 2)) = some (.int .i64 x.f0) ∧ w'.cell? ⟨(ad.add (a2_2.toNat * 2)).block, (ad.add (a2_2.toNat * 2)).off + 1, none⟩ = some (.slice (some ⟨gB, 0, none⟩) x.f1.length c1)) (ds := [13]) #[false,false,false,false,false,false,false,false,false,false,false,false,false,false] (by kernel_rfl) rfl rfl ⟨(blk_cell D5.out 0).trans rfl, (blk_cell D5.out 1).trans rfl, (blk_cell D7.out 0).trans rfl, (blk_cell D7.out 1).trans rfl, (blk_cell D7.out 2).trans rfl, (blk_cell D7.out 3).trans rfl, (blk_cell D9.out 0).trans rfl, (blk_cell D9.out 1).trans rfl, (blk_cell D9.out 2).trans rfl, (blk_cell D9.out 3).trans rfl, hx0, hx1⟩ (fun hHeld => ?_)
 generalize w10.drew = w11 at HBd D5 D7 D9 HSd hx0 hx1 hgB hclB GE ge BKk hi1 hHeld ⊢
 refine pure_ (i := 0) (N := some 19) (v := ?_) (a' := ?_) #[true,false,false,false,false,false,false,false,false,false,false,false,false,false] rfl rfl (by kernel_rfl) (fun _ _ _ h => h) (Or.inl ⟨by rfl, ?_⟩) ?_ ?_
 rotate_left
 · intro w'
   go_simp
   with_reducible rfl
 rotate_left
 · simp only [Act.put, List.setIfInBounds_toArray, List.set_cons_zero, List.set_cons_succ, i64_w, i32_w]
   rfl
 refine pure_ (i := 1) (N := some 20) (v := ?_) (a' := ?_) #[true,true,false,false,false,false,false,false,false,false,false,false,false,false] rfl rfl (by kernel_rfl) (fun _ _ _ h => h) (Or.inl ⟨by rfl, ?_⟩) ?_ ?_
 rotate_left
 · intro w'
   go_simp
   with_reducible rfl
 rotate_left
 · simp only [Act.put, List.setIfInBounds_toArray, List.set_cons_zero, List.set_cons_succ, i64_w, i32_w]
   rfl
 refine pure_ (i := 6) (N := some 25) (v := ?_) (a' := ?_) #[true,true,false,false,false,false,true,false,false,false,false,false,false,false] rfl rfl (by kernel_rfl) (fun _ _ _ h => h) (Or.inl ⟨by rfl, ?_⟩) ?_ ?_
 rotate_left
 · intro w'
   go_simp
   with_reducible rfl
 rotate_left
 · simp only [Act.put, List.setIfInBounds_toArray, List.set_cons_zero, List.set_cons_succ, i64_w, i32_w]
   rfl
 refine pure_ (i := 10) (N := some 29) (v := ?_) (a' := ?_) #[true,true,false,false,false,false,true,false,false,false,true,false,false,false] rfl rfl (by kernel_rfl) (fun _ _ _ h => h) (Or.inl ⟨by rfl, ?_⟩) ?_ ?_
 rotate_left
 · intro w'
   go_simp
   with_reducible rfl
 rotate_left
 · simp only [Act.put, List.setIfInBounds_toArray, List.set_cons_zero, List.set_cons_succ, i64_w, i32_w]
   rfl
 refine take_ (i := 2) (N := some 21) (v := ?_) (a' := ?_) #[true,true,true,false,false,false,true,false,false,false,true,false,false,false] rfl rfl (by kernel_rfl) (fun _ _ _ h => h) (Or.inl ⟨by rfl, ?_⟩) hHeld ?_ ?_
 rotate_left
 · rintro w' ⟨s0, s1, s2, s3, s4, s5, s6, s7, s8, s9, s10, s11⟩
   go_simp
   with_reducible rfl
 rotate_left
 · simp only [Act.put, List.setIfInBounds_toArray, List.set_cons_zero, List.set_cons_succ, i64_w, i32_w]
   rfl
 refine pure_ (i := 3) (N := some 22) (v := ?_) (a' := ?_) #[true,true,true,true,false,false,true,false,false,false,true,false,false,false] rfl rfl (by kernel_rfl) (fun _ _ _ h => h) (Or.inl ⟨by rfl, ?_⟩) ?_ ?_
 rotate_left
 · intro w'
   go_simp
   with_reducible rfl
 rotate_left
 · simp only [Act.put, List.setIfInBounds_toArray, List.set_cons_zero, List.set_cons_succ, i64_w, i32_w]
   rfl
 refine pure_ (i := 4) (N := some 23) (v := ?_) (a' := ?_) #[true,true,true,true,true,false,true,false,false,false,true,false,false,false] rfl rfl (by kernel_rfl) (fun _ _ _ h => h) (Or.inl ⟨by rfl, ?_⟩) ?_ ?_
 rotate_left
 · intro w'
   go_simp
   with_reducible rfl
 rotate_left
 · simp only [Act.put, List.setIfInBounds_toArray, List.set_cons_zero, List.set_cons_succ, i64_w, i32_w]
   rfl
 refine take_ (i := 5) (N := some 24) (v := ?_) (a' := ?_) #[true,true,true,true,true,true,true,false,false,false,true,false,false,false] rfl rfl (by kernel_rfl) (fun _ _ _ h => h) (Or.inl ⟨by rfl, ?_⟩) hHeld ?_ ?_
 rotate_left
 · rintro w' ⟨s0, s1, s2, s3, s4, s5, s6, s7, s8, s9, s10, s11⟩
   go_simp
   with_reducible rfl
 rotate_left
 · simp only [Act.put, List.setIfInBounds_toArray, List.set_cons_zero, List.set_cons_succ, i64_w, i32_w]
   rfl
 refine take_ (i := 7) (N := some 26) (v := ?_) (a' := ?_) #[true,true,true,true,true,true,true,true,false,false,true,false,false,false] rfl rfl (by kernel_rfl) (fun _ _ _ h => h) (Or.inl ⟨by rfl, ?_⟩) hHeld ?_ ?_
 rotate_left
 · rintro w' ⟨s0, s1, s2, s3, s4, s5, s6, s7, s8, s9, s10, s11⟩
   go_simp
   with_reducible rfl
 rotate_left
 · simp only [Act.put, List.setIfInBounds_toArray, List.set_cons_zero, List.set_cons_succ, i64_w, i32_w]
   rfl
 refine pure_ (i := 8) (N := some 27) (v := ?_) (a' := ?_) #[true,true,true,true,true,true,true,true,true,false,true,false,false,false] rfl rfl (by kernel_rfl) (fun _ _ _ h => h) (Or.inl ⟨by rfl, ?_⟩) ?_ ?_
 rotate_left
 · intro w'
   go_simp
   with_reducible rfl
 rotate_left
 · simp only [Act.put, List.setIfInBounds_toArray, List.set_cons_zero, List.set_cons_succ, i64_w, i32_w]
   rfl
 refine take_ (i := 9) (N := some 28) (v := ?_) (a' := ?_) #[true,true,true,true,true,true,true,true,true,true,true,false,false,false] rfl rfl (by kernel_rfl) (fun _ _ _ h => h) (Or.inl ⟨by rfl, ?_⟩) hHeld ?_ ?_
 rotate_left
 · rintro w' ⟨s0, s1, s2, s3, s4, s5, s6, s7, s8, s9, s10, s11⟩
   go_simp
   with_reducible rfl
 rotate_left
 · simp only [Act.put, List.setIfInBounds_toArray, List.set_cons_zero, List.set_cons_succ, i64_w, i32_w]
   rfl
 refine take_ (i := 11) (N := some 30) (v := ?_) (a' := ?_) #[true,true,true,true,true,true,true,true,true,true,true,true,false,false] rfl rfl (by kernel_rfl) (fun _ _ _ h => h) (Or.inl ⟨by rfl, ?_⟩) hHeld ?_ ?_
 rotate_left
 · rintro w' ⟨s0, s1, s2, s3, s4, s5, s6, s7, s8, s9, s10, s11⟩
   go_simp
   with_reducible rfl
 rotate_left
 · simp only [Act.put, List.setIfInBounds_toArray, List.set_cons_zero, List.set_cons_succ, i64_w, i32_w]
   rfl
 refine one_ (i := 12) (N := some 31) #[true,true,true,true,true,true,true,true,true,true,true,true,true,false] rfl rfl (by kernel_rfl) (by decide) (fun K hK => ?_)
 refine goes_ Try.func104 (by kernel_rfl) rfl #[.agg #[.bool a0_0, .int .i64 a0_1], .int .i64 a3, .agg #[.bool a4_0, .int .i64 a4_1, .int .i64 a4_2, .int .i64 a4_3]] (by rfl) rfl rfl (by (try simp only [List.map_toArray, List.map_cons, List.map_nil]); first | done | rfl) ?_
 with_reducible refine (bytes_Spell.calls k a0_0 a0_1 a3 a4_0 a4_1 a4_2 a4_3 y _ HY.out).mono ?_
 rintro e w12 ⟨vy, rfl, hvy, hb⟩
 refine ⟨_, rfl, ?_⟩
 obtain ⟨gY, cY, rfl, _, hgY, _⟩ := Kd.R_form hvy P3.out
 refine hK.out _ _ ⟨(blk_cell (blk_below D5.out hb) 0).trans rfl, (blk_cell (blk_below D5.out hb) 1).trans rfl, (blk_cell (blk_below D7.out hb) 0).trans rfl, (blk_cell (blk_below D7.out hb) 1).trans rfl, (blk_cell (blk_below D7.out hb) 2).trans rfl, (blk_cell (blk_below D7.out hb) 3).trans rfl, (blk_cell (blk_below D9.out hb) 0).trans rfl, (blk_cell (blk_below D9.out hb) 1).trans rfl, (blk_cell (blk_below D9.out hb) 2).trans rfl, (blk_cell (blk_below D9.out hb) 3).trans rfl, (hb.cell (World.block_lt_of_cell? _ _ hx0)).trans hx0, (hb.cell (World.block_lt_of_cell? _ _ hx1)).trans hx1⟩ (fun hHeld2 => ?_)
 clear hK K
 refine norm_ (a' := ?_) ?_ ?_
 rotate_left
 · show Act.put _ (some 31) _ = _
   simp only [Act.put, List.setIfInBounds_toArray, List.set_cons_zero, List.set_cons_succ, i64_w, i32_w]
   rfl
 refine last_ (i := 13) (N := some 32) #[true,true,true,true,true,true,true,true,true,true,true,true,true,true] rfl rfl (by kernel_rfl) (by decide) (fun K hK => ?_)
 have GE2 := Kd.R_below GE.out hb
 obtain ⟨W1, hrun, hR1, hgr⟩ := R_copy a2_3.toNat GE2 hvy P4.out 72 72 3 Try.underlying72 (x.f1.length - a2_3.toNat) (c1 - a2_3.toNat) (by have := P4.out; omega)
 have hgr2 : w11.grownBy W1 (some gB) := ⟨hgr.os.trans hb.os, hgr.tape.trans hb.tape, hgr.output.trans hb.output, Nat.le_trans hb.size hgr.size, fun q hq hne => (hgr.block q (Nat.lt_of_lt_of_le hq hb.size) hne).trans (hb.block q hq)⟩
 have HSZ := Aside0.mk (BKk.out W1 ⟨x.f0, x.f1.take a2_3.toNat ++ y ++ x.f1.drop (a2_3.toNat + y.length)⟩ hgr2 (by
   have hl : (x.f1.take a2_3.toNat ++ y ++ x.f1.drop (a2_3.toNat + y.length)).length = x.f1.length := by
     have := P4.out
     rw [List.length_append, List.length_append, List.length_take, List.length_drop]
     omega
   exact hR1) rfl)
 have HBZ := Aside0.mk ((below_then (below_then HBz.out HBz.out.size HBd.out) (Nat.le_trans HBz.out.size HBd.out.size) (Below.refl _ _)).grown hgr2 (Nat.le_trans HBz.out.size HBd.out.size) (fun q hq => by injection hq with hq; omega))
 refine copy_step (by rfl) (.tmp 27) (.tmp 31) 72 72 rfl rfl rfl hrun ?_
 clear hrun hR1 hgr hgr2
 refine hK.out _ _ ?_
 clear hK K
 refine done_ (by kernel_rfl) ?_
 go_wp2
 go_ret
 exact ⟨by first | rfl | (simp [T0.out]; done), by first | exact HSZ.out | (have h_ := HSZ.out; rw [List.append_assoc] at h_; exact h_), HBZ.out⟩

/-! cellar/mem.Store -/
def mem_Store.f (k : Nat) (a0_0 : Bool) (a0_1 : Int) (l1 : List S76) (a2_0 : Bool) (a2_1 a2_2 a2_3 a3 : Int) (a4_0 : Bool) (a4_1 a4_2 a4_3 : Int) : Option (List S76 × Int × Int) :=
  (mem_asked.f a0_0 a0_1 l1 a2_0 a2_1 a2_2 a2_3 a3).bind fun b => if b = true then ((bytes_May.f a3 a4_0 a4_1 a4_2 a4_3).bind fun c => if c = true then (if l1.length ≤ 1000000 then (if (l1.all fun x => decide (x.f1.length ≤ 1000000)) = true then ((mem_Lay.f k a0_0 a0_1 l1 a2_0 a2_1 a2_2 a2_3 a3 a4_0 a4_1 a4_2 a4_3).bind fun x => some (x.1, x.2, 0)) else none) else none) else some ([], 0, 1)) else some ([], 0, 1)
theorem mem_Store.mono : ∀ a0 a1 a2 a3 a4 a5 a6 a7 a8 a9 a10 a11 k, LeO (mem_Store.f k a0 a1 a2 a3 a4 a5 a6 a7 a8 a9 a10 a11) (mem_Store.f (k + 1) a0 a1 a2 a3 a4 a5 a6 a7 a8 a9 a10 a11) := by
  intro a0 a1 a2 a3 a4 a5 a6 a7 a8 a9 a10 a11 k
  unfold mem_Store.f
  repeat' first
   | (with_reducible apply mem_Lay.mono)
   | (with_reducible apply LeO.refl)
   | (with_reducible apply LeO.none)
   | (with_reducible refine LeO.ite ?_ ?_)
   | (with_reducible refine LeO.bind ?_ (fun _ => ?_))
set_option maxHeartbeats 8000000 in
set_option maxRecDepth 100000 in
theorem mem_Store.calls (k : Nat) (a0_0 : Bool) (a0_1 : Int) (A1 : Option Addr) (c1 : Nat) (l1 : List S76) (a2_0 : Bool) (a2_1 a2_2 a2_3 a3 : Int) (a4_0 : Bool) (a4_1 a4_2 a4_3 : Int) (r1 : List S76) (r2 r3 : Int) (w : World) (hr1 : Kd.C k76 w A1 l1.length l1) (hc1 : l1.length ≤ c1)
    (h : mem_Store.f k a0_0 a0_1 l1 a2_0 a2_1 a2_2 a2_3 a3 a4_0 a4_1 a4_2 a4_3 = some (r1, r2, r3)) :
  Calls Try.prog 30 #[.agg #[.bool a0_0, .int .i64 a0_1], .slice A1 l1.length c1, .agg #[.bool a2_0, .int .i64 a2_1, .int .i64 a2_2, .int .i64 a2_3], .int .i64 a3, .agg #[.bool a4_0, .int .i64 a4_1, .int .i64 a4_2, .int .i64 a4_3]] w fun e w' => ∃ v0_ : Value, e = .returned (.tuple #[v0_, .int .i64 r2, .int .i64 r3]) ∧ Kd.S k76 76 w' w.heap.size (fun _ => True) v0_ r1 ∧ Below w.heap.size w w' := by
 have hu29 := Try.underlying29
 have hu62 := Try.underlying62
 have hu76 := Try.underlying76
 have HR := Aside0.mk hr1
 have HC := Aside0.mk hc1
 clear hr1 hc1
 unfold mem_Store.f at h
 obtain ⟨b, hb, H⟩ := Option.bind_eq_some_iff.1 h
 have HA := Aside0.mk hb
 clear h hb
 cases b with
 | false =>
  rw [if_neg (by decide)] at H
  simp only [Option.some.injEq, Prod.mk.injEq] at H
  obtain ⟨rfl, rfl, rfl⟩ := H
  go_enter Try.func30, Try.ntmps30
  go_wp2_with (first | ((with_reducible refine gate_dst (N := 5) rfl ?_); refine zbox (N := 5) (cs := #[.bool a0_0, .int .i64 a0_1]) (t := 29) ?_; intro g5 hg w5 hbox hb; have HB5 := Aside0.mk hb; have BK5 := Aside0.mk hbox; have HG5 := Aside0.mk hg; clear hb hbox hg) | ((with_reducible refine gate_dst (N := 7) rfl ?_); refine zbox (N := 7) (cs := #[.bool a2_0, .int .i64 a2_1, .int .i64 a2_2, .int .i64 a2_3]) (t := 62) ?_; intro g7 hg w7 hbox hb; have HB7 := Aside0.mk hb; have BK7 := Aside0.mk hbox; have HG7 := Aside0.mk hg; clear hb hbox hg) | ((with_reducible refine gate_dst (N := 9) rfl ?_); refine zbox (N := 9) (cs := #[.bool a4_0, .int .i64 a4_1, .int .i64 a4_2, .int .i64 a4_3]) (t := 62) ?_; intro g9 hg w9 hbox hb; have HB9 := Aside0.mk hb; have BK9 := Aside0.mk hbox; have HG9 := Aside0.mk hg; clear hb hbox hg; have K5 := Aside0.mk (blk_below (blk_below BK5.out HB7.out) HB9.out); have K7 := Aside0.mk (blk_below BK7.out HB9.out); have HB := Aside0.mk (below_step (below_step HB5.out HB7.out) HB9.out); clear BK5 BK7 HB5 HB7; have hc5_0 : w9.cell? ⟨g5, 0, none⟩ = some (.bool a0_0) := (blk_cell K5.out 0).trans rfl; have hc5_1 : w9.cell? ⟨g5, 1, none⟩ = some (.int .i64 a0_1) := (blk_cell K5.out 1).trans rfl; have hc7_0 : w9.cell? ⟨g7, 0, none⟩ = some (.bool a2_0) := (blk_cell K7.out 0).trans rfl; have hc7_1 : w9.cell? ⟨g7, 1, none⟩ = some (.int .i64 a2_1) := (blk_cell K7.out 1).trans rfl; have hc7_2 : w9.cell? ⟨g7, 2, none⟩ = some (.int .i64 a2_2) := (blk_cell K7.out 2).trans rfl; have hc7_3 : w9.cell? ⟨g7, 3, none⟩ = some (.int .i64 a2_3) := (blk_cell K7.out 3).trans rfl) | (go_at_call 66; refine (mem_asked.calls a0_0 a0_1 _ _ l1 a2_0 a2_1 a2_2 a2_3 a3 false _ (Kd.C_below HR.out HB.out) HC.out HA.out).mono ?_; rintro e w10 ⟨rfl, hb⟩; have HBa := Aside0.mk (below_step HB.out hb); have X5 := Aside0.mk (blk_below K5.out hb); have X7 := Aside0.mk (blk_below K7.out hb); have X9 := Aside0.mk (blk_below BK9.out hb); clear hb K5 K7 BK9 HB hc5_0 hc5_1 hc7_0 hc7_1 hc7_2 hc7_3; have hd9_0 : w10.cell? ⟨g9, 0, none⟩ = some (.bool a4_0) := (blk_cell X9.out 0).trans rfl; have hd9_1 : w10.cell? ⟨g9, 1, none⟩ = some (.int .i64 a4_1) := (blk_cell X9.out 1).trans rfl; have hd9_2 : w10.cell? ⟨g9, 2, none⟩ = some (.int .i64 a4_2) := (blk_cell X9.out 2).trans rfl; have hd9_3 : w10.cell? ⟨g9, 3, none⟩ = some (.int .i64 a4_3) := (blk_cell X9.out 3).trans rfl))
  go_ret3
  exact ⟨_, by first | rfl | (simp [*]; done), Kd.S_nil _ _ _ _ _, HBa.out⟩
 | true =>
  rw [if_pos rfl] at H
  obtain ⟨c, hm, H⟩ := Option.bind_eq_some_iff.1 H
  have HM := Aside0.mk hm
  clear hm
  cases c with
  | false =>
   rw [if_neg (by decide)] at H
   simp only [Option.some.injEq, Prod.mk.injEq] at H
   obtain ⟨rfl, rfl, rfl⟩ := H
   go_enter Try.func30, Try.ntmps30
   go_wp2_with (first | ((with_reducible refine gate_dst (N := 5) rfl ?_); refine zbox (N := 5) (cs := #[.bool a0_0, .int .i64 a0_1]) (t := 29) ?_; intro g5 hg w5 hbox hb; have HB5 := Aside0.mk hb; have BK5 := Aside0.mk hbox; have HG5 := Aside0.mk hg; clear hb hbox hg) | ((with_reducible refine gate_dst (N := 7) rfl ?_); refine zbox (N := 7) (cs := #[.bool a2_0, .int .i64 a2_1, .int .i64 a2_2, .int .i64 a2_3]) (t := 62) ?_; intro g7 hg w7 hbox hb; have HB7 := Aside0.mk hb; have BK7 := Aside0.mk hbox; have HG7 := Aside0.mk hg; clear hb hbox hg) | ((with_reducible refine gate_dst (N := 9) rfl ?_); refine zbox (N := 9) (cs := #[.bool a4_0, .int .i64 a4_1, .int .i64 a4_2, .int .i64 a4_3]) (t := 62) ?_; intro g9 hg w9 hbox hb; have HB9 := Aside0.mk hb; have BK9 := Aside0.mk hbox; have HG9 := Aside0.mk hg; clear hb hbox hg; have K5 := Aside0.mk (blk_below (blk_below BK5.out HB7.out) HB9.out); have K7 := Aside0.mk (blk_below BK7.out HB9.out); have HB := Aside0.mk (below_step (below_step HB5.out HB7.out) HB9.out); clear BK5 BK7 HB5 HB7; have hc5_0 : w9.cell? ⟨g5, 0, none⟩ = some (.bool a0_0) := (blk_cell K5.out 0).trans rfl; have hc5_1 : w9.cell? ⟨g5, 1, none⟩ = some (.int .i64 a0_1) := (blk_cell K5.out 1).trans rfl; have hc7_0 : w9.cell? ⟨g7, 0, none⟩ = some (.bool a2_0) := (blk_cell K7.out 0).trans rfl; have hc7_1 : w9.cell? ⟨g7, 1, none⟩ = some (.int .i64 a2_1) := (blk_cell K7.out 1).trans rfl; have hc7_2 : w9.cell? ⟨g7, 2, none⟩ = some (.int .i64 a2_2) := (blk_cell K7.out 2).trans rfl; have hc7_3 : w9.cell? ⟨g7, 3, none⟩ = some (.int .i64 a2_3) := (blk_cell K7.out 3).trans rfl) | (go_at_call 66; refine (mem_asked.calls a0_0 a0_1 _ _ l1 a2_0 a2_1 a2_2 a2_3 a3 true _ (Kd.C_below HR.out HB.out) HC.out HA.out).mono ?_; rintro e w10 ⟨rfl, hb⟩; have HBa := Aside0.mk (below_step HB.out hb); have X5 := Aside0.mk (blk_below K5.out hb); have X7 := Aside0.mk (blk_below K7.out hb); have X9 := Aside0.mk (blk_below BK9.out hb); clear hb K5 K7 BK9 HB hc5_0 hc5_1 hc7_0 hc7_1 hc7_2 hc7_3; have hd9_0 : w10.cell? ⟨g9, 0, none⟩ = some (.bool a4_0) := (blk_cell X9.out 0).trans rfl; have hd9_1 : w10.cell? ⟨g9, 1, none⟩ = some (.int .i64 a4_1) := (blk_cell X9.out 1).trans rfl; have hd9_2 : w10.cell? ⟨g9, 2, none⟩ = some (.int .i64 a4_2) := (blk_cell X9.out 2).trans rfl; have hd9_3 : w10.cell? ⟨g9, 3, none⟩ = some (.int .i64 a4_3) := (blk_cell X9.out 3).trans rfl) | (go_at_call 67; refine (bytes_May.calls a3 a4_0 a4_1 a4_2 a4_3 false _ HM.out).mono ?_; rintro e w11 ⟨rfl, hb⟩; have HBm := Aside0.mk (below_step HBa.out hb); have Y5 := Aside0.mk (blk_below X5.out hb); have Y7 := Aside0.mk (blk_below X7.out hb); have Y9 := Aside0.mk (blk_below X9.out hb); clear hb X5 X7 X9 HBa hd9_0 hd9_1 hd9_2 hd9_3))
   go_ret3
   exact ⟨_, by first | rfl | (simp [*]; done), Kd.S_nil _ _ _ _ _, HBm.out⟩
  | true =>
   rw [if_pos rfl] at H
   by_cases l0 : l1.length ≤ 1000000
   case neg => rw [if_neg l0] at H; cases H
   rw [if_pos l0] at H
   by_cases l2 : (l1.all fun x => decide (x.f1.length ≤ 1000000)) = true
   case neg => rw [if_neg l2] at H; cases H
   rw [if_pos l2] at H
   obtain ⟨⟨m, bad⟩, hl, H⟩ := Option.bind_eq_some_iff.1 H
   simp only [Option.some.injEq, Prod.mk.injEq] at H
   obtain ⟨rfl, rfl, rfl⟩ := H
   have HLy := Aside0.mk hl
   have HL1 := Aside0.mk (show l1.length * 32 ≤ 140737488355328 by omega)
   have HL2 := Aside0.mk (show ∀ x ∈ l1, x.f1.length * 40 ≤ 140737488355328 from fun x hx => by have h_ := of_decide_eq_true (List.all_eq_true.1 l2 x hx); omega)
   clear hl l0 l2
   go_enter Try.func30, Try.ntmps30
   go_wp2_with (first | ((with_reducible refine gate_dst (N := 5) rfl ?_); refine zbox (N := 5) (cs := #[.bool a0_0, .int .i64 a0_1]) (t := 29) ?_; intro g5 hg w5 hbox hb; have HB5 := Aside0.mk hb; have BK5 := Aside0.mk hbox; have HG5 := Aside0.mk hg; clear hb hbox hg) | ((with_reducible refine gate_dst (N := 7) rfl ?_); refine zbox (N := 7) (cs := #[.bool a2_0, .int .i64 a2_1, .int .i64 a2_2, .int .i64 a2_3]) (t := 62) ?_; intro g7 hg w7 hbox hb; have HB7 := Aside0.mk hb; have BK7 := Aside0.mk hbox; have HG7 := Aside0.mk hg; clear hb hbox hg) | ((with_reducible refine gate_dst (N := 9) rfl ?_); refine zbox (N := 9) (cs := #[.bool a4_0, .int .i64 a4_1, .int .i64 a4_2, .int .i64 a4_3]) (t := 62) ?_; intro g9 hg w9 hbox hb; have HB9 := Aside0.mk hb; have BK9 := Aside0.mk hbox; have HG9 := Aside0.mk hg; clear hb hbox hg; have K5 := Aside0.mk (blk_below (blk_below BK5.out HB7.out) HB9.out); have K7 := Aside0.mk (blk_below BK7.out HB9.out); have HB := Aside0.mk (below_step (below_step HB5.out HB7.out) HB9.out); clear BK5 BK7 HB5 HB7; have hc5_0 : w9.cell? ⟨g5, 0, none⟩ = some (.bool a0_0) := (blk_cell K5.out 0).trans rfl; have hc5_1 : w9.cell? ⟨g5, 1, none⟩ = some (.int .i64 a0_1) := (blk_cell K5.out 1).trans rfl; have hc7_0 : w9.cell? ⟨g7, 0, none⟩ = some (.bool a2_0) := (blk_cell K7.out 0).trans rfl; have hc7_1 : w9.cell? ⟨g7, 1, none⟩ = some (.int .i64 a2_1) := (blk_cell K7.out 1).trans rfl; have hc7_2 : w9.cell? ⟨g7, 2, none⟩ = some (.int .i64 a2_2) := (blk_cell K7.out 2).trans rfl; have hc7_3 : w9.cell? ⟨g7, 3, none⟩ = some (.int .i64 a2_3) := (blk_cell K7.out 3).trans rfl) | (go_at_call 66; refine (mem_asked.calls a0_0 a0_1 _ _ l1 a2_0 a2_1 a2_2 a2_3 a3 true _ (Kd.C_below HR.out HB.out) HC.out HA.out).mono ?_; rintro e w10 ⟨rfl, hb⟩; have HBa := Aside0.mk (below_step HB.out hb); have X5 := Aside0.mk (blk_below K5.out hb); have X7 := Aside0.mk (blk_below K7.out hb); have X9 := Aside0.mk (blk_below BK9.out hb); clear hb K5 K7 BK9 HB hc5_0 hc5_1 hc7_0 hc7_1 hc7_2 hc7_3; have hd9_0 : w10.cell? ⟨g9, 0, none⟩ = some (.bool a4_0) := (blk_cell X9.out 0).trans rfl; have hd9_1 : w10.cell? ⟨g9, 1, none⟩ = some (.int .i64 a4_1) := (blk_cell X9.out 1).trans rfl; have hd9_2 : w10.cell? ⟨g9, 2, none⟩ = some (.int .i64 a4_2) := (blk_cell X9.out 2).trans rfl; have hd9_3 : w10.cell? ⟨g9, 3, none⟩ = some (.int .i64 a4_3) := (blk_cell X9.out 3).trans rfl) | (go_at_call 67; refine (bytes_May.calls a3 a4_0 a4_1 a4_2 a4_3 true _ HM.out).mono ?_; rintro e w11 ⟨rfl, hb⟩; have HBm := Aside0.mk (below_step HBa.out hb); have Y5 := Aside0.mk (blk_below X5.out hb); have Y7 := Aside0.mk (blk_below X7.out hb); have Y9 := Aside0.mk (blk_below X9.out hb); clear hb X5 X7 X9 HBa hd9_0 hd9_1 hd9_2 hd9_3) | (go_at_call 68; refine (own_calls _ _ l1 _ (Kd.C_below HR.out HBm.out) HL1.out HL2.out).mono ?_; rintro e w12 ⟨v, rfl, hs, hb⟩; obtain ⟨Av, cv, rfl⟩ := Kd.S_slice hs; have HSo := Aside0.mk hs; have HBo := Aside0.mk hb; have Z5 := Aside0.mk (blk_below Y5.out hb); have Z7 := Aside0.mk (blk_below Y7.out hb); have Z9 := Aside0.mk (blk_below Y9.out hb); clear hb hs Y5 Y7 Y9; have he5_0 : w12.cell? ⟨g5, 0, none⟩ = some (.bool a0_0) := (blk_cell Z5.out 0).trans rfl; have he5_1 : w12.cell? ⟨g5, 1, none⟩ = some (.int .i64 a0_1) := (blk_cell Z5.out 1).trans rfl; have he7_0 : w12.cell? ⟨g7, 0, none⟩ = some (.bool a2_0) := (blk_cell Z7.out 0).trans rfl; have he7_1 : w12.cell? ⟨g7, 1, none⟩ = some (.int .i64 a2_1) := (blk_cell Z7.out 1).trans rfl; have he7_2 : w12.cell? ⟨g7, 2, none⟩ = some (.int .i64 a2_2) := (blk_cell Z7.out 2).trans rfl; have he7_3 : w12.cell? ⟨g7, 3, none⟩ = some (.int .i64 a2_3) := (blk_cell Z7.out 3).trans rfl; have he9_0 : w12.cell? ⟨g9, 0, none⟩ = some (.bool a4_0) := (blk_cell Z9.out 0).trans rfl; have he9_1 : w12.cell? ⟨g9, 1, none⟩ = some (.int .i64 a4_1) := (blk_cell Z9.out 1).trans rfl; have he9_2 : w12.cell? ⟨g9, 2, none⟩ = some (.int .i64 a4_2) := (blk_cell Z9.out 2).trans rfl; have he9_3 : w12.cell? ⟨g9, 3, none⟩ = some (.int .i64 a4_3) := (blk_cell Z9.out 3).trans rfl) | (go_at_call 69; refine (lay_calls k a0_0 a0_1 _ l1 a2_0 a2_1 a2_2 a2_3 a3 a4_0 a4_1 a4_2 a4_3 _ _ _ _ HBo.out HSo.out HLy.out).mono ?_; rintro e w13 ⟨rfl, hs, hb⟩; have HSl := Aside0.mk hs; have HBl := Aside0.mk hb; clear hb hs HBo HSo Z5 Z7 Z9 he5_0 he5_1 he7_0 he7_1 he7_2 he7_3 he9_0 he9_1 he9_2 he9_3))
   go_ret3
   exact ⟨_, by first | rfl | (simp [*]; done), Kd.S_lower HSl.out HBm.out.size, below_step HBm.out HBl.out⟩

/-! cellarlaw9_num -/
def cellarlaw9_num.f (a0 : Int) : Option (Int) := some a0
set_option maxHeartbeats 8000000 in
set_option maxRecDepth 100000 in
theorem cellarlaw9_num.calls (a0 : Int) (r : Int) (w : World) (h : cellarlaw9_num.f a0 = some r) :
  Calls Try.prog 35 #[.int .i64 a0] w fun e w' => e = .returned (.int .i64 r) ∧ Drawn0 w w' := by
 have H : (some a0) = some r := h
 clear h
 obtain rfl := Option.some.inj H
 go_enter Try.func35, Try.ntmps35
 go_wp2
 go_ret
 exact ⟨zr, by repeat (first | exact Drawn0.refl _ | apply Drawn0.step)⟩

end Go.Proofs.Ytjoplkillkhiaaa.Q2
