-- Written by this session's own edition of the print.
import Derived.Test.YthhdmanpjeminaaDx0
import Derived.Test.YthhdmanpjeminaaDx3
import Derived.Test.YthhdmanpjeminaaDx5
import Derived.Test.YthhdmanpjeminaaDx8
namespace Go.Proofs.Ythhdmanpjeminaa.D
open Go.RowKit Go.Proofs.Ythhdmanpjeminaa.Fn Go.Proofs.YthhdmanpjeminaaW.PrintWords Go.Proofs.YthhdmanpjeminaaW.PrintLast Go.Proofs.YthhdmanpjeminaaW.PrintMore
attribute [local go_sem] max2_int min2_int max_two min_two max_three min_three max_four min_four   -- for this text's walks alone
set_option linter.unusedVariables false
set_option linter.unusedSimpArgs false

/-! ### bytes_Spell: function 44 -/
def bytes_Spell.l0 : Nat → Int → List (S51) → Int → Int → Bool → Int → Bool → Int → Int → Int → Option ((List (S51)))
 | 0, _, _, _, _, _, _, _, _, _, _ => none
 | k + 1, x1, x7, x14, x15, x195000, x195001, x196000, x196001, x196002, x196003 => if x15 < x14 then (if x196002 > 0 then (if 0 ≤ x15 then (if x15 < (x7.length : Int) then (bytes_Spell.l0 k x1 (x7.set (x15 : Int).toNat (⟨2, 0, x196002, x196003, x15⟩ : S51)) x14 (wrap64 (x15 + 1)) x195000 x195001 x196000 x196001 x196002 x196003) else (none)) else (none)) else (if 0 ≤ (wrap64 (8 * x15)) then (if 0 ≤ x15 then (if x15 < (x7.length : Int) then (bytes_Spell.l0 k x1 (x7.set (x15 : Int).toNat (⟨1, Go.bits .and .i64 (shr .i64 x196001 (wrap64 (8 * x15))) 255, 0, 0, 0⟩ : S51)) x14 (wrap64 (x15 + 1)) x195000 x195001 x196000 x196001 x196002 x196003) else (none)) else (none)) else (none))) else (if x1 = 7 then (some x7) else (if x195000 = true then ((api_Byte_55.f k x7).bind fun t202 => (some t202)) else (some x7)))
def bytes_Spell.f (k : Nat) (a0_0 : Bool) (a0_1 : Int) (a1 : Int) (a2_0 : Bool) (a2_1 : Int) (a2_2 : Int) (a2_3 : Int) : Option ((List (S51))) := (word_Bytes.f a0_0 a0_1 a1).bind fun t196 => (if 0 ≤ t196 then (if (t196 : Int).toNat ≤ 7036874417766 then ((some (List.replicate (t196 : Int).toNat z51 : List (S51))).bind fun y197 => (bytes_Spell.l0 k a1 y197 (y197.length : Int) 0 a0_0 a0_1 a2_0 a2_1 a2_2 a2_3)) else (none)) else (none))
theorem bytes_Spell.mono_l : ∀ k, (∀ y0 y1 y2 y3 y4 y5 y6 y7 y8 y9, LeO (bytes_Spell.l0 k y0 y1 y2 y3 y4 y5 y6 y7 y8 y9) (bytes_Spell.l0 (k + 1) y0 y1 y2 y3 y4 y5 y6 y7 y8 y9))
 | 0 => fun _ _ _ _ _ _ _ _ _ _ r h => by simp [bytes_Spell.l0] at h
 | k + 1 => by
  have ih0 := bytes_Spell.mono_l k
  ·intro y0 y1 y2 y3 y4 y5 y6 y7 y8 y9
   unfold bytes_Spell.l0
   repeat' first
   | (with_reducible exact ih0 _ _ _ _ _ _ _ _ _ _)
   | (with_reducible exact api_Byte_55.mono _ _)
   | (with_reducible exact LeO.refl _)
   | (with_reducible exact LeO.none _)
   | (with_reducible refine LeO.ite ?_ ?_)
   | (with_reducible refine LeO.bind ?_ (fun _ => ?_))
   | exact ih0 _ _ _ _ _ _ _ _ _ _
   | exact api_Byte_55.mono _ _
   | exact LeO.none _
   | refine LeO.ite ?_ ?_
   | refine LeO.bind ?_ (fun _ => ?_)
theorem bytes_Spell.mono : ∀ a0 a1 a2 a3 a4 a5 a6 k, LeO (bytes_Spell.f k a0 a1 a2 a3 a4 a5 a6) (bytes_Spell.f (k + 1) a0 a1 a2 a3 a4 a5 a6) := by
 intro a0 a1 a2 a3 a4 a5 a6 k
 have ih0 := bytes_Spell.mono_l k
 unfold bytes_Spell.f
 repeat' first
   | (with_reducible exact ih0 _ _ _ _ _ _ _ _ _ _)
   | (with_reducible exact api_Byte_55.mono _ _)
   | (with_reducible exact LeO.refl _)
   | (with_reducible exact LeO.none _)
   | (with_reducible refine LeO.ite ?_ ?_)
   | (with_reducible refine LeO.bind ?_ (fun _ => ?_))
   | exact ih0 _ _ _ _ _ _ _ _ _ _
   | exact api_Byte_55.mono _ _
   | exact LeO.none _
   | refine LeO.ite ?_ ?_
   | refine LeO.bind ?_ (fun _ => ?_)
set_option maxHeartbeats 8000000 in
set_option maxRecDepth 100000 in
theorem bytes_Spell.calls (k : Nat) (a0_0 : Bool) (a0_1 : Int) (a1 : Int) (a2_0 : Bool) (a2_1 : Int) (a2_2 : Int) (a2_3 : Int) (r : List (S51)) (w : World) (h : bytes_Spell.f k a0_0 a0_1 a1 a2_0 a2_1 a2_2 a2_3 = some r) :
  Calls Try.prog 44 #[.agg #[.bool a0_0, .int .i64 a0_1], .int .i64 a1, .agg #[.bool a2_0, .int .i64 a2_1, .int .i64 a2_2, .int .i64 a2_3]] w fun e w' => ∃ v0_ : Value, e = .returned (v0_) ∧ Kd.R k51 51 w' w.heap.size (fun _ => True) v0_ r ∧ Below w.heap.size w w' := by
 have hu38 := Try.underlying38
 have hu33 := Try.underlying33
 have hu51 := Try.underlying51
 have HB := Aside0.mk (Below.refl w.heap.size w)
 have H : ((word_Bytes.f a0_0 a0_1 a1).bind fun t196 => (if 0 ≤ t196 then (if (t196 : Int).toNat ≤ 7036874417766 then ((some (List.replicate (t196 : Int).toNat z51 : List (S51))).bind fun y197 => (bytes_Spell.l0 k a1 y197 (y197.length : Int) 0 a0_0 a0_1 a2_0 a2_1 a2_2 a2_3)) else (none)) else (none))) = some r := h
 clear h
 replace H := Option.bind_eq_some_iff.mp H
 obtain ⟨t196, A40, H⟩ := H
 replace H : (if 0 ≤ t196 then (if (t196 : Int).toNat ≤ 7036874417766 then ((some (List.replicate (t196 : Int).toNat z51 : List (S51))).bind fun y197 => (bytes_Spell.l0 k a1 y197 (y197.length : Int) 0 a0_0 a0_1 a2_0 a2_1 a2_2 a2_3)) else (none)) else (none)) = some r := H
 have A4 := Aside0.mk A40
 clear A40
 by_cases c5 : 0 ≤ t196
 ·rw [if_pos c5] at H
  have c5b0 := eq_true c5
  have c5b1 : decide (0 ≤ t196) = true := decide_eq_true c5
  clear c5
  by_cases c6 : (t196 : Int).toNat ≤ 7036874417766
  ·rw [if_pos c6] at H
   have c6b0 := eq_true c6
   have c6b1 : decide ((t196 : Int).toNat ≤ 7036874417766) = true := decide_eq_true c6
   clear c6
   obtain ⟨y197, hy197⟩ : ∃ y_ : List (S51), y_ = (List.replicate (t196 : Int).toNat z51) := ⟨_, rfl⟩
   replace H : (bytes_Spell.l0 k a1 y197 (y197.length : Int) 0 a0_0 a0_1 a2_0 a2_1 a2_2 a2_3) = some r := by first | (rw [hy197]; with_reducible exact H) | (have H2_ := (Option.bind_some _ _).symm.trans H; rw [hy197]; with_reducible exact H2_) | (have H2_ := (Option.bind_some _ _).symm.trans H; with_reducible exact H2_) | with_reducible exact H | (rw [hy197]; exact H) | exact H
   have Ny197 := Aside0.mk hy197
   clear hy197
   have H' := Aside0.mk H
   clear H
   go_enter Try.func44, Try.ntmps44
   go_wp2_with (first | ((with_reducible refine gate_dst (N := 3) rfl ?_); refine box_event ?hg (N := 3) ?hd (cs := #[.bool a0_0, .int .i64 a0_1]) (t := 38) ?hr ?_; (case hd => rfl); (case hg => rfl); (case hr => first | (go_simp; done) | (go_simp; rfl)); intro gb194 hg w7 hbox hb; have n0_ := Aside0.mk (below_step (zw0 HB.out) hb); have n1_ := Aside0.mk (hbox); have n2_ := Aside0.mk ((by rw [hg]; exact (below_size (zw0 HB.out)) : w.heap.size ≤ gb194)); have n3_ := Aside0.mk ((by rw [hg]; exact (below_size (zw0 HB.out)) : w.heap.size ≤ gb194)); clear HB; have HB := n0_; have BK194 := n1_; have GW194 := n2_; have GE194 := n3_; clear n0_ n1_ n2_ n3_; clear hb hbox hg) | ((with_reducible refine gate_dst (N := 5) rfl ?_); refine box_event ?hg (N := 5) ?hd (cs := #[.bool a2_0, .int .i64 a2_1, .int .i64 a2_2, .int .i64 a2_3]) (t := 33) ?hr ?_; (case hd => rfl); (case hg => rfl); (case hr => first | (go_simp; done) | (go_simp; rfl)); intro gb195 hg w8 hbox hb; have n0_ := Aside0.mk (blk_below (g := gb194) (o := .cells #[.bool a0_0, .int .i64 a0_1] 38 (0, 0)) (zb BK194.out) hb); have n1_ := Aside0.mk (below_step (zw1 HB.out GE194.out) hb); have n2_ := Aside0.mk (hbox); have n3_ := Aside0.mk ((by rw [hg]; exact (below_size (zw1 HB.out GE194.out)) : w.heap.size ≤ gb195)); have n4_ := Aside0.mk ((by rw [hg]; exact (below_size (zw1 HB.out GE194.out)) : w.heap.size ≤ gb195)); have n5_ := Aside0.mk ((by rw [hg]; exact Nat.ne_of_lt (blk_lt (g := gb194) (o := .cells #[.bool a0_0, .int .i64 a0_1] 38 (0, 0)) (zb BK194.out)) : gb194 ≠ gb195)); have n6_ := Aside0.mk ((by rw [hg]; exact Nat.ne_of_gt (blk_lt (g := gb194) (o := .cells #[.bool a0_0, .int .i64 a0_1] 38 (0, 0)) (zb BK194.out)) : gb195 ≠ gb194)); clear BK194; clear HB; have BK194 := n0_; have HB := n1_; have BK195 := n2_; have GW195 := n3_; have GE195 := n4_; have NB194_195 := n5_; have NB195_194 := n6_; clear n0_ n1_ n2_ n3_ n4_ n5_ n6_; clear hb hbox hg; have hnb9 := NB194_195.out; have hnc9 := NB195_194.out; have hcz10_0 : w8.cell? ⟨gb194, 0, none⟩ = some (.bool a0_0) := (blk_cell BK194.out 0).trans rfl; have hcz10_1 : w8.cell? ⟨gb194, 1, none⟩ = some (.int .i64 a0_1) := (blk_cell BK194.out 1).trans rfl; have hfz10_0 := blk_frozen BK194.out 0; have hfz10_1 := blk_frozen BK194.out 1) | ((with_reducible refine gate_callee (f := 36) rfl ?_); refine goesL_ (some 11) rfl rfl Try.func36 (by kernel_rfl) rfl #[.agg #[.bool a0_0, .int .i64 a0_1], .int .i64 a1] rfl (by (try simp only [List.map_toArray, List.map_cons, List.map_nil]); first | done | rfl | (simp only [List.length_drop, List.length_take]; rfl)) ?_; (with_reducible refine (word_Bytes.calls a0_0 a0_1 a1 t196 _ A4.out).mono ?_); rintro e w11 ⟨rfl, hb⟩; refine ⟨_, rfl, ?_⟩; have n0_ := Aside0.mk (blk_below (g := gb194) (o := .cells #[.bool a0_0, .int .i64 a0_1] 38 (0, 0)) (zb BK194.out) hb); have n1_ := Aside0.mk (blk_below (g := gb195) (o := .cells #[.bool a2_0, .int .i64 a2_1, .int .i64 a2_2, .int .i64 a2_3] 33 (0, 0)) (zb BK195.out) hb); have n2_ := Aside0.mk (below_step (zw2 HB.out GE194.out GE195.out) hb); clear BK194; clear BK195; clear HB; have BK194 := n0_; have BK195 := n1_; have HB := n2_; clear n0_ n1_ n2_; (try clear hb); (try clear hb2); (try clear hk); (try clear hi)) | ((with_reducible refine gate_dst (N := 12) rfl ?_); refine Kd.R_make k51 _ 51 rfl (N := 12) rfl 24 _ _ rfl t196 rfl rfl Try.underlying24 (.agg #[(.int .i64 0), (.int .i64 0), (.int .i64 0), (.int .i64 0), (.int .i64 0)]) 40 info51 rfl (by decide) (by omega) z51 (ok := fun _ => True) (okp := fun _ => True) (k51_mkM _ _ _ z51 ) (fun _ hk => hk) trivial (zdec) (Nat.le_trans (Nat.mul_le_mul_right _ (zdec : t196.toNat ≤ 7036874417766)) (by omega)) (Below.refl _ _) (Nat.le_refl _) ?_; intro v198 w12 ho13 hb hg_ hnew_; clear hg_ hnew_; (first | rw [← Ny197.out] at ho13 | (simp only [Int.reduceToNat] at ho13; rw [← Ny197.out] at ho13)); have n0_ := Aside0.mk (Kd.R_lower ho13 (below_size (zw2 HB.out GE194.out GE195.out))); have n1_ := Aside0.mk (blk_below (g := gb194) (o := .cells #[.bool a0_0, .int .i64 a0_1] 38 (0, 0)) (zb BK194.out) hb); have n2_ := Aside0.mk (blk_below (g := gb195) (o := .cells #[.bool a2_0, .int .i64 a2_1, .int .i64 a2_2, .int .i64 a2_3] 33 (0, 0)) (zb BK195.out) hb); have n3_ := Aside0.mk (below_step (zw2 HB.out GE194.out GE195.out) hb); clear BK194; clear BK195; clear HB; have HO199 := n0_; have BK194 := n1_; have BK195 := n2_; have HB := n3_; clear n0_ n1_ n2_ n3_; clear hb ho13; obtain ⟨Ao14, co14, eo14⟩ := Kd.R_slice HO199.out; subst eo14))
   go_loopg [15] k (fun kq v15 w' => ∃ (x7_1 : List (S51)) (x15_1 : Int), v15 = .int .i64 x15_1 ∧ Aside0 (bytes_Spell.l0 kq a1 x7_1 (y197.length : Int) x15_1 a0_0 a0_1 a2_0 a2_1 a2_2 a2_3 = some r) ∧ Aside0 (kq ≤ k) ∧ Aside0 (Kd.R k51 51 w' w.heap.size (fun _ => True) (.slice Ao14 y197.length co14) x7_1) ∧ Aside0 (w'.heap[gb194]? = some (.cells #[.bool a0_0, .int .i64 a0_1] 38 (0, 0))) ∧ Aside0 (w'.heap[gb195]? = some (.cells #[.bool a2_0, .int .i64 a2_1, .int .i64 a2_2, .int .i64 a2_3] 33 (0, 0))) ∧ Aside0 (Below w.heap.size w w'))
   case atStart => exact ⟨(y197), (0), (by first | rfl | (simp; done) | (simp [*]; done)), H', ⟨Nat.le_refl _⟩, ⟨by (with_reducible repeat (first | apply Kd.R_alloc | apply Kd.R_drewN | apply Kd.R_drew)); exact HO199.out⟩, ⟨zb BK194.out⟩, ⟨zb BK195.out⟩, ⟨zw2 HB.out GE194.out GE195.out⟩⟩
   case round =>
    clear H'
    try clear p2
    try clear c3
    try clear c4
    try clear c5
    try clear c5b0
    try clear c5b1
    try clear c6
    try clear c6b0
    try clear c6b1
    try clear c9
    try clear hcz10_0
    try clear hcz10_1
    try clear hfz10_0
    try clear hfz10_1
    obtain ⟨x7_1, x15_1, rfl, HA, HK1, HO_7, BK194, BK195, HB⟩ := hrel
    have hl7_1 := (Kd.R_reads' HO_7.out).1
    rw [hl7_1] at HO_7
    (try simp only [hl7_1])
    (try simp only [hl7_1] at BK194)
    (try simp only [hl7_1] at BK195)
    cases gk with
    | zero => exact absurd HA.out (by simp [bytes_Spell.l0])
    | succ k1 =>
     have H := HA.out
     clear HA
     simp only [bytes_Spell.l0] at H
     by_cases c15 : x15_1 < (y197.length : Int)
     ·rw [if_pos c15] at H
      have c15b0 : decide (x15_1 < (y197.length : Int)) = true := decide_eq_true c15
      clear c15
      by_cases c16 : a2_2 > 0
      ·rw [if_pos c16] at H
       have c16b0 : decide (0 < a2_2) = true := decide_eq_true c16
       clear c16
       by_cases c17 : 0 ≤ x15_1
       ·rw [if_pos c17] at H
        have c17b0 : decide (0 ≤ x15_1) = true := decide_eq_true c17
        clear c17
        by_cases c18 : x15_1 < (x7_1.length : Int)
        ·rw [if_pos c18] at H
         have c18b0 : decide (x15_1 < (x7_1.length : Int)) = true := decide_eq_true c18
         clear c18
         obtain ⟨y200, hy200⟩ : ∃ y_ : List (S51), y_ = (x7_1.set (x15_1 : Int).toNat (⟨2, 0, a2_2, a2_3, x15_1⟩ : S51)) := ⟨_, rfl⟩
         replace H : (bytes_Spell.l0 k1 a1 y200 (y197.length : Int) (wrap64 (x15_1 + 1)) a0_0 a0_1 a2_0 a2_1 a2_2 a2_3) = some r := by first | (rw [hy200]; with_reducible exact H) | (have H2_ := (Option.bind_some _ _).symm.trans H; rw [hy200]; with_reducible exact H2_) | (have H2_ := (Option.bind_some _ _).symm.trans H; with_reducible exact H2_) | with_reducible exact H | (rw [hy200]; exact H) | exact H
         have Ny200 := Aside0.mk hy200
         clear hy200
         have H' := Aside0.mk H
         clear H
         have hnb20 := NB195_194.out
         have hnc20 := NB194_195.out
         have hcz21_0 : wr.cell? ⟨gb195, 0, none⟩ = some (.bool a2_0) := (blk_cell BK195.out 0).trans rfl
         have hcz21_1 : wr.cell? ⟨gb195, 1, none⟩ = some (.int .i64 a2_1) := (blk_cell BK195.out 1).trans rfl
         have hcz21_2 : wr.cell? ⟨gb195, 2, none⟩ = some (.int .i64 a2_2) := (blk_cell BK195.out 2).trans rfl
         have hcz21_3 : wr.cell? ⟨gb195, 3, none⟩ = some (.int .i64 a2_3) := (blk_cell BK195.out 3).trans rfl
         have hfz21_0 := blk_frozen BK195.out 0
         have hfz21_1 := blk_frozen BK195.out 1
         have hfz21_2 := blk_frozen BK195.out 2
         have hfz21_3 := blk_frozen BK195.out 3
         have p19 : 0 ≤ (x15_1 : Int) := zdec
         have q19 : (x15_1 : Int) < ((x7_1.length : Int) : Int) := zdec
         obtain ⟨go19, co19, eo19, gb19, gl19, cl19, HG19⟩ := Kd.R_form HO_7.out (by omega)
         (first | cases eo19 | (injection eo19 with ea_ en_ ec_; (first | subst ea_ | (injection ea_ with ea_; subst ea_)); subst ec_; clear en_))
         have GB19 := Aside0.mk gb19
         have GG19 := Aside0.mk HG19
         clear gb19 gl19 HG19
         obtain ⟨ce19, hcl19, hM19, hcc19, hfr19⟩ := Kd.R_elem HO_7.out z51 (x15_1 : Int) p19 q19
         obtain rfl := k51_openM hM19
         have hx19_0 : wr.cell? ⟨go19, (x15_1 : Int).toNat * 5, none⟩ = some (.int .i64 ((rd_T51 x7_1 x15_1).f0)) := hcc19 0 _ rfl
         have hx19_1 : wr.cell? ⟨go19, (x15_1 : Int).toNat * 5 + 1, none⟩ = some (.int .i64 ((rd_T51 x7_1 x15_1).f1)) := hcc19 1 _ rfl
         have hx19_2 : wr.cell? ⟨go19, (x15_1 : Int).toNat * 5 + 2, none⟩ = some (.int .i64 ((rd_T51 x7_1 x15_1).f2)) := hcc19 2 _ rfl
         have hx19_3 : wr.cell? ⟨go19, (x15_1 : Int).toNat * 5 + 3, none⟩ = some (.int .i64 ((rd_T51 x7_1 x15_1).f3)) := hcc19 3 _ rfl
         have hx19_4 : wr.cell? ⟨go19, (x15_1 : Int).toNat * 5 + 4, none⟩ = some (.int .i64 ((rd_T51 x7_1 x15_1).f4)) := hcc19 4 _ rfl
         have hf19_0 : wr.frozen? ⟨go19, (x15_1 : Int).toNat * 5, none⟩ = false := hfr19 0
         have hf19_1 : wr.frozen? ⟨go19, (x15_1 : Int).toNat * 5 + 1, none⟩ = false := hfr19 1
         have hf19_2 : wr.frozen? ⟨go19, (x15_1 : Int).toNat * 5 + 2, none⟩ = false := hfr19 2
         have hf19_3 : wr.frozen? ⟨go19, (x15_1 : Int).toNat * 5 + 3, none⟩ = false := hfr19 3
         have hf19_4 : wr.frozen? ⟨go19, (x15_1 : Int).toNat * 5 + 4, none⟩ = false := hfr19 4
         clear hcl19 hcc19 hfr19 hM19
         replace p19 := eq_true p19
         replace q19 := eq_true q19
         have HX22 := Aside0.mk (show Kd.R k51 51 wr w.heap.size (fun _ => True) (.slice (some ⟨go19, 0, none⟩) x7_1.length co14) x7_1 from (by (with_reducible repeat (first | apply Kd.R_alloc | apply Kd.R_drewN | apply Kd.R_drew)); exact HO_7.out))
         obtain ⟨ce22, hcl22, hM22, hcc22, hfr22⟩ := Kd.R_elem HX22.out z51 (x15_1 : Int) (zdec) (by have h_ : (x15_1 : Int) < ((x7_1.length : Int) : Int) := zdec; first | exact h_ | (have e_ := (Kd.R_reads' HO_7.out).1; omega) | simpa using h_)
         obtain rfl := k51_openM hM22
         have HP22 := Kd.R_seg HX22.out (x15_1 : Int) (zdec) (by have h_ : (x15_1 : Int) < ((x7_1.length : Int) : Int) := zdec; first | exact h_ | (have e_ := (Kd.R_reads' HO_7.out).1; omega) | simpa using h_) (seg := [.int .i64 2, .int .i64 0, .int .i64 a2_2, .int .i64 a2_3, .int .i64 x15_1]) (j := 0) hcl22 hcc22 (show 5 ≤ 5 from by decide) (x' := (⟨2, 0, a2_2, a2_3, x15_1⟩ : S51)) (k51_mkM _ _ _ (⟨2, 0, a2_2, a2_3, x15_1⟩ : S51) ) (fun _ hk => hk)
         have hx22_0 := hcc22 0 _ rfl
         (try simp only [show (k51).sz = 5 from rfl, Nat.mul_one, Nat.add_zero] at hx22_0)
         have hf22_0 := hfr22 0
         (try simp only [show (k51).sz = 5 from rfl, Nat.mul_one, Nat.add_zero] at hf22_0)
         have hx22_1 := hcc22 1 _ rfl
         (try simp only [show (k51).sz = 5 from rfl, Nat.mul_one, Nat.add_zero] at hx22_1)
         have hf22_1 := hfr22 1
         (try simp only [show (k51).sz = 5 from rfl, Nat.mul_one, Nat.add_zero] at hf22_1)
         have hx22_2 := hcc22 2 _ rfl
         (try simp only [show (k51).sz = 5 from rfl, Nat.mul_one, Nat.add_zero] at hx22_2)
         have hf22_2 := hfr22 2
         (try simp only [show (k51).sz = 5 from rfl, Nat.mul_one, Nat.add_zero] at hf22_2)
         have hx22_3 := hcc22 3 _ rfl
         (try simp only [show (k51).sz = 5 from rfl, Nat.mul_one, Nat.add_zero] at hx22_3)
         have hf22_3 := hfr22 3
         (try simp only [show (k51).sz = 5 from rfl, Nat.mul_one, Nat.add_zero] at hf22_3)
         have hx22_4 := hcc22 4 _ rfl
         (try simp only [show (k51).sz = 5 from rfl, Nat.mul_one, Nat.add_zero] at hx22_4)
         have hf22_4 := hfr22 4
         (try simp only [show (k51).sz = 5 from rfl, Nat.mul_one, Nat.add_zero] at hf22_4)
         clear hcl22 hcc22 hfr22 hM22
         go_wp2_with (first | ((with_reducible refine gate_store (t := 51) (p := 40) rfl ?_); refine store_event (t := 51) (p := 40) (v := ?vo_w23) (w1 := (((((wr.setCell ⟨go19, (x15_1 : Int).toNat * 5, none⟩ (.int .i64 2)).setCell ⟨go19, (x15_1 : Int).toNat * 5 + 1, none⟩ (.int .i64 0)).setCell ⟨go19, (x15_1 : Int).toNat * 5 + 2, none⟩ (.int .i64 a2_2)).setCell ⟨go19, (x15_1 : Int).toNat * 5 + 3, none⟩ (.int .i64 a2_3)).setCell ⟨go19, (x15_1 : Int).toNat * 5 + 4, none⟩ (.int .i64 x15_1))) ?hg ?ho ?hn ?hr ?_; (case ho => rfl); (case hg => rfl); (case hn => rfl); (case hr => first | (go_simp; done) | (go_simp; rfl)); intro w23 hw; have hg : wr.grownBy w23 (some go19) := (by rw [hw]; exact HP22.2); have hp_ : Kd.R k51 51 w23 w.heap.size (fun _ => True) (.slice (some ⟨go19, 0, none⟩) x7_1.length co14) y200 := (by rw [hw, Ny200.out]; exact HP22.1); clear HP22; have n0_ := Aside0.mk (hp_); have n1_ := Aside0.mk (blk_grown (g := gb194) (o := .cells #[.bool a0_0, .int .i64 a0_1] 38 (0, 0)) (zb BK194.out) hg (Kd.R_ne HO_7.out BK194.out (by decide))); have n2_ := Aside0.mk (blk_grown (g := gb195) (o := .cells #[.bool a2_0, .int .i64 a2_1, .int .i64 a2_2, .int .i64 a2_3] 33 (0, 0)) (zb BK195.out) hg (Kd.R_ne HO_7.out BK195.out (by decide))); have n3_ := Aside0.mk ((by rw [hw]; exact below_set (below_set (below_set (below_set (below_set (HB.out) GB19.out) GB19.out) GB19.out) GB19.out) GB19.out : Below w.heap.size w w23)); clear HO_7; clear BK194; clear BK195; clear HB; have HO_7 := n0_; have BK194 := n1_; have BK195 := n2_; have HB := n3_; clear n0_ n1_ n2_ n3_; clear hg hw hp_))
         (try simp only [← hl7_1])
         go_roundg k1
         case measure => have := HK1.out; omega
         case rel => exact ⟨(y200), (wrap64 (x15_1 + 1)), (by first | rfl | (simp; done) | (simp [*]; done)), H', ⟨by have := HK1.out; omega⟩, ⟨by (try simp only [hl7_1]); (with_reducible repeat (first | apply Kd.R_alloc | apply Kd.R_drewN | apply Kd.R_drew)); exact HO_7.out⟩, ⟨by (try simp only [hl7_1]); (with_reducible repeat (first | refine blk_drewN ?_ _ | refine blk_drew ?_ | refine blk_alloc ?_ _)); exact BK194.out⟩, ⟨by (try simp only [hl7_1]); (with_reducible repeat (first | refine blk_drewN ?_ _ | refine blk_drew ?_ | refine blk_alloc ?_ _)); exact BK195.out⟩, ⟨zw2 HB.out GE194.out GE195.out⟩⟩
        ·rw [if_neg c18] at H
         exact absurd H (by simp)
       ·rw [if_neg c17] at H
        exact absurd H (by simp)
      ·rw [if_neg c16] at H
       have c16b0 : decide (0 < a2_2) = false := decide_eq_false c16
       clear c16
       obtain ⟨ji24, hji24⟩ : ∃ j_ : Int, (wrap64 (8 * x15_1)) = j_ := ⟨_, rfl⟩
       replace H : (if 0 ≤ (ji24) then (if 0 ≤ x15_1 then (if x15_1 < (x7_1.length : Int) then (bytes_Spell.l0 k1 a1 (x7_1.set (x15_1 : Int).toNat (⟨1, Go.bits .and .i64 (shr .i64 a2_1 (ji24)) 255, 0, 0, 0⟩ : S51)) (y197.length : Int) (wrap64 (x15_1 + 1)) a0_0 a0_1 a2_0 a2_1 a2_2 a2_3) else (none)) else (none)) else (none)) = some r := by first | (rw [hji24] at H; exact H) | (simp only [hji24] at H ⊢; exact H)
       have hji24w : (IntKind.i64.wrap (8 * x15_1)) = ji24 := (i64_w _).trans hji24
       by_cases c25 : 0 ≤ (ji24)
       ·rw [if_pos c25] at H
        have c25b0 := eq_true c25
        have c25b1 : decide (0 ≤ (ji24)) = true := decide_eq_true c25
        clear c25
        obtain ⟨ji26, hji26⟩ : ∃ j_ : Int, (shr .i64 a2_1 (ji24)) = j_ := ⟨_, rfl⟩
        replace H : (if 0 ≤ x15_1 then (if x15_1 < (x7_1.length : Int) then (bytes_Spell.l0 k1 a1 (x7_1.set (x15_1 : Int).toNat (⟨1, Go.bits .and .i64 (ji26) 255, 0, 0, 0⟩ : S51)) (y197.length : Int) (wrap64 (x15_1 + 1)) a0_0 a0_1 a2_0 a2_1 a2_2 a2_3) else (none)) else (none)) = some r := by first | (rw [hji26] at H; exact H) | (simp only [hji26] at H ⊢; exact H)
        have hji26_ : (a2_1 / 2 ^ min (ji24).toNat 64) = ji26 := hji26
        have hji26z : (ji24) ≤ 64 → (a2_1 / 2 ^ (ji24).toNat) = ji26 := shr_small hji26
        by_cases c27 : 0 ≤ x15_1
        ·rw [if_pos c27] at H
         have c27b0 : decide (0 ≤ x15_1) = true := decide_eq_true c27
         clear c27
         by_cases c28 : x15_1 < (x7_1.length : Int)
         ·rw [if_pos c28] at H
          have c28b0 : decide (x15_1 < (x7_1.length : Int)) = true := decide_eq_true c28
          clear c28
          obtain ⟨y201, hy201⟩ : ∃ y_ : List (S51), y_ = (x7_1.set (x15_1 : Int).toNat (⟨1, Go.bits .and .i64 (ji26) 255, 0, 0, 0⟩ : S51)) := ⟨_, rfl⟩
          replace H : (bytes_Spell.l0 k1 a1 y201 (y197.length : Int) (wrap64 (x15_1 + 1)) a0_0 a0_1 a2_0 a2_1 a2_2 a2_3) = some r := by first | (rw [hy201]; with_reducible exact H) | (have H2_ := (Option.bind_some _ _).symm.trans H; rw [hy201]; with_reducible exact H2_) | (have H2_ := (Option.bind_some _ _).symm.trans H; with_reducible exact H2_) | with_reducible exact H | (rw [hy201]; exact H) | exact H
          have Ny201 := Aside0.mk hy201
          clear hy201
          have H' := Aside0.mk H
          clear H
          have hnb30 := NB195_194.out
          have hnc30 := NB194_195.out
          have hcz31_0 : wr.cell? ⟨gb195, 0, none⟩ = some (.bool a2_0) := (blk_cell BK195.out 0).trans rfl
          have hcz31_1 : wr.cell? ⟨gb195, 1, none⟩ = some (.int .i64 a2_1) := (blk_cell BK195.out 1).trans rfl
          have hcz31_2 : wr.cell? ⟨gb195, 2, none⟩ = some (.int .i64 a2_2) := (blk_cell BK195.out 2).trans rfl
          have hcz31_3 : wr.cell? ⟨gb195, 3, none⟩ = some (.int .i64 a2_3) := (blk_cell BK195.out 3).trans rfl
          have hfz31_0 := blk_frozen BK195.out 0
          have hfz31_1 := blk_frozen BK195.out 1
          have hfz31_2 := blk_frozen BK195.out 2
          have hfz31_3 := blk_frozen BK195.out 3
          have p29 : 0 ≤ (x15_1 : Int) := zdec
          have q29 : (x15_1 : Int) < ((x7_1.length : Int) : Int) := zdec
          obtain ⟨go29, co29, eo29, gb29, gl29, cl29, HG29⟩ := Kd.R_form HO_7.out (by omega)
          (first | cases eo29 | (injection eo29 with ea_ en_ ec_; (first | subst ea_ | (injection ea_ with ea_; subst ea_)); subst ec_; clear en_))
          have GB29 := Aside0.mk gb29
          have GG29 := Aside0.mk HG29
          clear gb29 gl29 HG29
          obtain ⟨ce29, hcl29, hM29, hcc29, hfr29⟩ := Kd.R_elem HO_7.out z51 (x15_1 : Int) p29 q29
          obtain rfl := k51_openM hM29
          have hx29_0 : wr.cell? ⟨go29, (x15_1 : Int).toNat * 5, none⟩ = some (.int .i64 ((rd_T51 x7_1 x15_1).f0)) := hcc29 0 _ rfl
          have hx29_1 : wr.cell? ⟨go29, (x15_1 : Int).toNat * 5 + 1, none⟩ = some (.int .i64 ((rd_T51 x7_1 x15_1).f1)) := hcc29 1 _ rfl
          have hx29_2 : wr.cell? ⟨go29, (x15_1 : Int).toNat * 5 + 2, none⟩ = some (.int .i64 ((rd_T51 x7_1 x15_1).f2)) := hcc29 2 _ rfl
          have hx29_3 : wr.cell? ⟨go29, (x15_1 : Int).toNat * 5 + 3, none⟩ = some (.int .i64 ((rd_T51 x7_1 x15_1).f3)) := hcc29 3 _ rfl
          have hx29_4 : wr.cell? ⟨go29, (x15_1 : Int).toNat * 5 + 4, none⟩ = some (.int .i64 ((rd_T51 x7_1 x15_1).f4)) := hcc29 4 _ rfl
          have hf29_0 : wr.frozen? ⟨go29, (x15_1 : Int).toNat * 5, none⟩ = false := hfr29 0
          have hf29_1 : wr.frozen? ⟨go29, (x15_1 : Int).toNat * 5 + 1, none⟩ = false := hfr29 1
          have hf29_2 : wr.frozen? ⟨go29, (x15_1 : Int).toNat * 5 + 2, none⟩ = false := hfr29 2
          have hf29_3 : wr.frozen? ⟨go29, (x15_1 : Int).toNat * 5 + 3, none⟩ = false := hfr29 3
          have hf29_4 : wr.frozen? ⟨go29, (x15_1 : Int).toNat * 5 + 4, none⟩ = false := hfr29 4
          clear hcl29 hcc29 hfr29 hM29
          replace p29 := eq_true p29
          replace q29 := eq_true q29
          have HX32 := Aside0.mk (show Kd.R k51 51 wr w.heap.size (fun _ => True) (.slice (some ⟨go29, 0, none⟩) x7_1.length co14) x7_1 from (by (with_reducible repeat (first | apply Kd.R_alloc | apply Kd.R_drewN | apply Kd.R_drew)); exact HO_7.out))
          obtain ⟨ce32, hcl32, hM32, hcc32, hfr32⟩ := Kd.R_elem HX32.out z51 (x15_1 : Int) (zdec) (by have h_ : (x15_1 : Int) < ((x7_1.length : Int) : Int) := zdec; first | exact h_ | (have e_ := (Kd.R_reads' HO_7.out).1; omega) | simpa using h_)
          obtain rfl := k51_openM hM32
          have HP32 := Kd.R_seg HX32.out (x15_1 : Int) (zdec) (by have h_ : (x15_1 : Int) < ((x7_1.length : Int) : Int) := zdec; first | exact h_ | (have e_ := (Kd.R_reads' HO_7.out).1; omega) | simpa using h_) (seg := [.int .i64 1, .int .i64 (Go.bits .and .i64 (ji26) 255), .int .i64 0, .int .i64 0, .int .i64 0]) (j := 0) hcl32 hcc32 (show 5 ≤ 5 from by decide) (x' := (⟨1, Go.bits .and .i64 (ji26) 255, 0, 0, 0⟩ : S51)) (k51_mkM _ _ _ (⟨1, Go.bits .and .i64 (ji26) 255, 0, 0, 0⟩ : S51) ) (fun _ hk => hk)
          have hx32_0 := hcc32 0 _ rfl
          (try simp only [show (k51).sz = 5 from rfl, Nat.mul_one, Nat.add_zero] at hx32_0)
          have hf32_0 := hfr32 0
          (try simp only [show (k51).sz = 5 from rfl, Nat.mul_one, Nat.add_zero] at hf32_0)
          have hx32_1 := hcc32 1 _ rfl
          (try simp only [show (k51).sz = 5 from rfl, Nat.mul_one, Nat.add_zero] at hx32_1)
          have hf32_1 := hfr32 1
          (try simp only [show (k51).sz = 5 from rfl, Nat.mul_one, Nat.add_zero] at hf32_1)
          have hx32_2 := hcc32 2 _ rfl
          (try simp only [show (k51).sz = 5 from rfl, Nat.mul_one, Nat.add_zero] at hx32_2)
          have hf32_2 := hfr32 2
          (try simp only [show (k51).sz = 5 from rfl, Nat.mul_one, Nat.add_zero] at hf32_2)
          have hx32_3 := hcc32 3 _ rfl
          (try simp only [show (k51).sz = 5 from rfl, Nat.mul_one, Nat.add_zero] at hx32_3)
          have hf32_3 := hfr32 3
          (try simp only [show (k51).sz = 5 from rfl, Nat.mul_one, Nat.add_zero] at hf32_3)
          have hx32_4 := hcc32 4 _ rfl
          (try simp only [show (k51).sz = 5 from rfl, Nat.mul_one, Nat.add_zero] at hx32_4)
          have hf32_4 := hfr32 4
          (try simp only [show (k51).sz = 5 from rfl, Nat.mul_one, Nat.add_zero] at hf32_4)
          clear hcl32 hcc32 hfr32 hM32
          go_wp2_with (first | ((with_reducible refine gate_store (t := 51) (p := 27) rfl ?_); refine store_event (t := 51) (p := 27) (v := ?vo_w33) (w1 := (((((wr.setCell ⟨go29, (x15_1 : Int).toNat * 5, none⟩ (.int .i64 1)).setCell ⟨go29, (x15_1 : Int).toNat * 5 + 1, none⟩ (.int .i64 (Go.bits .and .i64 (ji26) 255))).setCell ⟨go29, (x15_1 : Int).toNat * 5 + 2, none⟩ (.int .i64 0)).setCell ⟨go29, (x15_1 : Int).toNat * 5 + 3, none⟩ (.int .i64 0)).setCell ⟨go29, (x15_1 : Int).toNat * 5 + 4, none⟩ (.int .i64 0))) ?hg ?ho ?hn ?hr ?_; (case ho => rfl); (case hg => rfl); (case hn => rfl); (case hr => first | (go_simp; done) | (go_simp; rfl)); intro w33 hw; have hg : wr.grownBy w33 (some go29) := (by rw [hw]; exact HP32.2); have hp_ : Kd.R k51 51 w33 w.heap.size (fun _ => True) (.slice (some ⟨go29, 0, none⟩) x7_1.length co14) y201 := (by rw [hw, Ny201.out]; exact HP32.1); clear HP32; have n0_ := Aside0.mk (hp_); have n1_ := Aside0.mk (blk_grown (g := gb194) (o := .cells #[.bool a0_0, .int .i64 a0_1] 38 (0, 0)) (zb BK194.out) hg (Kd.R_ne HO_7.out BK194.out (by decide))); have n2_ := Aside0.mk (blk_grown (g := gb195) (o := .cells #[.bool a2_0, .int .i64 a2_1, .int .i64 a2_2, .int .i64 a2_3] 33 (0, 0)) (zb BK195.out) hg (Kd.R_ne HO_7.out BK195.out (by decide))); have n3_ := Aside0.mk ((by rw [hw]; exact below_set (below_set (below_set (below_set (below_set (HB.out) GB29.out) GB29.out) GB29.out) GB29.out) GB29.out : Below w.heap.size w w33)); clear HO_7; clear BK194; clear BK195; clear HB; have HO_7 := n0_; have BK194 := n1_; have BK195 := n2_; have HB := n3_; clear n0_ n1_ n2_ n3_; clear hg hw hp_))
          (try simp only [← hl7_1])
          go_roundg k1
          case measure => have := HK1.out; omega
          case rel => exact ⟨(y201), (wrap64 (x15_1 + 1)), (by first | rfl | (simp; done) | (simp [*]; done)), H', ⟨by have := HK1.out; omega⟩, ⟨by (try simp only [hl7_1]); (with_reducible repeat (first | apply Kd.R_alloc | apply Kd.R_drewN | apply Kd.R_drew)); exact HO_7.out⟩, ⟨by (try simp only [hl7_1]); (with_reducible repeat (first | refine blk_drewN ?_ _ | refine blk_drew ?_ | refine blk_alloc ?_ _)); exact BK194.out⟩, ⟨by (try simp only [hl7_1]); (with_reducible repeat (first | refine blk_drewN ?_ _ | refine blk_drew ?_ | refine blk_alloc ?_ _)); exact BK195.out⟩, ⟨zw2 HB.out GE194.out GE195.out⟩⟩
         ·rw [if_neg c28] at H
          exact absurd H (by simp)
        ·rw [if_neg c27] at H
         exact absurd H (by simp)
       ·rw [if_neg c25] at H
        exact absurd H (by simp)
     ·rw [if_neg c15] at H
      have c15b0 : decide (x15_1 < (y197.length : Int)) = false := decide_eq_false c15
      try (have c15b0r := c15b0; rw [hl7_1] at c15b0r)
      clear c15
      by_cases c34 : a1 = 7
      ·rw [if_pos c34] at H
       have c34b0 : (a1 == 7) = true := beq_iff_eq.mpr c34
       have c34b1 : (a1 != 7) = false := bne_eq_false_iff_eq.mpr c34
       clear c34
       obtain rfl := Option.some.inj H
       go_wp2
       go_ret
       exact ⟨_, by first | rfl | (simp [errW_none, errW_some] <;> rfl) | (simp [*, errW_none, errW_some] <;> rfl), by (with_reducible repeat (first | apply Kd.R_alloc | apply Kd.R_drewN | apply Kd.R_drew)); exact HO_7.out, zw2 HB.out GE194.out GE195.out⟩
      ·rw [if_neg c34] at H
       have c34b0 : (a1 == 7) = false := beq_eq_false_iff_ne.mpr c34
       have c34b1 : (a1 != 7) = true := bne_iff_ne.mpr c34
       by_cases c35 : a0_0 = true
       ·subst c35
        have H1 : ((api_Byte_55.f k1 x7_1).bind fun t202 => (some t202)) = some r := by rw [if_pos rfl] at H; exact H
        clear H
        have H := H1
        clear H1
        replace H := Option.bind_eq_some_iff.mp H
        obtain ⟨t202, A360, H⟩ := H
        replace H : (some t202) = some r := H
        have A36 := Aside0.mk A360
        clear A360
        obtain rfl := Option.some.inj H
        have hnb37 := NB194_195.out
        have hnc37 := NB195_194.out
        have hcz38_0 : wr.cell? ⟨gb194, 0, none⟩ = some (.bool true) := (blk_cell BK194.out 0).trans rfl
        have hcz38_1 : wr.cell? ⟨gb194, 1, none⟩ = some (.int .i64 a0_1) := (blk_cell BK194.out 1).trans rfl
        have hfz38_0 := blk_frozen BK194.out 0
        have hfz38_1 := blk_frozen BK194.out 1
        go_wp2_with (first | ((with_reducible refine gate_callee (f := 55) rfl ?_); refine goesL_ (some 49) rfl rfl Try.func55 (by kernel_rfl) rfl #[.slice Ao14 x7_1.length co14] rfl (by (try simp only [List.map_toArray, List.map_cons, List.map_nil]); first | done | rfl | (simp only [List.length_drop, List.length_take]; rfl)) ?_; (with_reducible refine (api_Byte_55.calls k1 (fun k_ => some k_ = (.slice Ao14 x7_1.length co14 : Value).ownBlock) (.slice Ao14 x7_1.length co14) x7_1 t202 w _ ?side1 ?side2 A36.out).mono ?_); (case side1 => repeat (first | (with_reducible first | exact HB.out | apply below_alloc | apply pw_below_drewN | apply below_drew1 | refine below_set ?_ GE194.out | refine below_set ?_ GE195.out) | exact HB.out)); (case side2 => exact Kd.R_tight rfl HO_7.out); rintro e w39 ⟨rfl, hy0, hb, hkp⟩; refine ⟨_, rfl, ?_⟩; have n0_ := Aside0.mk (Kd.R_reok rfl hy0 (fun k_ e_ => HO_7.out.1 k_ e_)); have n1_ := Aside0.mk (blk_kept (zb BK194.out) hkp (fun hs_ => (fun e_ => (Kd.R_ne HO_7.out BK194.out (by decide)) e_) hs_)); have n2_ := Aside0.mk (blk_kept (zb BK195.out) hkp (fun hs_ => (fun e_ => (Kd.R_ne HO_7.out BK195.out (by decide)) e_) hs_)); have n3_ := Aside0.mk (hb); clear HO_7; clear BK194; clear BK195; clear HB; have HO_7 := n0_; have BK194 := n1_; have BK195 := n2_; have HB := n3_; clear n0_ n1_ n2_ n3_; (try clear hb); (try clear hkp); (try clear hy0)))
        go_ret
        exact ⟨_, by first | rfl | (simp [errW_none, errW_some] <;> rfl) | (simp [*, errW_none, errW_some] <;> rfl), by (with_reducible repeat (first | apply Kd.R_alloc | apply Kd.R_drewN | apply Kd.R_drew)); exact HO_7.out, zw2 HB.out GE194.out GE195.out⟩
       ·replace c35 := Bool.eq_false_iff.mpr c35
        subst c35
        have H1 : (some x7_1) = some r := by rw [if_neg (show ¬ (false = true) by decide)] at H; exact H
        clear H
        have H := H1
        clear H1
        obtain rfl := Option.some.inj H
        have hnb40 := NB194_195.out
        have hnc40 := NB195_194.out
        have hcz41_0 : wr.cell? ⟨gb194, 0, none⟩ = some (.bool false) := (blk_cell BK194.out 0).trans rfl
        have hcz41_1 : wr.cell? ⟨gb194, 1, none⟩ = some (.int .i64 a0_1) := (blk_cell BK194.out 1).trans rfl
        have hfz41_0 := blk_frozen BK194.out 0
        have hfz41_1 := blk_frozen BK194.out 1
        go_wp2
        go_ret
        exact ⟨_, by first | rfl | (simp [errW_none, errW_some] <;> rfl) | (simp [*, errW_none, errW_some] <;> rfl), by (with_reducible repeat (first | apply Kd.R_alloc | apply Kd.R_drewN | apply Kd.R_drew)); exact HO_7.out, zw2 HB.out GE194.out GE195.out⟩
  ·rw [if_neg c6] at H
   exact absurd H (by simp)
 ·rw [if_neg c5] at H
  exact absurd H (by simp)

/-! ### bytes_Put: function 26 -/
def bytes_Put.f (k : Nat) (a0_0 : Bool) (a0_1 : Int) (a1 : Int) (a2_0 : Bool) (a2_1 : Int) (a2_2 : Int) (a2_3 : Int) : Option ((List (S51)) × Int) := (word_May.f a0_0 a0_1).bind fun t205 => (if t205 = true then ((bytes_May.f a1 a2_0 a2_1 a2_2 a2_3).bind fun t206 => (if t206 = true then ((bytes_Spell.f k a0_0 a0_1 a1 a2_0 a2_1 a2_2 a2_3).bind fun t207 => (some (t207, 0))) else (some (([] : List (S51)), 1)))) else (some (([] : List (S51)), 1)))
theorem bytes_Put.mono : ∀ a0 a1 a2 a3 a4 a5 a6 k, LeO (bytes_Put.f k a0 a1 a2 a3 a4 a5 a6) (bytes_Put.f (k + 1) a0 a1 a2 a3 a4 a5 a6) := by
 intro a0 a1 a2 a3 a4 a5 a6 k
 unfold bytes_Put.f
 repeat' first
   | (with_reducible exact bytes_Spell.mono _ _ _ _ _ _ _ _)
   | (with_reducible exact LeO.refl _)
   | (with_reducible exact LeO.none _)
   | (with_reducible refine LeO.ite ?_ ?_)
   | (with_reducible refine LeO.bind ?_ (fun _ => ?_))
   | exact bytes_Spell.mono _ _ _ _ _ _ _ _
   | exact LeO.none _
   | refine LeO.ite ?_ ?_
   | refine LeO.bind ?_ (fun _ => ?_)
set_option maxHeartbeats 8000000 in
set_option maxRecDepth 100000 in
theorem bytes_Put.calls (k : Nat) (a0_0 : Bool) (a0_1 : Int) (a1 : Int) (a2_0 : Bool) (a2_1 : Int) (a2_2 : Int) (a2_3 : Int) (r1 : List (S51)) (r2 : Int) (w : World) (h : bytes_Put.f k a0_0 a0_1 a1 a2_0 a2_1 a2_2 a2_3 = some (r1, r2)) :
  Calls Try.prog 26 #[.agg #[.bool a0_0, .int .i64 a0_1], .int .i64 a1, .agg #[.bool a2_0, .int .i64 a2_1, .int .i64 a2_2, .int .i64 a2_3]] w fun e w' => ∃ v0_ : Value, e = .returned (.tuple #[v0_, .int .i64 r2]) ∧ Kd.R k51 51 w' w.heap.size (fun _ => True) v0_ r1 ∧ Below w.heap.size w w' := by
 have hu38 := Try.underlying38
 have hu33 := Try.underlying33
 have HB := Aside0.mk (Below.refl w.heap.size w)
 have H : ((word_May.f a0_0 a0_1).bind fun t205 => (if t205 = true then ((bytes_May.f a1 a2_0 a2_1 a2_2 a2_3).bind fun t206 => (if t206 = true then ((bytes_Spell.f k a0_0 a0_1 a1 a2_0 a2_1 a2_2 a2_3).bind fun t207 => (some (t207, 0))) else (some (([] : List (S51)), 1)))) else (some (([] : List (S51)), 1)))) = some (r1, r2) := h
 clear h
 replace H := Option.bind_eq_some_iff.mp H
 obtain ⟨t205, A40, H⟩ := H
 replace H : (if t205 = true then ((bytes_May.f a1 a2_0 a2_1 a2_2 a2_3).bind fun t206 => (if t206 = true then ((bytes_Spell.f k a0_0 a0_1 a1 a2_0 a2_1 a2_2 a2_3).bind fun t207 => (some (t207, 0))) else (some (([] : List (S51)), 1)))) else (some (([] : List (S51)), 1))) = some (r1, r2) := H
 have A4 := Aside0.mk A40
 clear A40
 by_cases c5 : t205 = true
 ·subst c5
  have H1 : ((bytes_May.f a1 a2_0 a2_1 a2_2 a2_3).bind fun t206 => (if t206 = true then ((bytes_Spell.f k a0_0 a0_1 a1 a2_0 a2_1 a2_2 a2_3).bind fun t207 => (some (t207, 0))) else (some (([] : List (S51)), 1)))) = some (r1, r2) := by rw [if_pos rfl] at H; exact H
  clear H
  have H := H1
  clear H1
  replace H := Option.bind_eq_some_iff.mp H
  obtain ⟨t206, A60, H⟩ := H
  replace H : (if t206 = true then ((bytes_Spell.f k a0_0 a0_1 a1 a2_0 a2_1 a2_2 a2_3).bind fun t207 => (some (t207, 0))) else (some (([] : List (S51)), 1))) = some (r1, r2) := H
  have A6 := Aside0.mk A60
  clear A60
  by_cases c7 : t206 = true
  ·subst c7
   have H1 : ((bytes_Spell.f k a0_0 a0_1 a1 a2_0 a2_1 a2_2 a2_3).bind fun t207 => (some (t207, 0))) = some (r1, r2) := by rw [if_pos rfl] at H; exact H
   clear H
   have H := H1
   clear H1
   replace H := Option.bind_eq_some_iff.mp H
   obtain ⟨t207, A80, H⟩ := H
   replace H : (some (t207, 0)) = some (r1, r2) := H
   have A8 := Aside0.mk A80
   clear A80
   simp only [Option.some.injEq, Prod.mk.injEq] at H
   obtain ⟨rfl, rfl⟩ := H
   go_enter Try.func26, Try.ntmps26
   go_wp2_with (first | ((with_reducible refine gate_dst (N := 3) rfl ?_); refine box_event ?hg (N := 3) ?hd (cs := #[.bool a0_0, .int .i64 a0_1]) (t := 38) ?hr ?_; (case hd => rfl); (case hg => rfl); (case hr => first | (go_simp; done) | (go_simp; rfl)); intro gb203 hg w9 hbox hb; have n0_ := Aside0.mk (below_step (zw0 HB.out) hb); have n1_ := Aside0.mk (hbox); have n2_ := Aside0.mk ((by rw [hg]; exact (below_size (zw0 HB.out)) : w.heap.size ≤ gb203)); have n3_ := Aside0.mk ((by rw [hg]; exact (below_size (zw0 HB.out)) : w.heap.size ≤ gb203)); clear HB; have HB := n0_; have BK203 := n1_; have GW203 := n2_; have GE203 := n3_; clear n0_ n1_ n2_ n3_; clear hb hbox hg) | ((with_reducible refine gate_dst (N := 5) rfl ?_); refine box_event ?hg (N := 5) ?hd (cs := #[.bool a2_0, .int .i64 a2_1, .int .i64 a2_2, .int .i64 a2_3]) (t := 33) ?hr ?_; (case hd => rfl); (case hg => rfl); (case hr => first | (go_simp; done) | (go_simp; rfl)); intro gb204 hg w10 hbox hb; have n0_ := Aside0.mk (blk_below (g := gb203) (o := .cells #[.bool a0_0, .int .i64 a0_1] 38 (0, 0)) (zb BK203.out) hb); have n1_ := Aside0.mk (below_step (zw1 HB.out GE203.out) hb); have n2_ := Aside0.mk (hbox); have n3_ := Aside0.mk ((by rw [hg]; exact (below_size (zw1 HB.out GE203.out)) : w.heap.size ≤ gb204)); have n4_ := Aside0.mk ((by rw [hg]; exact (below_size (zw1 HB.out GE203.out)) : w.heap.size ≤ gb204)); have n5_ := Aside0.mk ((by rw [hg]; exact Nat.ne_of_lt (blk_lt (g := gb203) (o := .cells #[.bool a0_0, .int .i64 a0_1] 38 (0, 0)) (zb BK203.out)) : gb203 ≠ gb204)); have n6_ := Aside0.mk ((by rw [hg]; exact Nat.ne_of_gt (blk_lt (g := gb203) (o := .cells #[.bool a0_0, .int .i64 a0_1] 38 (0, 0)) (zb BK203.out)) : gb204 ≠ gb203)); clear BK203; clear HB; have BK203 := n0_; have HB := n1_; have BK204 := n2_; have GW204 := n3_; have GE204 := n4_; have NB203_204 := n5_; have NB204_203 := n6_; clear n0_ n1_ n2_ n3_ n4_ n5_ n6_; clear hb hbox hg; have hnb11 := NB203_204.out; have hnc11 := NB204_203.out; have hcz12_0 : w10.cell? ⟨gb203, 0, none⟩ = some (.bool a0_0) := (blk_cell BK203.out 0).trans rfl; have hcz12_1 : w10.cell? ⟨gb203, 1, none⟩ = some (.int .i64 a0_1) := (blk_cell BK203.out 1).trans rfl; have hfz12_0 := blk_frozen BK203.out 0; have hfz12_1 := blk_frozen BK203.out 1) | ((with_reducible refine gate_callee (f := 34) rfl ?_); refine goesL_ (some 9) rfl rfl Try.func34 (by kernel_rfl) rfl #[.agg #[.bool a0_0, .int .i64 a0_1]] rfl (by (try simp only [List.map_toArray, List.map_cons, List.map_nil]); first | done | rfl | (simp only [List.length_drop, List.length_take]; rfl)) ?_; (with_reducible refine (word_May.calls a0_0 a0_1 true _ A4.out).mono ?_); rintro e w13 ⟨rfl, hb⟩; refine ⟨_, rfl, ?_⟩; have n0_ := Aside0.mk (blk_below (g := gb203) (o := .cells #[.bool a0_0, .int .i64 a0_1] 38 (0, 0)) (zb BK203.out) hb); have n1_ := Aside0.mk (blk_below (g := gb204) (o := .cells #[.bool a2_0, .int .i64 a2_1, .int .i64 a2_2, .int .i64 a2_3] 33 (0, 0)) (zb BK204.out) hb); have n2_ := Aside0.mk (below_step (zw2 HB.out GE203.out GE204.out) hb); clear BK203; clear BK204; clear HB; have BK203 := n0_; have BK204 := n1_; have HB := n2_; clear n0_ n1_ n2_; (try clear hb); (try clear hb2); (try clear hk); (try clear hi); have hcz14_0 : w13.cell? ⟨gb204, 0, none⟩ = some (.bool a2_0) := (blk_cell BK204.out 0).trans rfl; have hcz14_1 : w13.cell? ⟨gb204, 1, none⟩ = some (.int .i64 a2_1) := (blk_cell BK204.out 1).trans rfl; have hcz14_2 : w13.cell? ⟨gb204, 2, none⟩ = some (.int .i64 a2_2) := (blk_cell BK204.out 2).trans rfl; have hcz14_3 : w13.cell? ⟨gb204, 3, none⟩ = some (.int .i64 a2_3) := (blk_cell BK204.out 3).trans rfl; have hfz14_0 := blk_frozen BK204.out 0; have hfz14_1 := blk_frozen BK204.out 1; have hfz14_2 := blk_frozen BK204.out 2; have hfz14_3 := blk_frozen BK204.out 3) | (go_at_call 43; (with_reducible refine (bytes_May.calls a1 a2_0 a2_1 a2_2 a2_3 true _ A6.out).mono ?_); rintro e w15 ⟨rfl, hb⟩; have n0_ := Aside0.mk (blk_below (g := gb203) (o := .cells #[.bool a0_0, .int .i64 a0_1] 38 (0, 0)) (zb BK203.out) hb); have n1_ := Aside0.mk (blk_below (g := gb204) (o := .cells #[.bool a2_0, .int .i64 a2_1, .int .i64 a2_2, .int .i64 a2_3] 33 (0, 0)) (zb BK204.out) hb); have n2_ := Aside0.mk (below_step (zw2 HB.out GE203.out GE204.out) hb); clear BK203; clear BK204; clear HB; have BK203 := n0_; have BK204 := n1_; have HB := n2_; clear n0_ n1_ n2_; (try clear hb); (try clear hb2); (try clear hk); (try clear hi); have hcz16_0 : w15.cell? ⟨gb203, 0, none⟩ = some (.bool a0_0) := (blk_cell BK203.out 0).trans rfl; have hcz16_1 : w15.cell? ⟨gb203, 1, none⟩ = some (.int .i64 a0_1) := (blk_cell BK203.out 1).trans rfl; have hfz16_0 := blk_frozen BK203.out 0; have hfz16_1 := blk_frozen BK203.out 1; have hcz17_0 : w15.cell? ⟨gb204, 0, none⟩ = some (.bool a2_0) := (blk_cell BK204.out 0).trans rfl; have hcz17_1 : w15.cell? ⟨gb204, 1, none⟩ = some (.int .i64 a2_1) := (blk_cell BK204.out 1).trans rfl; have hcz17_2 : w15.cell? ⟨gb204, 2, none⟩ = some (.int .i64 a2_2) := (blk_cell BK204.out 2).trans rfl; have hcz17_3 : w15.cell? ⟨gb204, 3, none⟩ = some (.int .i64 a2_3) := (blk_cell BK204.out 3).trans rfl; have hfz17_0 := blk_frozen BK204.out 0; have hfz17_1 := blk_frozen BK204.out 1; have hfz17_2 := blk_frozen BK204.out 2; have hfz17_3 := blk_frozen BK204.out 3) | ((with_reducible refine gate_callee (f := 44) rfl ?_); refine goesL_ (some 20) rfl rfl Try.func44 (by kernel_rfl) rfl #[.agg #[.bool a0_0, .int .i64 a0_1], .int .i64 a1, .agg #[.bool a2_0, .int .i64 a2_1, .int .i64 a2_2, .int .i64 a2_3]] rfl (by (try simp only [List.map_toArray, List.map_cons, List.map_nil]); first | done | rfl | (simp only [List.length_drop, List.length_take]; rfl)) ?_; (with_reducible refine (bytes_Spell.calls k a0_0 a0_1 a1 a2_0 a2_1 a2_2 a2_3 t207 _ A8.out).mono ?_); rintro e w18 ⟨v208, rfl, ho0, hb⟩; refine ⟨_, rfl, ?_⟩; have n0_ := Aside0.mk (Kd.R_lower ho0 (below_size (zw2 HB.out GE203.out GE204.out))); have n1_ := Aside0.mk (blk_below (g := gb203) (o := .cells #[.bool a0_0, .int .i64 a0_1] 38 (0, 0)) (zb BK203.out) hb); have n2_ := Aside0.mk (blk_below (g := gb204) (o := .cells #[.bool a2_0, .int .i64 a2_1, .int .i64 a2_2, .int .i64 a2_3] 33 (0, 0)) (zb BK204.out) hb); have n3_ := Aside0.mk (below_step (zw2 HB.out GE203.out GE204.out) hb); clear BK203; clear BK204; clear HB; have HO209 := n0_; have BK203 := n1_; have BK204 := n2_; have HB := n3_; clear n0_ n1_ n2_ n3_; (try clear hb); (try clear hb2); (try clear hk); (try clear hi); (try clear ho0)))
   go_ret2
   exact ⟨_, by first | rfl | (simp [errW_none, errW_some] <;> rfl) | (simp [*, errW_none, errW_some] <;> rfl), by (with_reducible repeat (first | apply Kd.R_alloc | apply Kd.R_drewN | apply Kd.R_drew)); exact HO209.out, zw2 HB.out GE203.out GE204.out⟩
  ·replace c7 := Bool.eq_false_iff.mpr c7
   subst c7
   have H1 : (some (([] : List (S51)), 1)) = some (r1, r2) := by rw [if_neg (show ¬ (false = true) by decide)] at H; exact H
   clear H
   have H := H1
   clear H1
   simp only [Option.some.injEq, Prod.mk.injEq] at H
   obtain ⟨rfl, rfl⟩ := H
   go_enter Try.func26, Try.ntmps26
   go_wp2_with (first | ((with_reducible refine gate_dst (N := 3) rfl ?_); refine box_event ?hg (N := 3) ?hd (cs := #[.bool a0_0, .int .i64 a0_1]) (t := 38) ?hr ?_; (case hd => rfl); (case hg => rfl); (case hr => first | (go_simp; done) | (go_simp; rfl)); intro gb203 hg w19 hbox hb; have n0_ := Aside0.mk (below_step (zw0 HB.out) hb); have n1_ := Aside0.mk (hbox); have n2_ := Aside0.mk ((by rw [hg]; exact (below_size (zw0 HB.out)) : w.heap.size ≤ gb203)); have n3_ := Aside0.mk ((by rw [hg]; exact (below_size (zw0 HB.out)) : w.heap.size ≤ gb203)); clear HB; have HB := n0_; have BK203 := n1_; have GW203 := n2_; have GE203 := n3_; clear n0_ n1_ n2_ n3_; clear hb hbox hg) | ((with_reducible refine gate_dst (N := 5) rfl ?_); refine box_event ?hg (N := 5) ?hd (cs := #[.bool a2_0, .int .i64 a2_1, .int .i64 a2_2, .int .i64 a2_3]) (t := 33) ?hr ?_; (case hd => rfl); (case hg => rfl); (case hr => first | (go_simp; done) | (go_simp; rfl)); intro gb204 hg w20 hbox hb; have n0_ := Aside0.mk (blk_below (g := gb203) (o := .cells #[.bool a0_0, .int .i64 a0_1] 38 (0, 0)) (zb BK203.out) hb); have n1_ := Aside0.mk (below_step (zw1 HB.out GE203.out) hb); have n2_ := Aside0.mk (hbox); have n3_ := Aside0.mk ((by rw [hg]; exact (below_size (zw1 HB.out GE203.out)) : w.heap.size ≤ gb204)); have n4_ := Aside0.mk ((by rw [hg]; exact (below_size (zw1 HB.out GE203.out)) : w.heap.size ≤ gb204)); have n5_ := Aside0.mk ((by rw [hg]; exact Nat.ne_of_lt (blk_lt (g := gb203) (o := .cells #[.bool a0_0, .int .i64 a0_1] 38 (0, 0)) (zb BK203.out)) : gb203 ≠ gb204)); have n6_ := Aside0.mk ((by rw [hg]; exact Nat.ne_of_gt (blk_lt (g := gb203) (o := .cells #[.bool a0_0, .int .i64 a0_1] 38 (0, 0)) (zb BK203.out)) : gb204 ≠ gb203)); clear BK203; clear HB; have BK203 := n0_; have HB := n1_; have BK204 := n2_; have GW204 := n3_; have GE204 := n4_; have NB203_204 := n5_; have NB204_203 := n6_; clear n0_ n1_ n2_ n3_ n4_ n5_ n6_; clear hb hbox hg; have hnb21 := NB203_204.out; have hnc21 := NB204_203.out; have hcz22_0 : w20.cell? ⟨gb203, 0, none⟩ = some (.bool a0_0) := (blk_cell BK203.out 0).trans rfl; have hcz22_1 : w20.cell? ⟨gb203, 1, none⟩ = some (.int .i64 a0_1) := (blk_cell BK203.out 1).trans rfl; have hfz22_0 := blk_frozen BK203.out 0; have hfz22_1 := blk_frozen BK203.out 1) | ((with_reducible refine gate_callee (f := 34) rfl ?_); refine goesL_ (some 9) rfl rfl Try.func34 (by kernel_rfl) rfl #[.agg #[.bool a0_0, .int .i64 a0_1]] rfl (by (try simp only [List.map_toArray, List.map_cons, List.map_nil]); first | done | rfl | (simp only [List.length_drop, List.length_take]; rfl)) ?_; (with_reducible refine (word_May.calls a0_0 a0_1 true _ A4.out).mono ?_); rintro e w23 ⟨rfl, hb⟩; refine ⟨_, rfl, ?_⟩; have n0_ := Aside0.mk (blk_below (g := gb203) (o := .cells #[.bool a0_0, .int .i64 a0_1] 38 (0, 0)) (zb BK203.out) hb); have n1_ := Aside0.mk (blk_below (g := gb204) (o := .cells #[.bool a2_0, .int .i64 a2_1, .int .i64 a2_2, .int .i64 a2_3] 33 (0, 0)) (zb BK204.out) hb); have n2_ := Aside0.mk (below_step (zw2 HB.out GE203.out GE204.out) hb); clear BK203; clear BK204; clear HB; have BK203 := n0_; have BK204 := n1_; have HB := n2_; clear n0_ n1_ n2_; (try clear hb); (try clear hb2); (try clear hk); (try clear hi); have hcz24_0 : w23.cell? ⟨gb204, 0, none⟩ = some (.bool a2_0) := (blk_cell BK204.out 0).trans rfl; have hcz24_1 : w23.cell? ⟨gb204, 1, none⟩ = some (.int .i64 a2_1) := (blk_cell BK204.out 1).trans rfl; have hcz24_2 : w23.cell? ⟨gb204, 2, none⟩ = some (.int .i64 a2_2) := (blk_cell BK204.out 2).trans rfl; have hcz24_3 : w23.cell? ⟨gb204, 3, none⟩ = some (.int .i64 a2_3) := (blk_cell BK204.out 3).trans rfl; have hfz24_0 := blk_frozen BK204.out 0; have hfz24_1 := blk_frozen BK204.out 1; have hfz24_2 := blk_frozen BK204.out 2; have hfz24_3 := blk_frozen BK204.out 3) | (go_at_call 43; (with_reducible refine (bytes_May.calls a1 a2_0 a2_1 a2_2 a2_3 false _ A6.out).mono ?_); rintro e w25 ⟨rfl, hb⟩; have n0_ := Aside0.mk (blk_below (g := gb203) (o := .cells #[.bool a0_0, .int .i64 a0_1] 38 (0, 0)) (zb BK203.out) hb); have n1_ := Aside0.mk (blk_below (g := gb204) (o := .cells #[.bool a2_0, .int .i64 a2_1, .int .i64 a2_2, .int .i64 a2_3] 33 (0, 0)) (zb BK204.out) hb); have n2_ := Aside0.mk (below_step (zw2 HB.out GE203.out GE204.out) hb); clear BK203; clear BK204; clear HB; have BK203 := n0_; have BK204 := n1_; have HB := n2_; clear n0_ n1_ n2_; (try clear hb); (try clear hb2); (try clear hk); (try clear hi)))
   go_ret2
   exact ⟨_, by first | rfl | (simp [errW_none, errW_some] <;> rfl) | (simp [*, errW_none, errW_some] <;> rfl), by first | exact Kd.R_nil _ _ _ _ _ | exact Kd.N_nil _ _ _ _ _ | exact Kd.V_nil _ _ _ _ _ | exact Kd.Q_nil _ _ _ _ _ | exact Kd.S_nil _ _ _ _ _, zw2 HB.out GE203.out GE204.out⟩
 ·replace c5 := Bool.eq_false_iff.mpr c5
  subst c5
  have H1 : (some (([] : List (S51)), 1)) = some (r1, r2) := by rw [if_neg (show ¬ (false = true) by decide)] at H; exact H
  clear H
  have H := H1
  clear H1
  simp only [Option.some.injEq, Prod.mk.injEq] at H
  obtain ⟨rfl, rfl⟩ := H
  go_enter Try.func26, Try.ntmps26
  go_wp2_with (first | ((with_reducible refine gate_dst (N := 3) rfl ?_); refine box_event ?hg (N := 3) ?hd (cs := #[.bool a0_0, .int .i64 a0_1]) (t := 38) ?hr ?_; (case hd => rfl); (case hg => rfl); (case hr => first | (go_simp; done) | (go_simp; rfl)); intro gb203 hg w26 hbox hb; have n0_ := Aside0.mk (below_step (zw0 HB.out) hb); have n1_ := Aside0.mk (hbox); have n2_ := Aside0.mk ((by rw [hg]; exact (below_size (zw0 HB.out)) : w.heap.size ≤ gb203)); have n3_ := Aside0.mk ((by rw [hg]; exact (below_size (zw0 HB.out)) : w.heap.size ≤ gb203)); clear HB; have HB := n0_; have BK203 := n1_; have GW203 := n2_; have GE203 := n3_; clear n0_ n1_ n2_ n3_; clear hb hbox hg) | ((with_reducible refine gate_dst (N := 5) rfl ?_); refine box_event ?hg (N := 5) ?hd (cs := #[.bool a2_0, .int .i64 a2_1, .int .i64 a2_2, .int .i64 a2_3]) (t := 33) ?hr ?_; (case hd => rfl); (case hg => rfl); (case hr => first | (go_simp; done) | (go_simp; rfl)); intro gb204 hg w27 hbox hb; have n0_ := Aside0.mk (blk_below (g := gb203) (o := .cells #[.bool a0_0, .int .i64 a0_1] 38 (0, 0)) (zb BK203.out) hb); have n1_ := Aside0.mk (below_step (zw1 HB.out GE203.out) hb); have n2_ := Aside0.mk (hbox); have n3_ := Aside0.mk ((by rw [hg]; exact (below_size (zw1 HB.out GE203.out)) : w.heap.size ≤ gb204)); have n4_ := Aside0.mk ((by rw [hg]; exact (below_size (zw1 HB.out GE203.out)) : w.heap.size ≤ gb204)); have n5_ := Aside0.mk ((by rw [hg]; exact Nat.ne_of_lt (blk_lt (g := gb203) (o := .cells #[.bool a0_0, .int .i64 a0_1] 38 (0, 0)) (zb BK203.out)) : gb203 ≠ gb204)); have n6_ := Aside0.mk ((by rw [hg]; exact Nat.ne_of_gt (blk_lt (g := gb203) (o := .cells #[.bool a0_0, .int .i64 a0_1] 38 (0, 0)) (zb BK203.out)) : gb204 ≠ gb203)); clear BK203; clear HB; have BK203 := n0_; have HB := n1_; have BK204 := n2_; have GW204 := n3_; have GE204 := n4_; have NB203_204 := n5_; have NB204_203 := n6_; clear n0_ n1_ n2_ n3_ n4_ n5_ n6_; clear hb hbox hg; have hnb28 := NB203_204.out; have hnc28 := NB204_203.out; have hcz29_0 : w27.cell? ⟨gb203, 0, none⟩ = some (.bool a0_0) := (blk_cell BK203.out 0).trans rfl; have hcz29_1 : w27.cell? ⟨gb203, 1, none⟩ = some (.int .i64 a0_1) := (blk_cell BK203.out 1).trans rfl; have hfz29_0 := blk_frozen BK203.out 0; have hfz29_1 := blk_frozen BK203.out 1) | ((with_reducible refine gate_callee (f := 34) rfl ?_); refine goesL_ (some 9) rfl rfl Try.func34 (by kernel_rfl) rfl #[.agg #[.bool a0_0, .int .i64 a0_1]] rfl (by (try simp only [List.map_toArray, List.map_cons, List.map_nil]); first | done | rfl | (simp only [List.length_drop, List.length_take]; rfl)) ?_; (with_reducible refine (word_May.calls a0_0 a0_1 false _ A4.out).mono ?_); rintro e w30 ⟨rfl, hb⟩; refine ⟨_, rfl, ?_⟩; have n0_ := Aside0.mk (blk_below (g := gb203) (o := .cells #[.bool a0_0, .int .i64 a0_1] 38 (0, 0)) (zb BK203.out) hb); have n1_ := Aside0.mk (blk_below (g := gb204) (o := .cells #[.bool a2_0, .int .i64 a2_1, .int .i64 a2_2, .int .i64 a2_3] 33 (0, 0)) (zb BK204.out) hb); have n2_ := Aside0.mk (below_step (zw2 HB.out GE203.out GE204.out) hb); clear BK203; clear BK204; clear HB; have BK203 := n0_; have BK204 := n1_; have HB := n2_; clear n0_ n1_ n2_; (try clear hb); (try clear hb2); (try clear hk); (try clear hi)))
  go_ret2
  exact ⟨_, by first | rfl | (simp [errW_none, errW_some] <;> rfl) | (simp [*, errW_none, errW_some] <;> rfl), by first | exact Kd.R_nil _ _ _ _ _ | exact Kd.N_nil _ _ _ _ _ | exact Kd.V_nil _ _ _ _ _ | exact Kd.Q_nil _ _ _ _ _ | exact Kd.S_nil _ _ _ _ _, zw2 HB.out GE203.out GE204.out⟩

/-! ### cellarlaw8_wakes: function 25 -/
def cellarlaw8_wakes.f (k : Nat)  : Option (Bool) := (bytes_Put.f k true 4 3 false 258 0 0).bind fun bt210 => ((bytes_Get.f k true 4 3 bt210.1).bind fun bt214 => ((cellarlaw8_num.f bt210.2).bind fun t221 => (if t221 = 0 then ((cellarlaw8_num.f bt214.2.2.2.2.2).bind fun t222 => (if t222 = 0 then (if (bt210.1.length : Int) = 2 then (if 0 < (bt210.1.length : Int) then (if ((rd_T51 bt210.1 0).f1) = 1 then (if 1 < (bt210.1.length : Int) then (if ((rd_T51 bt210.1 1).f1) = 2 then (if bt214.2.1 = 258 then (some (bt214.2.2.2.2.1 == 0)) else (some false)) else (some false)) else (none)) else (some false)) else (none)) else (some false)) else (some false))) else (some false))))
theorem cellarlaw8_wakes.mono : ∀ k, LeO (cellarlaw8_wakes.f k ) (cellarlaw8_wakes.f (k + 1) ) := by
 intro  k
 unfold cellarlaw8_wakes.f
 repeat' first
   | (with_reducible exact bytes_Get.mono _ _ _ _ _)
   | (with_reducible exact bytes_Put.mono _ _ _ _ _ _ _ _)
   | (with_reducible exact LeO.refl _)
   | (with_reducible exact LeO.none _)
   | (with_reducible refine LeO.ite ?_ ?_)
   | (with_reducible refine LeO.bind ?_ (fun _ => ?_))
   | exact bytes_Get.mono _ _ _ _ _
   | exact bytes_Put.mono _ _ _ _ _ _ _ _
   | exact LeO.none _
   | refine LeO.ite ?_ ?_
   | refine LeO.bind ?_ (fun _ => ?_)
set_option maxHeartbeats 8000000 in
set_option maxRecDepth 100000 in
theorem cellarlaw8_wakes.calls (k : Nat)  (r : Bool) (w : World) (h : cellarlaw8_wakes.f k  = some r) :
  Calls Try.prog 25 #[] w fun e w' => e = .returned (.bool r) ∧ Below w.heap.size w w' := by
 have hu38 := Try.underlying38
 have hu33 := Try.underlying33
 have HB := Aside0.mk (Below.refl w.heap.size w)
 have H : ((bytes_Put.f k true 4 3 false 258 0 0).bind fun bt210 => ((bytes_Get.f k true 4 3 bt210.1).bind fun bt214 => ((cellarlaw8_num.f bt210.2).bind fun t221 => (if t221 = 0 then ((cellarlaw8_num.f bt214.2.2.2.2.2).bind fun t222 => (if t222 = 0 then (if (bt210.1.length : Int) = 2 then (if 0 < (bt210.1.length : Int) then (if ((rd_T51 bt210.1 0).f1) = 1 then (if 1 < (bt210.1.length : Int) then (if ((rd_T51 bt210.1 1).f1) = 2 then (if bt214.2.1 = 258 then (some (bt214.2.2.2.2.1 == 0)) else (some false)) else (some false)) else (none)) else (some false)) else (none)) else (some false)) else (some false))) else (some false))))) = some r := h
 clear h
 replace H := Option.bind_eq_some_iff.mp H
 obtain ⟨⟨t210, t213⟩, A10, H⟩ := H
 replace H : ((bytes_Get.f k true 4 3 t210).bind fun bt214 => ((cellarlaw8_num.f t213).bind fun t221 => (if t221 = 0 then ((cellarlaw8_num.f bt214.2.2.2.2.2).bind fun t222 => (if t222 = 0 then (if (t210.length : Int) = 2 then (if 0 < (t210.length : Int) then (if ((rd_T51 t210 0).f1) = 1 then (if 1 < (t210.length : Int) then (if ((rd_T51 t210 1).f1) = 2 then (if bt214.2.1 = 258 then (some (bt214.2.2.2.2.1 == 0)) else (some false)) else (some false)) else (none)) else (some false)) else (none)) else (some false)) else (some false))) else (some false)))) = some r := H
 have A1 := Aside0.mk A10
 clear A10
 replace H := Option.bind_eq_some_iff.mp H
 obtain ⟨⟨t214, t215, t216, t217, t218, t219⟩, A20, H⟩ := H
 replace H : ((cellarlaw8_num.f t213).bind fun t221 => (if t221 = 0 then ((cellarlaw8_num.f t219).bind fun t222 => (if t222 = 0 then (if (t210.length : Int) = 2 then (if 0 < (t210.length : Int) then (if ((rd_T51 t210 0).f1) = 1 then (if 1 < (t210.length : Int) then (if ((rd_T51 t210 1).f1) = 2 then (if t215 = 258 then (some (t218 == 0)) else (some false)) else (some false)) else (none)) else (some false)) else (none)) else (some false)) else (some false))) else (some false))) = some r := H
 have A2 := Aside0.mk A20
 clear A20
 replace H := Option.bind_eq_some_iff.mp H
 obtain ⟨t221, A30, H⟩ := H
 replace H : (if t221 = 0 then ((cellarlaw8_num.f t219).bind fun t222 => (if t222 = 0 then (if (t210.length : Int) = 2 then (if 0 < (t210.length : Int) then (if ((rd_T51 t210 0).f1) = 1 then (if 1 < (t210.length : Int) then (if ((rd_T51 t210 1).f1) = 2 then (if t215 = 258 then (some (t218 == 0)) else (some false)) else (some false)) else (none)) else (some false)) else (none)) else (some false)) else (some false))) else (some false)) = some r := H
 have A3 := Aside0.mk A30
 clear A30
 by_cases c4 : t221 = 0
 ·rw [if_pos c4] at H
  have c4b0 : (t221 == 0) = true := beq_iff_eq.mpr c4
  have c4b1 : (t221 != 0) = false := bne_eq_false_iff_eq.mpr c4
  clear c4
  replace H := Option.bind_eq_some_iff.mp H
  obtain ⟨t222, A50, H⟩ := H
  replace H : (if t222 = 0 then (if (t210.length : Int) = 2 then (if 0 < (t210.length : Int) then (if ((rd_T51 t210 0).f1) = 1 then (if 1 < (t210.length : Int) then (if ((rd_T51 t210 1).f1) = 2 then (if t215 = 258 then (some (t218 == 0)) else (some false)) else (some false)) else (none)) else (some false)) else (none)) else (some false)) else (some false)) = some r := H
  have A5 := Aside0.mk A50
  clear A50
  by_cases c6 : t222 = 0
  ·rw [if_pos c6] at H
   have c6b0 : (t222 == 0) = true := beq_iff_eq.mpr c6
   have c6b1 : (t222 != 0) = false := bne_eq_false_iff_eq.mpr c6
   clear c6
   by_cases c7 : (t210.length : Int) = 2
   ·rw [if_pos c7] at H
    have c7b0 : ((t210.length : Int) == 2) = true := beq_iff_eq.mpr c7
    have c7b1 : ((t210.length : Int) != 2) = false := bne_eq_false_iff_eq.mpr c7
    clear c7
    by_cases c8 : 0 < (t210.length : Int)
    ·rw [if_pos c8] at H
     have c8b0 : decide (0 < (t210.length : Int)) = true := decide_eq_true c8
     have c8b1 : decide (0 < t210.length) = true := decide_eq_true (by omega)
     clear c8
     by_cases c9 : ((rd_T51 t210 0).f1) = 1
     ·rw [if_pos c9] at H
      have c9b0 : (((rd_T51 t210 0).f1) == 1) = true := beq_iff_eq.mpr c9
      have c9b1 : (((rd_T51 t210 0).f1) != 1) = false := bne_eq_false_iff_eq.mpr c9
      clear c9
      by_cases c10 : 1 < (t210.length : Int)
      ·rw [if_pos c10] at H
       have c10b0 : decide (1 < (t210.length : Int)) = true := decide_eq_true c10
       have c10b1 : decide (1 < t210.length) = true := decide_eq_true (by omega)
       clear c10
       by_cases c11 : ((rd_T51 t210 1).f1) = 2
       ·rw [if_pos c11] at H
        have c11b0 : (((rd_T51 t210 1).f1) == 2) = true := beq_iff_eq.mpr c11
        have c11b1 : (((rd_T51 t210 1).f1) != 2) = false := bne_eq_false_iff_eq.mpr c11
        clear c11
        by_cases c12 : t215 = 258
        ·rw [if_pos c12] at H
         have c12b0 : (t215 == 258) = true := beq_iff_eq.mpr c12
         have c12b1 : (t215 != 258) = false := bne_eq_false_iff_eq.mpr c12
         clear c12
         obtain rfl := Option.some.inj H
         go_enter Try.func25, Try.ntmps25
         go_wp2_with (first | ((with_reducible refine gate_callee (f := 26) rfl ?_); refine goesL_ (some 9) rfl rfl Try.func26 (by kernel_rfl) rfl #[.agg #[.bool true, .int .i64 4], .int .i64 3, .agg #[.bool false, .int .i64 258, .int .i64 0, .int .i64 0]] rfl (by (try simp only [List.map_toArray, List.map_cons, List.map_nil]); first | done | rfl | (simp only [List.length_drop, List.length_take]; rfl)) ?_; (with_reducible refine (bytes_Put.calls k true 4 3 false 258 0 0 t210 t213 _ A1.out).mono ?_); rintro e w13 ⟨v211, rfl, ho0, hb⟩; refine ⟨_, rfl, ?_⟩; have n0_ := Aside0.mk (Kd.R_lower ho0 (below_size (zw0 HB.out))); have n1_ := Aside0.mk (below_step (zw0 HB.out) hb); clear HB; have HO212 := n0_; have HB := n1_; clear n0_ n1_; (try clear hb); (try clear hb2); (try clear hk); (try clear hi); (try clear ho0); obtain ⟨Ao14, co14, eo14⟩ := Kd.R_slice HO212.out; subst eo14) | ((with_reducible refine gate_callee (f := 17) rfl ?_); refine goesL_ (some 15) rfl rfl Try.func17 (by kernel_rfl) rfl #[.agg #[.bool true, .int .i64 4], .int .i64 3, .slice Ao14 t210.length co14] rfl (by (try simp only [List.map_toArray, List.map_cons, List.map_nil]); first | done | rfl | (simp only [List.length_drop, List.length_take]; rfl)) ?_; (with_reducible refine (bytes_Get.calls k true 4 3 _ _ t210 t214 t215 t216 t217 t218 t219 _ ?side1 ?side2 A2.out).mono ?_); (case side1 => repeat (first | exact (Kd.R_reads' HO212.out).2.2 | (with_reducible refine Kd.C_alloc ?_ _) | (with_reducible refine Kd.C_drewN ?_ _) | (with_reducible refine Kd.C_drew ?_))); (case side2 => exact (Kd.R_reads' HO212.out).2.1); rintro e w15 ⟨rfl, hb⟩; refine ⟨_, rfl, ?_⟩; have n0_ := Aside0.mk (Kd.R_below (by (with_reducible repeat (first | apply Kd.R_alloc | apply Kd.R_drewN | apply Kd.R_drew)); exact HO212.out) hb); have n1_ := Aside0.mk (below_step (zw0 HB.out) hb); clear HO212; clear HB; have HO212 := n0_; have HB := n1_; clear n0_ n1_; (try clear hb); (try clear hb2); (try clear hk); (try clear hi)) | ((with_reducible refine gate_dst (N := 3) rfl ?_); (try (refine gate_guard (by rfl) ?_; dsimp only)); refine box_event ?hg (N := 3) ?hd (cs := #[.bool false, .int .i64 0, .int .i64 0, .int .i64 0]) (t := 33) ?hr ?_; (case hd => rfl); (case hg => rfl); (case hr => first | (go_simp; done) | (go_simp; rfl)); intro gb220 hg w16 hbox hb; have n0_ := Aside0.mk (Kd.R_below (by (with_reducible repeat (first | apply Kd.R_alloc | apply Kd.R_drewN | apply Kd.R_drew)); exact HO212.out) hb); have n1_ := Aside0.mk (below_step (zw0 HB.out) hb); have n2_ := Aside0.mk (hbox); have n3_ := Aside0.mk ((by rw [hg]; exact (below_size (zw0 HB.out)) : w.heap.size ≤ gb220)); have n4_ := Aside0.mk ((by rw [hg]; exact (below_size (zw0 HB.out)) : w.heap.size ≤ gb220)); clear HO212; clear HB; have HO212 := n0_; have HB := n1_; have BK220 := n2_; have GW220 := n3_; have GE220 := n4_; clear n0_ n1_ n2_ n3_ n4_; clear hb hbox hg; have hcz17_0 : w16.cell? ⟨gb220, 0, none⟩ = some (.bool false) := (blk_cell BK220.out 0).trans rfl; have hcz17_1 : w16.cell? ⟨gb220, 1, none⟩ = some (.int .i64 0) := (blk_cell BK220.out 1).trans rfl; have hcz17_2 : w16.cell? ⟨gb220, 2, none⟩ = some (.int .i64 0) := (blk_cell BK220.out 2).trans rfl; have hcz17_3 : w16.cell? ⟨gb220, 3, none⟩ = some (.int .i64 0) := (blk_cell BK220.out 3).trans rfl; have hfz17_0 := blk_frozen BK220.out 0; have hfz17_1 := blk_frozen BK220.out 1; have hfz17_2 := blk_frozen BK220.out 2; have hfz17_3 := blk_frozen BK220.out 3) | ((with_reducible refine gate_callee (f := 23) rfl ?_); refine goesL_ (some 20) rfl rfl Try.func23 (by kernel_rfl) rfl #[.int .i64 t213] rfl (by (try simp only [List.map_toArray, List.map_cons, List.map_nil]); first | done | rfl | (simp only [List.length_drop, List.length_take]; rfl)) ?_; (with_reducible refine (cellarlaw8_num.calls t213 t221 _ A3.out).mono ?_); rintro e w' ⟨rfl, ⟨nd, rfl⟩⟩; refine ⟨_, rfl, ?_⟩) | (go_at_call 23; (with_reducible refine (cellarlaw8_num.calls t219 t222 _ A5.out).mono ?_); rintro e w' ⟨rfl, ⟨nd, rfl⟩⟩; have p223 : 0 ≤ (0 : Int) := (by omega); have q223 : 0 < (t210.length : Int) := zdec; obtain ⟨ad223, e223, hx223_0, hx223_1, hx223_2, hx223_3, hx223_4⟩ := at_T51 (Kd.R_reads' HO212.out).2.2 0 p223 q223; cases e223; have qi223 : (0 < t210.length) = True := eq_true (by omega); (try rw [show ((0 : Int)).toNat = 0 from rfl] at hx223_0); (try rw [show 0 * 5 = 0 from rfl] at hx223_0); (try rw [Addr.add_zero'] at hx223_0); (try rw [show ((0 : Int)).toNat = 0 from rfl] at hx223_1); (try rw [show 0 * 5 = 0 from rfl] at hx223_1); (try rw [Addr.add_zero'] at hx223_1); (try rw [show ((0 : Int)).toNat = 0 from rfl] at hx223_2); (try rw [show 0 * 5 = 0 from rfl] at hx223_2); (try rw [Addr.add_zero'] at hx223_2); (try rw [show ((0 : Int)).toNat = 0 from rfl] at hx223_3); (try rw [show 0 * 5 = 0 from rfl] at hx223_3); (try rw [Addr.add_zero'] at hx223_3); (try rw [show ((0 : Int)).toNat = 0 from rfl] at hx223_4); (try rw [show 0 * 5 = 0 from rfl] at hx223_4); (try rw [Addr.add_zero'] at hx223_4); have hn223_0 : ad223.block ≠ gb220 := Kd.own_blk (Kd.R_ne HO212.out BK220.out (by decide)); have hn223_1 : ad223.block ≠ gb220 := Kd.own_blk (Kd.R_ne HO212.out BK220.out (by decide)); have hn223_2 : ad223.block ≠ gb220 := Kd.own_blk (Kd.R_ne HO212.out BK220.out (by decide)); have hn223_3 : ad223.block ≠ gb220 := Kd.own_blk (Kd.R_ne HO212.out BK220.out (by decide)); replace hx223_0 := (cell_far (p := ⟨gb220, 0, none⟩) (zy hn223_0) (.bool t214)).trans hx223_0; replace hx223_1 := (cell_far (p := ⟨gb220, 0, none⟩) (zy hn223_0) (.bool t214)).trans hx223_1; replace hx223_2 := (cell_far (p := ⟨gb220, 0, none⟩) (zy hn223_0) (.bool t214)).trans hx223_2; replace hx223_3 := (cell_far (p := ⟨gb220, 0, none⟩) (zy hn223_0) (.bool t214)).trans hx223_3; replace hx223_4 := (cell_far (p := ⟨gb220, 0, none⟩) (zy hn223_0) (.bool t214)).trans hx223_4; replace hx223_0 := (cell_far (p := ⟨gb220, 1, none⟩) (zy hn223_1) (.int .i64 t215)).trans hx223_0; replace hx223_1 := (cell_far (p := ⟨gb220, 1, none⟩) (zy hn223_1) (.int .i64 t215)).trans hx223_1; replace hx223_2 := (cell_far (p := ⟨gb220, 1, none⟩) (zy hn223_1) (.int .i64 t215)).trans hx223_2; replace hx223_3 := (cell_far (p := ⟨gb220, 1, none⟩) (zy hn223_1) (.int .i64 t215)).trans hx223_3; replace hx223_4 := (cell_far (p := ⟨gb220, 1, none⟩) (zy hn223_1) (.int .i64 t215)).trans hx223_4; replace hx223_0 := (cell_far (p := ⟨gb220, 2, none⟩) (zy hn223_2) (.int .i64 t216)).trans hx223_0; replace hx223_1 := (cell_far (p := ⟨gb220, 2, none⟩) (zy hn223_2) (.int .i64 t216)).trans hx223_1; replace hx223_2 := (cell_far (p := ⟨gb220, 2, none⟩) (zy hn223_2) (.int .i64 t216)).trans hx223_2; replace hx223_3 := (cell_far (p := ⟨gb220, 2, none⟩) (zy hn223_2) (.int .i64 t216)).trans hx223_3; replace hx223_4 := (cell_far (p := ⟨gb220, 2, none⟩) (zy hn223_2) (.int .i64 t216)).trans hx223_4; replace hx223_0 := (cell_far (p := ⟨gb220, 3, none⟩) (zy hn223_3) (.int .i64 t217)).trans hx223_0; replace hx223_1 := (cell_far (p := ⟨gb220, 3, none⟩) (zy hn223_3) (.int .i64 t217)).trans hx223_1; replace hx223_2 := (cell_far (p := ⟨gb220, 3, none⟩) (zy hn223_3) (.int .i64 t217)).trans hx223_2; replace hx223_3 := (cell_far (p := ⟨gb220, 3, none⟩) (zy hn223_3) (.int .i64 t217)).trans hx223_3; replace hx223_4 := (cell_far (p := ⟨gb220, 3, none⟩) (zy hn223_3) (.int .i64 t217)).trans hx223_4; clear hn223_0; clear hn223_1; clear hn223_2; clear hn223_3; replace p223 := eq_true p223; replace q223 := eq_true q223; have p224 : 0 ≤ (1 : Int) := (by omega); have q224 : 1 < (t210.length : Int) := zdec; obtain ⟨ad224, e224, hx224_0, hx224_1, hx224_2, hx224_3, hx224_4⟩ := at_T51 (Kd.R_reads' HO212.out).2.2 1 p224 q224; obtain rfl : ad223 = ad224 := (by injection e224); (try simp only [show (1 : Int).toNat = 1 from rfl, Nat.reduceMul, Nat.reduceEqDiff, Go.Addr.add, ↓reduceIte] at hx224_0); (try simp only [show (1 : Int).toNat = 1 from rfl, Nat.reduceMul, Nat.reduceEqDiff, Go.Addr.add, ↓reduceIte] at hx224_1); (try simp only [show (1 : Int).toNat = 1 from rfl, Nat.reduceMul, Nat.reduceEqDiff, Go.Addr.add, ↓reduceIte] at hx224_2); (try simp only [show (1 : Int).toNat = 1 from rfl, Nat.reduceMul, Nat.reduceEqDiff, Go.Addr.add, ↓reduceIte] at hx224_3); (try simp only [show (1 : Int).toNat = 1 from rfl, Nat.reduceMul, Nat.reduceEqDiff, Go.Addr.add, ↓reduceIte] at hx224_4); have qi224 : (1 < t210.length) = True := eq_true (by omega); (try rw [show ((1 : Int)).toNat = 1 from rfl] at hx224_0); (try rw [show 1 * 5 = 5 from rfl] at hx224_0); (try rw [show ((1 : Int)).toNat = 1 from rfl] at hx224_1); (try rw [show 1 * 5 = 5 from rfl] at hx224_1); (try rw [show ((1 : Int)).toNat = 1 from rfl] at hx224_2); (try rw [show 1 * 5 = 5 from rfl] at hx224_2); (try rw [show ((1 : Int)).toNat = 1 from rfl] at hx224_3); (try rw [show 1 * 5 = 5 from rfl] at hx224_3); (try rw [show ((1 : Int)).toNat = 1 from rfl] at hx224_4); (try rw [show 1 * 5 = 5 from rfl] at hx224_4); have hn224_0 : ad223.block ≠ gb220 := Kd.own_blk (Kd.R_ne HO212.out BK220.out (by decide)); have hn224_1 : ad223.block ≠ gb220 := Kd.own_blk (Kd.R_ne HO212.out BK220.out (by decide)); have hn224_2 : ad223.block ≠ gb220 := Kd.own_blk (Kd.R_ne HO212.out BK220.out (by decide)); have hn224_3 : ad223.block ≠ gb220 := Kd.own_blk (Kd.R_ne HO212.out BK220.out (by decide)); replace hx224_0 := (cell_far (p := ⟨gb220, 0, none⟩) (zy hn224_0) (.bool t214)).trans hx224_0; replace hx224_1 := (cell_far (p := ⟨gb220, 0, none⟩) (zy hn224_0) (.bool t214)).trans hx224_1; replace hx224_2 := (cell_far (p := ⟨gb220, 0, none⟩) (zy hn224_0) (.bool t214)).trans hx224_2; replace hx224_3 := (cell_far (p := ⟨gb220, 0, none⟩) (zy hn224_0) (.bool t214)).trans hx224_3; replace hx224_4 := (cell_far (p := ⟨gb220, 0, none⟩) (zy hn224_0) (.bool t214)).trans hx224_4; replace hx224_0 := (cell_far (p := ⟨gb220, 1, none⟩) (zy hn224_1) (.int .i64 t215)).trans hx224_0; replace hx224_1 := (cell_far (p := ⟨gb220, 1, none⟩) (zy hn224_1) (.int .i64 t215)).trans hx224_1; replace hx224_2 := (cell_far (p := ⟨gb220, 1, none⟩) (zy hn224_1) (.int .i64 t215)).trans hx224_2; replace hx224_3 := (cell_far (p := ⟨gb220, 1, none⟩) (zy hn224_1) (.int .i64 t215)).trans hx224_3; replace hx224_4 := (cell_far (p := ⟨gb220, 1, none⟩) (zy hn224_1) (.int .i64 t215)).trans hx224_4; replace hx224_0 := (cell_far (p := ⟨gb220, 2, none⟩) (zy hn224_2) (.int .i64 t216)).trans hx224_0; replace hx224_1 := (cell_far (p := ⟨gb220, 2, none⟩) (zy hn224_2) (.int .i64 t216)).trans hx224_1; replace hx224_2 := (cell_far (p := ⟨gb220, 2, none⟩) (zy hn224_2) (.int .i64 t216)).trans hx224_2; replace hx224_3 := (cell_far (p := ⟨gb220, 2, none⟩) (zy hn224_2) (.int .i64 t216)).trans hx224_3; replace hx224_4 := (cell_far (p := ⟨gb220, 2, none⟩) (zy hn224_2) (.int .i64 t216)).trans hx224_4; replace hx224_0 := (cell_far (p := ⟨gb220, 3, none⟩) (zy hn224_3) (.int .i64 t217)).trans hx224_0; replace hx224_1 := (cell_far (p := ⟨gb220, 3, none⟩) (zy hn224_3) (.int .i64 t217)).trans hx224_1; replace hx224_2 := (cell_far (p := ⟨gb220, 3, none⟩) (zy hn224_3) (.int .i64 t217)).trans hx224_2; replace hx224_3 := (cell_far (p := ⟨gb220, 3, none⟩) (zy hn224_3) (.int .i64 t217)).trans hx224_3; replace hx224_4 := (cell_far (p := ⟨gb220, 3, none⟩) (zy hn224_3) (.int .i64 t217)).trans hx224_4; clear hn224_0; clear hn224_1; clear hn224_2; clear hn224_3; replace p224 := eq_true p224; replace q224 := eq_true q224))
         go_ret
         exact ⟨by first | rfl | (simp [errW_none, errW_some] <;> rfl) | (simp [*, errW_none, errW_some] <;> rfl), zw1 HB.out GE220.out⟩
        ·rw [if_neg c12] at H
         have c12b0 : (t215 == 258) = false := beq_eq_false_iff_ne.mpr c12
         have c12b1 : (t215 != 258) = true := bne_iff_ne.mpr c12
         obtain rfl := Option.some.inj H
         go_enter Try.func25, Try.ntmps25
         go_wp2_with (first | ((with_reducible refine gate_callee (f := 26) rfl ?_); refine goesL_ (some 9) rfl rfl Try.func26 (by kernel_rfl) rfl #[.agg #[.bool true, .int .i64 4], .int .i64 3, .agg #[.bool false, .int .i64 258, .int .i64 0, .int .i64 0]] rfl (by (try simp only [List.map_toArray, List.map_cons, List.map_nil]); first | done | rfl | (simp only [List.length_drop, List.length_take]; rfl)) ?_; (with_reducible refine (bytes_Put.calls k true 4 3 false 258 0 0 t210 t213 _ A1.out).mono ?_); rintro e w18 ⟨v211, rfl, ho0, hb⟩; refine ⟨_, rfl, ?_⟩; have n0_ := Aside0.mk (Kd.R_lower ho0 (below_size (zw0 HB.out))); have n1_ := Aside0.mk (below_step (zw0 HB.out) hb); clear HB; have HO212 := n0_; have HB := n1_; clear n0_ n1_; (try clear hb); (try clear hb2); (try clear hk); (try clear hi); (try clear ho0); obtain ⟨Ao19, co19, eo19⟩ := Kd.R_slice HO212.out; subst eo19) | ((with_reducible refine gate_callee (f := 17) rfl ?_); refine goesL_ (some 15) rfl rfl Try.func17 (by kernel_rfl) rfl #[.agg #[.bool true, .int .i64 4], .int .i64 3, .slice Ao19 t210.length co19] rfl (by (try simp only [List.map_toArray, List.map_cons, List.map_nil]); first | done | rfl | (simp only [List.length_drop, List.length_take]; rfl)) ?_; (with_reducible refine (bytes_Get.calls k true 4 3 _ _ t210 t214 t215 t216 t217 t218 t219 _ ?side1 ?side2 A2.out).mono ?_); (case side1 => repeat (first | exact (Kd.R_reads' HO212.out).2.2 | (with_reducible refine Kd.C_alloc ?_ _) | (with_reducible refine Kd.C_drewN ?_ _) | (with_reducible refine Kd.C_drew ?_))); (case side2 => exact (Kd.R_reads' HO212.out).2.1); rintro e w20 ⟨rfl, hb⟩; refine ⟨_, rfl, ?_⟩; have n0_ := Aside0.mk (Kd.R_below (by (with_reducible repeat (first | apply Kd.R_alloc | apply Kd.R_drewN | apply Kd.R_drew)); exact HO212.out) hb); have n1_ := Aside0.mk (below_step (zw0 HB.out) hb); clear HO212; clear HB; have HO212 := n0_; have HB := n1_; clear n0_ n1_; (try clear hb); (try clear hb2); (try clear hk); (try clear hi)) | ((with_reducible refine gate_dst (N := 3) rfl ?_); (try (refine gate_guard (by rfl) ?_; dsimp only)); refine box_event ?hg (N := 3) ?hd (cs := #[.bool false, .int .i64 0, .int .i64 0, .int .i64 0]) (t := 33) ?hr ?_; (case hd => rfl); (case hg => rfl); (case hr => first | (go_simp; done) | (go_simp; rfl)); intro gb220 hg w21 hbox hb; have n0_ := Aside0.mk (Kd.R_below (by (with_reducible repeat (first | apply Kd.R_alloc | apply Kd.R_drewN | apply Kd.R_drew)); exact HO212.out) hb); have n1_ := Aside0.mk (below_step (zw0 HB.out) hb); have n2_ := Aside0.mk (hbox); have n3_ := Aside0.mk ((by rw [hg]; exact (below_size (zw0 HB.out)) : w.heap.size ≤ gb220)); have n4_ := Aside0.mk ((by rw [hg]; exact (below_size (zw0 HB.out)) : w.heap.size ≤ gb220)); clear HO212; clear HB; have HO212 := n0_; have HB := n1_; have BK220 := n2_; have GW220 := n3_; have GE220 := n4_; clear n0_ n1_ n2_ n3_ n4_; clear hb hbox hg; have hcz22_0 : w21.cell? ⟨gb220, 0, none⟩ = some (.bool false) := (blk_cell BK220.out 0).trans rfl; have hcz22_1 : w21.cell? ⟨gb220, 1, none⟩ = some (.int .i64 0) := (blk_cell BK220.out 1).trans rfl; have hcz22_2 : w21.cell? ⟨gb220, 2, none⟩ = some (.int .i64 0) := (blk_cell BK220.out 2).trans rfl; have hcz22_3 : w21.cell? ⟨gb220, 3, none⟩ = some (.int .i64 0) := (blk_cell BK220.out 3).trans rfl; have hfz22_0 := blk_frozen BK220.out 0; have hfz22_1 := blk_frozen BK220.out 1; have hfz22_2 := blk_frozen BK220.out 2; have hfz22_3 := blk_frozen BK220.out 3) | ((with_reducible refine gate_callee (f := 23) rfl ?_); refine goesL_ (some 20) rfl rfl Try.func23 (by kernel_rfl) rfl #[.int .i64 t213] rfl (by (try simp only [List.map_toArray, List.map_cons, List.map_nil]); first | done | rfl | (simp only [List.length_drop, List.length_take]; rfl)) ?_; (with_reducible refine (cellarlaw8_num.calls t213 t221 _ A3.out).mono ?_); rintro e w' ⟨rfl, ⟨nd, rfl⟩⟩; refine ⟨_, rfl, ?_⟩) | (go_at_call 23; (with_reducible refine (cellarlaw8_num.calls t219 t222 _ A5.out).mono ?_); rintro e w' ⟨rfl, ⟨nd, rfl⟩⟩; have p223 : 0 ≤ (0 : Int) := (by omega); have q223 : 0 < (t210.length : Int) := zdec; obtain ⟨ad223, e223, hx223_0, hx223_1, hx223_2, hx223_3, hx223_4⟩ := at_T51 (Kd.R_reads' HO212.out).2.2 0 p223 q223; cases e223; have qi223 : (0 < t210.length) = True := eq_true (by omega); (try rw [show ((0 : Int)).toNat = 0 from rfl] at hx223_0); (try rw [show 0 * 5 = 0 from rfl] at hx223_0); (try rw [Addr.add_zero'] at hx223_0); (try rw [show ((0 : Int)).toNat = 0 from rfl] at hx223_1); (try rw [show 0 * 5 = 0 from rfl] at hx223_1); (try rw [Addr.add_zero'] at hx223_1); (try rw [show ((0 : Int)).toNat = 0 from rfl] at hx223_2); (try rw [show 0 * 5 = 0 from rfl] at hx223_2); (try rw [Addr.add_zero'] at hx223_2); (try rw [show ((0 : Int)).toNat = 0 from rfl] at hx223_3); (try rw [show 0 * 5 = 0 from rfl] at hx223_3); (try rw [Addr.add_zero'] at hx223_3); (try rw [show ((0 : Int)).toNat = 0 from rfl] at hx223_4); (try rw [show 0 * 5 = 0 from rfl] at hx223_4); (try rw [Addr.add_zero'] at hx223_4); have hn223_0 : ad223.block ≠ gb220 := Kd.own_blk (Kd.R_ne HO212.out BK220.out (by decide)); have hn223_1 : ad223.block ≠ gb220 := Kd.own_blk (Kd.R_ne HO212.out BK220.out (by decide)); have hn223_2 : ad223.block ≠ gb220 := Kd.own_blk (Kd.R_ne HO212.out BK220.out (by decide)); have hn223_3 : ad223.block ≠ gb220 := Kd.own_blk (Kd.R_ne HO212.out BK220.out (by decide)); replace hx223_0 := (cell_far (p := ⟨gb220, 0, none⟩) (zy hn223_0) (.bool t214)).trans hx223_0; replace hx223_1 := (cell_far (p := ⟨gb220, 0, none⟩) (zy hn223_0) (.bool t214)).trans hx223_1; replace hx223_2 := (cell_far (p := ⟨gb220, 0, none⟩) (zy hn223_0) (.bool t214)).trans hx223_2; replace hx223_3 := (cell_far (p := ⟨gb220, 0, none⟩) (zy hn223_0) (.bool t214)).trans hx223_3; replace hx223_4 := (cell_far (p := ⟨gb220, 0, none⟩) (zy hn223_0) (.bool t214)).trans hx223_4; replace hx223_0 := (cell_far (p := ⟨gb220, 1, none⟩) (zy hn223_1) (.int .i64 t215)).trans hx223_0; replace hx223_1 := (cell_far (p := ⟨gb220, 1, none⟩) (zy hn223_1) (.int .i64 t215)).trans hx223_1; replace hx223_2 := (cell_far (p := ⟨gb220, 1, none⟩) (zy hn223_1) (.int .i64 t215)).trans hx223_2; replace hx223_3 := (cell_far (p := ⟨gb220, 1, none⟩) (zy hn223_1) (.int .i64 t215)).trans hx223_3; replace hx223_4 := (cell_far (p := ⟨gb220, 1, none⟩) (zy hn223_1) (.int .i64 t215)).trans hx223_4; replace hx223_0 := (cell_far (p := ⟨gb220, 2, none⟩) (zy hn223_2) (.int .i64 t216)).trans hx223_0; replace hx223_1 := (cell_far (p := ⟨gb220, 2, none⟩) (zy hn223_2) (.int .i64 t216)).trans hx223_1; replace hx223_2 := (cell_far (p := ⟨gb220, 2, none⟩) (zy hn223_2) (.int .i64 t216)).trans hx223_2; replace hx223_3 := (cell_far (p := ⟨gb220, 2, none⟩) (zy hn223_2) (.int .i64 t216)).trans hx223_3; replace hx223_4 := (cell_far (p := ⟨gb220, 2, none⟩) (zy hn223_2) (.int .i64 t216)).trans hx223_4; replace hx223_0 := (cell_far (p := ⟨gb220, 3, none⟩) (zy hn223_3) (.int .i64 t217)).trans hx223_0; replace hx223_1 := (cell_far (p := ⟨gb220, 3, none⟩) (zy hn223_3) (.int .i64 t217)).trans hx223_1; replace hx223_2 := (cell_far (p := ⟨gb220, 3, none⟩) (zy hn223_3) (.int .i64 t217)).trans hx223_2; replace hx223_3 := (cell_far (p := ⟨gb220, 3, none⟩) (zy hn223_3) (.int .i64 t217)).trans hx223_3; replace hx223_4 := (cell_far (p := ⟨gb220, 3, none⟩) (zy hn223_3) (.int .i64 t217)).trans hx223_4; clear hn223_0; clear hn223_1; clear hn223_2; clear hn223_3; replace p223 := eq_true p223; replace q223 := eq_true q223; have p224 : 0 ≤ (1 : Int) := (by omega); have q224 : 1 < (t210.length : Int) := zdec; obtain ⟨ad224, e224, hx224_0, hx224_1, hx224_2, hx224_3, hx224_4⟩ := at_T51 (Kd.R_reads' HO212.out).2.2 1 p224 q224; obtain rfl : ad223 = ad224 := (by injection e224); (try simp only [show (1 : Int).toNat = 1 from rfl, Nat.reduceMul, Nat.reduceEqDiff, Go.Addr.add, ↓reduceIte] at hx224_0); (try simp only [show (1 : Int).toNat = 1 from rfl, Nat.reduceMul, Nat.reduceEqDiff, Go.Addr.add, ↓reduceIte] at hx224_1); (try simp only [show (1 : Int).toNat = 1 from rfl, Nat.reduceMul, Nat.reduceEqDiff, Go.Addr.add, ↓reduceIte] at hx224_2); (try simp only [show (1 : Int).toNat = 1 from rfl, Nat.reduceMul, Nat.reduceEqDiff, Go.Addr.add, ↓reduceIte] at hx224_3); (try simp only [show (1 : Int).toNat = 1 from rfl, Nat.reduceMul, Nat.reduceEqDiff, Go.Addr.add, ↓reduceIte] at hx224_4); have qi224 : (1 < t210.length) = True := eq_true (by omega); (try rw [show ((1 : Int)).toNat = 1 from rfl] at hx224_0); (try rw [show 1 * 5 = 5 from rfl] at hx224_0); (try rw [show ((1 : Int)).toNat = 1 from rfl] at hx224_1); (try rw [show 1 * 5 = 5 from rfl] at hx224_1); (try rw [show ((1 : Int)).toNat = 1 from rfl] at hx224_2); (try rw [show 1 * 5 = 5 from rfl] at hx224_2); (try rw [show ((1 : Int)).toNat = 1 from rfl] at hx224_3); (try rw [show 1 * 5 = 5 from rfl] at hx224_3); (try rw [show ((1 : Int)).toNat = 1 from rfl] at hx224_4); (try rw [show 1 * 5 = 5 from rfl] at hx224_4); have hn224_0 : ad223.block ≠ gb220 := Kd.own_blk (Kd.R_ne HO212.out BK220.out (by decide)); have hn224_1 : ad223.block ≠ gb220 := Kd.own_blk (Kd.R_ne HO212.out BK220.out (by decide)); have hn224_2 : ad223.block ≠ gb220 := Kd.own_blk (Kd.R_ne HO212.out BK220.out (by decide)); have hn224_3 : ad223.block ≠ gb220 := Kd.own_blk (Kd.R_ne HO212.out BK220.out (by decide)); replace hx224_0 := (cell_far (p := ⟨gb220, 0, none⟩) (zy hn224_0) (.bool t214)).trans hx224_0; replace hx224_1 := (cell_far (p := ⟨gb220, 0, none⟩) (zy hn224_0) (.bool t214)).trans hx224_1; replace hx224_2 := (cell_far (p := ⟨gb220, 0, none⟩) (zy hn224_0) (.bool t214)).trans hx224_2; replace hx224_3 := (cell_far (p := ⟨gb220, 0, none⟩) (zy hn224_0) (.bool t214)).trans hx224_3; replace hx224_4 := (cell_far (p := ⟨gb220, 0, none⟩) (zy hn224_0) (.bool t214)).trans hx224_4; replace hx224_0 := (cell_far (p := ⟨gb220, 1, none⟩) (zy hn224_1) (.int .i64 t215)).trans hx224_0; replace hx224_1 := (cell_far (p := ⟨gb220, 1, none⟩) (zy hn224_1) (.int .i64 t215)).trans hx224_1; replace hx224_2 := (cell_far (p := ⟨gb220, 1, none⟩) (zy hn224_1) (.int .i64 t215)).trans hx224_2; replace hx224_3 := (cell_far (p := ⟨gb220, 1, none⟩) (zy hn224_1) (.int .i64 t215)).trans hx224_3; replace hx224_4 := (cell_far (p := ⟨gb220, 1, none⟩) (zy hn224_1) (.int .i64 t215)).trans hx224_4; replace hx224_0 := (cell_far (p := ⟨gb220, 2, none⟩) (zy hn224_2) (.int .i64 t216)).trans hx224_0; replace hx224_1 := (cell_far (p := ⟨gb220, 2, none⟩) (zy hn224_2) (.int .i64 t216)).trans hx224_1; replace hx224_2 := (cell_far (p := ⟨gb220, 2, none⟩) (zy hn224_2) (.int .i64 t216)).trans hx224_2; replace hx224_3 := (cell_far (p := ⟨gb220, 2, none⟩) (zy hn224_2) (.int .i64 t216)).trans hx224_3; replace hx224_4 := (cell_far (p := ⟨gb220, 2, none⟩) (zy hn224_2) (.int .i64 t216)).trans hx224_4; replace hx224_0 := (cell_far (p := ⟨gb220, 3, none⟩) (zy hn224_3) (.int .i64 t217)).trans hx224_0; replace hx224_1 := (cell_far (p := ⟨gb220, 3, none⟩) (zy hn224_3) (.int .i64 t217)).trans hx224_1; replace hx224_2 := (cell_far (p := ⟨gb220, 3, none⟩) (zy hn224_3) (.int .i64 t217)).trans hx224_2; replace hx224_3 := (cell_far (p := ⟨gb220, 3, none⟩) (zy hn224_3) (.int .i64 t217)).trans hx224_3; replace hx224_4 := (cell_far (p := ⟨gb220, 3, none⟩) (zy hn224_3) (.int .i64 t217)).trans hx224_4; clear hn224_0; clear hn224_1; clear hn224_2; clear hn224_3; replace p224 := eq_true p224; replace q224 := eq_true q224))
         go_ret
         exact ⟨by first | rfl | (simp [errW_none, errW_some] <;> rfl) | (simp [*, errW_none, errW_some] <;> rfl), zw1 HB.out GE220.out⟩
       ·rw [if_neg c11] at H
        have c11b0 : (((rd_T51 t210 1).f1) == 2) = false := beq_eq_false_iff_ne.mpr c11
        have c11b1 : (((rd_T51 t210 1).f1) != 2) = true := bne_iff_ne.mpr c11
        obtain rfl := Option.some.inj H
        go_enter Try.func25, Try.ntmps25
        go_wp2_with (first | ((with_reducible refine gate_callee (f := 26) rfl ?_); refine goesL_ (some 9) rfl rfl Try.func26 (by kernel_rfl) rfl #[.agg #[.bool true, .int .i64 4], .int .i64 3, .agg #[.bool false, .int .i64 258, .int .i64 0, .int .i64 0]] rfl (by (try simp only [List.map_toArray, List.map_cons, List.map_nil]); first | done | rfl | (simp only [List.length_drop, List.length_take]; rfl)) ?_; (with_reducible refine (bytes_Put.calls k true 4 3 false 258 0 0 t210 t213 _ A1.out).mono ?_); rintro e w23 ⟨v211, rfl, ho0, hb⟩; refine ⟨_, rfl, ?_⟩; have n0_ := Aside0.mk (Kd.R_lower ho0 (below_size (zw0 HB.out))); have n1_ := Aside0.mk (below_step (zw0 HB.out) hb); clear HB; have HO212 := n0_; have HB := n1_; clear n0_ n1_; (try clear hb); (try clear hb2); (try clear hk); (try clear hi); (try clear ho0); obtain ⟨Ao24, co24, eo24⟩ := Kd.R_slice HO212.out; subst eo24) | ((with_reducible refine gate_callee (f := 17) rfl ?_); refine goesL_ (some 15) rfl rfl Try.func17 (by kernel_rfl) rfl #[.agg #[.bool true, .int .i64 4], .int .i64 3, .slice Ao24 t210.length co24] rfl (by (try simp only [List.map_toArray, List.map_cons, List.map_nil]); first | done | rfl | (simp only [List.length_drop, List.length_take]; rfl)) ?_; (with_reducible refine (bytes_Get.calls k true 4 3 _ _ t210 t214 t215 t216 t217 t218 t219 _ ?side1 ?side2 A2.out).mono ?_); (case side1 => repeat (first | exact (Kd.R_reads' HO212.out).2.2 | (with_reducible refine Kd.C_alloc ?_ _) | (with_reducible refine Kd.C_drewN ?_ _) | (with_reducible refine Kd.C_drew ?_))); (case side2 => exact (Kd.R_reads' HO212.out).2.1); rintro e w25 ⟨rfl, hb⟩; refine ⟨_, rfl, ?_⟩; have n0_ := Aside0.mk (Kd.R_below (by (with_reducible repeat (first | apply Kd.R_alloc | apply Kd.R_drewN | apply Kd.R_drew)); exact HO212.out) hb); have n1_ := Aside0.mk (below_step (zw0 HB.out) hb); clear HO212; clear HB; have HO212 := n0_; have HB := n1_; clear n0_ n1_; (try clear hb); (try clear hb2); (try clear hk); (try clear hi)) | ((with_reducible refine gate_dst (N := 3) rfl ?_); (try (refine gate_guard (by rfl) ?_; dsimp only)); refine box_event ?hg (N := 3) ?hd (cs := #[.bool false, .int .i64 0, .int .i64 0, .int .i64 0]) (t := 33) ?hr ?_; (case hd => rfl); (case hg => rfl); (case hr => first | (go_simp; done) | (go_simp; rfl)); intro gb220 hg w26 hbox hb; have n0_ := Aside0.mk (Kd.R_below (by (with_reducible repeat (first | apply Kd.R_alloc | apply Kd.R_drewN | apply Kd.R_drew)); exact HO212.out) hb); have n1_ := Aside0.mk (below_step (zw0 HB.out) hb); have n2_ := Aside0.mk (hbox); have n3_ := Aside0.mk ((by rw [hg]; exact (below_size (zw0 HB.out)) : w.heap.size ≤ gb220)); have n4_ := Aside0.mk ((by rw [hg]; exact (below_size (zw0 HB.out)) : w.heap.size ≤ gb220)); clear HO212; clear HB; have HO212 := n0_; have HB := n1_; have BK220 := n2_; have GW220 := n3_; have GE220 := n4_; clear n0_ n1_ n2_ n3_ n4_; clear hb hbox hg; have hcz27_0 : w26.cell? ⟨gb220, 0, none⟩ = some (.bool false) := (blk_cell BK220.out 0).trans rfl; have hcz27_1 : w26.cell? ⟨gb220, 1, none⟩ = some (.int .i64 0) := (blk_cell BK220.out 1).trans rfl; have hcz27_2 : w26.cell? ⟨gb220, 2, none⟩ = some (.int .i64 0) := (blk_cell BK220.out 2).trans rfl; have hcz27_3 : w26.cell? ⟨gb220, 3, none⟩ = some (.int .i64 0) := (blk_cell BK220.out 3).trans rfl; have hfz27_0 := blk_frozen BK220.out 0; have hfz27_1 := blk_frozen BK220.out 1; have hfz27_2 := blk_frozen BK220.out 2; have hfz27_3 := blk_frozen BK220.out 3) | ((with_reducible refine gate_callee (f := 23) rfl ?_); refine goesL_ (some 20) rfl rfl Try.func23 (by kernel_rfl) rfl #[.int .i64 t213] rfl (by (try simp only [List.map_toArray, List.map_cons, List.map_nil]); first | done | rfl | (simp only [List.length_drop, List.length_take]; rfl)) ?_; (with_reducible refine (cellarlaw8_num.calls t213 t221 _ A3.out).mono ?_); rintro e w' ⟨rfl, ⟨nd, rfl⟩⟩; refine ⟨_, rfl, ?_⟩) | (go_at_call 23; (with_reducible refine (cellarlaw8_num.calls t219 t222 _ A5.out).mono ?_); rintro e w' ⟨rfl, ⟨nd, rfl⟩⟩; have p223 : 0 ≤ (0 : Int) := (by omega); have q223 : 0 < (t210.length : Int) := zdec; obtain ⟨ad223, e223, hx223_0, hx223_1, hx223_2, hx223_3, hx223_4⟩ := at_T51 (Kd.R_reads' HO212.out).2.2 0 p223 q223; cases e223; have qi223 : (0 < t210.length) = True := eq_true (by omega); (try rw [show ((0 : Int)).toNat = 0 from rfl] at hx223_0); (try rw [show 0 * 5 = 0 from rfl] at hx223_0); (try rw [Addr.add_zero'] at hx223_0); (try rw [show ((0 : Int)).toNat = 0 from rfl] at hx223_1); (try rw [show 0 * 5 = 0 from rfl] at hx223_1); (try rw [Addr.add_zero'] at hx223_1); (try rw [show ((0 : Int)).toNat = 0 from rfl] at hx223_2); (try rw [show 0 * 5 = 0 from rfl] at hx223_2); (try rw [Addr.add_zero'] at hx223_2); (try rw [show ((0 : Int)).toNat = 0 from rfl] at hx223_3); (try rw [show 0 * 5 = 0 from rfl] at hx223_3); (try rw [Addr.add_zero'] at hx223_3); (try rw [show ((0 : Int)).toNat = 0 from rfl] at hx223_4); (try rw [show 0 * 5 = 0 from rfl] at hx223_4); (try rw [Addr.add_zero'] at hx223_4); have hn223_0 : ad223.block ≠ gb220 := Kd.own_blk (Kd.R_ne HO212.out BK220.out (by decide)); have hn223_1 : ad223.block ≠ gb220 := Kd.own_blk (Kd.R_ne HO212.out BK220.out (by decide)); have hn223_2 : ad223.block ≠ gb220 := Kd.own_blk (Kd.R_ne HO212.out BK220.out (by decide)); have hn223_3 : ad223.block ≠ gb220 := Kd.own_blk (Kd.R_ne HO212.out BK220.out (by decide)); replace hx223_0 := (cell_far (p := ⟨gb220, 0, none⟩) (zy hn223_0) (.bool t214)).trans hx223_0; replace hx223_1 := (cell_far (p := ⟨gb220, 0, none⟩) (zy hn223_0) (.bool t214)).trans hx223_1; replace hx223_2 := (cell_far (p := ⟨gb220, 0, none⟩) (zy hn223_0) (.bool t214)).trans hx223_2; replace hx223_3 := (cell_far (p := ⟨gb220, 0, none⟩) (zy hn223_0) (.bool t214)).trans hx223_3; replace hx223_4 := (cell_far (p := ⟨gb220, 0, none⟩) (zy hn223_0) (.bool t214)).trans hx223_4; replace hx223_0 := (cell_far (p := ⟨gb220, 1, none⟩) (zy hn223_1) (.int .i64 t215)).trans hx223_0; replace hx223_1 := (cell_far (p := ⟨gb220, 1, none⟩) (zy hn223_1) (.int .i64 t215)).trans hx223_1; replace hx223_2 := (cell_far (p := ⟨gb220, 1, none⟩) (zy hn223_1) (.int .i64 t215)).trans hx223_2; replace hx223_3 := (cell_far (p := ⟨gb220, 1, none⟩) (zy hn223_1) (.int .i64 t215)).trans hx223_3; replace hx223_4 := (cell_far (p := ⟨gb220, 1, none⟩) (zy hn223_1) (.int .i64 t215)).trans hx223_4; replace hx223_0 := (cell_far (p := ⟨gb220, 2, none⟩) (zy hn223_2) (.int .i64 t216)).trans hx223_0; replace hx223_1 := (cell_far (p := ⟨gb220, 2, none⟩) (zy hn223_2) (.int .i64 t216)).trans hx223_1; replace hx223_2 := (cell_far (p := ⟨gb220, 2, none⟩) (zy hn223_2) (.int .i64 t216)).trans hx223_2; replace hx223_3 := (cell_far (p := ⟨gb220, 2, none⟩) (zy hn223_2) (.int .i64 t216)).trans hx223_3; replace hx223_4 := (cell_far (p := ⟨gb220, 2, none⟩) (zy hn223_2) (.int .i64 t216)).trans hx223_4; replace hx223_0 := (cell_far (p := ⟨gb220, 3, none⟩) (zy hn223_3) (.int .i64 t217)).trans hx223_0; replace hx223_1 := (cell_far (p := ⟨gb220, 3, none⟩) (zy hn223_3) (.int .i64 t217)).trans hx223_1; replace hx223_2 := (cell_far (p := ⟨gb220, 3, none⟩) (zy hn223_3) (.int .i64 t217)).trans hx223_2; replace hx223_3 := (cell_far (p := ⟨gb220, 3, none⟩) (zy hn223_3) (.int .i64 t217)).trans hx223_3; replace hx223_4 := (cell_far (p := ⟨gb220, 3, none⟩) (zy hn223_3) (.int .i64 t217)).trans hx223_4; clear hn223_0; clear hn223_1; clear hn223_2; clear hn223_3; replace p223 := eq_true p223; replace q223 := eq_true q223; have p224 : 0 ≤ (1 : Int) := (by omega); have q224 : 1 < (t210.length : Int) := zdec; obtain ⟨ad224, e224, hx224_0, hx224_1, hx224_2, hx224_3, hx224_4⟩ := at_T51 (Kd.R_reads' HO212.out).2.2 1 p224 q224; obtain rfl : ad223 = ad224 := (by injection e224); (try simp only [show (1 : Int).toNat = 1 from rfl, Nat.reduceMul, Nat.reduceEqDiff, Go.Addr.add, ↓reduceIte] at hx224_0); (try simp only [show (1 : Int).toNat = 1 from rfl, Nat.reduceMul, Nat.reduceEqDiff, Go.Addr.add, ↓reduceIte] at hx224_1); (try simp only [show (1 : Int).toNat = 1 from rfl, Nat.reduceMul, Nat.reduceEqDiff, Go.Addr.add, ↓reduceIte] at hx224_2); (try simp only [show (1 : Int).toNat = 1 from rfl, Nat.reduceMul, Nat.reduceEqDiff, Go.Addr.add, ↓reduceIte] at hx224_3); (try simp only [show (1 : Int).toNat = 1 from rfl, Nat.reduceMul, Nat.reduceEqDiff, Go.Addr.add, ↓reduceIte] at hx224_4); have qi224 : (1 < t210.length) = True := eq_true (by omega); (try rw [show ((1 : Int)).toNat = 1 from rfl] at hx224_0); (try rw [show 1 * 5 = 5 from rfl] at hx224_0); (try rw [show ((1 : Int)).toNat = 1 from rfl] at hx224_1); (try rw [show 1 * 5 = 5 from rfl] at hx224_1); (try rw [show ((1 : Int)).toNat = 1 from rfl] at hx224_2); (try rw [show 1 * 5 = 5 from rfl] at hx224_2); (try rw [show ((1 : Int)).toNat = 1 from rfl] at hx224_3); (try rw [show 1 * 5 = 5 from rfl] at hx224_3); (try rw [show ((1 : Int)).toNat = 1 from rfl] at hx224_4); (try rw [show 1 * 5 = 5 from rfl] at hx224_4); have hn224_0 : ad223.block ≠ gb220 := Kd.own_blk (Kd.R_ne HO212.out BK220.out (by decide)); have hn224_1 : ad223.block ≠ gb220 := Kd.own_blk (Kd.R_ne HO212.out BK220.out (by decide)); have hn224_2 : ad223.block ≠ gb220 := Kd.own_blk (Kd.R_ne HO212.out BK220.out (by decide)); have hn224_3 : ad223.block ≠ gb220 := Kd.own_blk (Kd.R_ne HO212.out BK220.out (by decide)); replace hx224_0 := (cell_far (p := ⟨gb220, 0, none⟩) (zy hn224_0) (.bool t214)).trans hx224_0; replace hx224_1 := (cell_far (p := ⟨gb220, 0, none⟩) (zy hn224_0) (.bool t214)).trans hx224_1; replace hx224_2 := (cell_far (p := ⟨gb220, 0, none⟩) (zy hn224_0) (.bool t214)).trans hx224_2; replace hx224_3 := (cell_far (p := ⟨gb220, 0, none⟩) (zy hn224_0) (.bool t214)).trans hx224_3; replace hx224_4 := (cell_far (p := ⟨gb220, 0, none⟩) (zy hn224_0) (.bool t214)).trans hx224_4; replace hx224_0 := (cell_far (p := ⟨gb220, 1, none⟩) (zy hn224_1) (.int .i64 t215)).trans hx224_0; replace hx224_1 := (cell_far (p := ⟨gb220, 1, none⟩) (zy hn224_1) (.int .i64 t215)).trans hx224_1; replace hx224_2 := (cell_far (p := ⟨gb220, 1, none⟩) (zy hn224_1) (.int .i64 t215)).trans hx224_2; replace hx224_3 := (cell_far (p := ⟨gb220, 1, none⟩) (zy hn224_1) (.int .i64 t215)).trans hx224_3; replace hx224_4 := (cell_far (p := ⟨gb220, 1, none⟩) (zy hn224_1) (.int .i64 t215)).trans hx224_4; replace hx224_0 := (cell_far (p := ⟨gb220, 2, none⟩) (zy hn224_2) (.int .i64 t216)).trans hx224_0; replace hx224_1 := (cell_far (p := ⟨gb220, 2, none⟩) (zy hn224_2) (.int .i64 t216)).trans hx224_1; replace hx224_2 := (cell_far (p := ⟨gb220, 2, none⟩) (zy hn224_2) (.int .i64 t216)).trans hx224_2; replace hx224_3 := (cell_far (p := ⟨gb220, 2, none⟩) (zy hn224_2) (.int .i64 t216)).trans hx224_3; replace hx224_4 := (cell_far (p := ⟨gb220, 2, none⟩) (zy hn224_2) (.int .i64 t216)).trans hx224_4; replace hx224_0 := (cell_far (p := ⟨gb220, 3, none⟩) (zy hn224_3) (.int .i64 t217)).trans hx224_0; replace hx224_1 := (cell_far (p := ⟨gb220, 3, none⟩) (zy hn224_3) (.int .i64 t217)).trans hx224_1; replace hx224_2 := (cell_far (p := ⟨gb220, 3, none⟩) (zy hn224_3) (.int .i64 t217)).trans hx224_2; replace hx224_3 := (cell_far (p := ⟨gb220, 3, none⟩) (zy hn224_3) (.int .i64 t217)).trans hx224_3; replace hx224_4 := (cell_far (p := ⟨gb220, 3, none⟩) (zy hn224_3) (.int .i64 t217)).trans hx224_4; clear hn224_0; clear hn224_1; clear hn224_2; clear hn224_3; replace p224 := eq_true p224; replace q224 := eq_true q224))
        go_ret
        exact ⟨by first | rfl | (simp [errW_none, errW_some] <;> rfl) | (simp [*, errW_none, errW_some] <;> rfl), zw1 HB.out GE220.out⟩
      ·rw [if_neg c10] at H
       exact absurd H (by simp)
     ·rw [if_neg c9] at H
      have c9b0 : (((rd_T51 t210 0).f1) == 1) = false := beq_eq_false_iff_ne.mpr c9
      have c9b1 : (((rd_T51 t210 0).f1) != 1) = true := bne_iff_ne.mpr c9
      obtain rfl := Option.some.inj H
      go_enter Try.func25, Try.ntmps25
      go_wp2_with (first | ((with_reducible refine gate_callee (f := 26) rfl ?_); refine goesL_ (some 9) rfl rfl Try.func26 (by kernel_rfl) rfl #[.agg #[.bool true, .int .i64 4], .int .i64 3, .agg #[.bool false, .int .i64 258, .int .i64 0, .int .i64 0]] rfl (by (try simp only [List.map_toArray, List.map_cons, List.map_nil]); first | done | rfl | (simp only [List.length_drop, List.length_take]; rfl)) ?_; (with_reducible refine (bytes_Put.calls k true 4 3 false 258 0 0 t210 t213 _ A1.out).mono ?_); rintro e w28 ⟨v211, rfl, ho0, hb⟩; refine ⟨_, rfl, ?_⟩; have n0_ := Aside0.mk (Kd.R_lower ho0 (below_size (zw0 HB.out))); have n1_ := Aside0.mk (below_step (zw0 HB.out) hb); clear HB; have HO212 := n0_; have HB := n1_; clear n0_ n1_; (try clear hb); (try clear hb2); (try clear hk); (try clear hi); (try clear ho0); obtain ⟨Ao29, co29, eo29⟩ := Kd.R_slice HO212.out; subst eo29) | ((with_reducible refine gate_callee (f := 17) rfl ?_); refine goesL_ (some 15) rfl rfl Try.func17 (by kernel_rfl) rfl #[.agg #[.bool true, .int .i64 4], .int .i64 3, .slice Ao29 t210.length co29] rfl (by (try simp only [List.map_toArray, List.map_cons, List.map_nil]); first | done | rfl | (simp only [List.length_drop, List.length_take]; rfl)) ?_; (with_reducible refine (bytes_Get.calls k true 4 3 _ _ t210 t214 t215 t216 t217 t218 t219 _ ?side1 ?side2 A2.out).mono ?_); (case side1 => repeat (first | exact (Kd.R_reads' HO212.out).2.2 | (with_reducible refine Kd.C_alloc ?_ _) | (with_reducible refine Kd.C_drewN ?_ _) | (with_reducible refine Kd.C_drew ?_))); (case side2 => exact (Kd.R_reads' HO212.out).2.1); rintro e w30 ⟨rfl, hb⟩; refine ⟨_, rfl, ?_⟩; have n0_ := Aside0.mk (Kd.R_below (by (with_reducible repeat (first | apply Kd.R_alloc | apply Kd.R_drewN | apply Kd.R_drew)); exact HO212.out) hb); have n1_ := Aside0.mk (below_step (zw0 HB.out) hb); clear HO212; clear HB; have HO212 := n0_; have HB := n1_; clear n0_ n1_; (try clear hb); (try clear hb2); (try clear hk); (try clear hi)) | ((with_reducible refine gate_dst (N := 3) rfl ?_); (try (refine gate_guard (by rfl) ?_; dsimp only)); refine box_event ?hg (N := 3) ?hd (cs := #[.bool false, .int .i64 0, .int .i64 0, .int .i64 0]) (t := 33) ?hr ?_; (case hd => rfl); (case hg => rfl); (case hr => first | (go_simp; done) | (go_simp; rfl)); intro gb220 hg w31 hbox hb; have n0_ := Aside0.mk (Kd.R_below (by (with_reducible repeat (first | apply Kd.R_alloc | apply Kd.R_drewN | apply Kd.R_drew)); exact HO212.out) hb); have n1_ := Aside0.mk (below_step (zw0 HB.out) hb); have n2_ := Aside0.mk (hbox); have n3_ := Aside0.mk ((by rw [hg]; exact (below_size (zw0 HB.out)) : w.heap.size ≤ gb220)); have n4_ := Aside0.mk ((by rw [hg]; exact (below_size (zw0 HB.out)) : w.heap.size ≤ gb220)); clear HO212; clear HB; have HO212 := n0_; have HB := n1_; have BK220 := n2_; have GW220 := n3_; have GE220 := n4_; clear n0_ n1_ n2_ n3_ n4_; clear hb hbox hg; have hcz32_0 : w31.cell? ⟨gb220, 0, none⟩ = some (.bool false) := (blk_cell BK220.out 0).trans rfl; have hcz32_1 : w31.cell? ⟨gb220, 1, none⟩ = some (.int .i64 0) := (blk_cell BK220.out 1).trans rfl; have hcz32_2 : w31.cell? ⟨gb220, 2, none⟩ = some (.int .i64 0) := (blk_cell BK220.out 2).trans rfl; have hcz32_3 : w31.cell? ⟨gb220, 3, none⟩ = some (.int .i64 0) := (blk_cell BK220.out 3).trans rfl; have hfz32_0 := blk_frozen BK220.out 0; have hfz32_1 := blk_frozen BK220.out 1; have hfz32_2 := blk_frozen BK220.out 2; have hfz32_3 := blk_frozen BK220.out 3) | ((with_reducible refine gate_callee (f := 23) rfl ?_); refine goesL_ (some 20) rfl rfl Try.func23 (by kernel_rfl) rfl #[.int .i64 t213] rfl (by (try simp only [List.map_toArray, List.map_cons, List.map_nil]); first | done | rfl | (simp only [List.length_drop, List.length_take]; rfl)) ?_; (with_reducible refine (cellarlaw8_num.calls t213 t221 _ A3.out).mono ?_); rintro e w' ⟨rfl, ⟨nd, rfl⟩⟩; refine ⟨_, rfl, ?_⟩) | (go_at_call 23; (with_reducible refine (cellarlaw8_num.calls t219 t222 _ A5.out).mono ?_); rintro e w' ⟨rfl, ⟨nd, rfl⟩⟩; have p223 : 0 ≤ (0 : Int) := (by omega); have q223 : 0 < (t210.length : Int) := zdec; obtain ⟨ad223, e223, hx223_0, hx223_1, hx223_2, hx223_3, hx223_4⟩ := at_T51 (Kd.R_reads' HO212.out).2.2 0 p223 q223; cases e223; have qi223 : (0 < t210.length) = True := eq_true (by omega); (try rw [show ((0 : Int)).toNat = 0 from rfl] at hx223_0); (try rw [show 0 * 5 = 0 from rfl] at hx223_0); (try rw [Addr.add_zero'] at hx223_0); (try rw [show ((0 : Int)).toNat = 0 from rfl] at hx223_1); (try rw [show 0 * 5 = 0 from rfl] at hx223_1); (try rw [Addr.add_zero'] at hx223_1); (try rw [show ((0 : Int)).toNat = 0 from rfl] at hx223_2); (try rw [show 0 * 5 = 0 from rfl] at hx223_2); (try rw [Addr.add_zero'] at hx223_2); (try rw [show ((0 : Int)).toNat = 0 from rfl] at hx223_3); (try rw [show 0 * 5 = 0 from rfl] at hx223_3); (try rw [Addr.add_zero'] at hx223_3); (try rw [show ((0 : Int)).toNat = 0 from rfl] at hx223_4); (try rw [show 0 * 5 = 0 from rfl] at hx223_4); (try rw [Addr.add_zero'] at hx223_4); have hn223_0 : ad223.block ≠ gb220 := Kd.own_blk (Kd.R_ne HO212.out BK220.out (by decide)); have hn223_1 : ad223.block ≠ gb220 := Kd.own_blk (Kd.R_ne HO212.out BK220.out (by decide)); have hn223_2 : ad223.block ≠ gb220 := Kd.own_blk (Kd.R_ne HO212.out BK220.out (by decide)); have hn223_3 : ad223.block ≠ gb220 := Kd.own_blk (Kd.R_ne HO212.out BK220.out (by decide)); replace hx223_0 := (cell_far (p := ⟨gb220, 0, none⟩) (zy hn223_0) (.bool t214)).trans hx223_0; replace hx223_1 := (cell_far (p := ⟨gb220, 0, none⟩) (zy hn223_0) (.bool t214)).trans hx223_1; replace hx223_2 := (cell_far (p := ⟨gb220, 0, none⟩) (zy hn223_0) (.bool t214)).trans hx223_2; replace hx223_3 := (cell_far (p := ⟨gb220, 0, none⟩) (zy hn223_0) (.bool t214)).trans hx223_3; replace hx223_4 := (cell_far (p := ⟨gb220, 0, none⟩) (zy hn223_0) (.bool t214)).trans hx223_4; replace hx223_0 := (cell_far (p := ⟨gb220, 1, none⟩) (zy hn223_1) (.int .i64 t215)).trans hx223_0; replace hx223_1 := (cell_far (p := ⟨gb220, 1, none⟩) (zy hn223_1) (.int .i64 t215)).trans hx223_1; replace hx223_2 := (cell_far (p := ⟨gb220, 1, none⟩) (zy hn223_1) (.int .i64 t215)).trans hx223_2; replace hx223_3 := (cell_far (p := ⟨gb220, 1, none⟩) (zy hn223_1) (.int .i64 t215)).trans hx223_3; replace hx223_4 := (cell_far (p := ⟨gb220, 1, none⟩) (zy hn223_1) (.int .i64 t215)).trans hx223_4; replace hx223_0 := (cell_far (p := ⟨gb220, 2, none⟩) (zy hn223_2) (.int .i64 t216)).trans hx223_0; replace hx223_1 := (cell_far (p := ⟨gb220, 2, none⟩) (zy hn223_2) (.int .i64 t216)).trans hx223_1; replace hx223_2 := (cell_far (p := ⟨gb220, 2, none⟩) (zy hn223_2) (.int .i64 t216)).trans hx223_2; replace hx223_3 := (cell_far (p := ⟨gb220, 2, none⟩) (zy hn223_2) (.int .i64 t216)).trans hx223_3; replace hx223_4 := (cell_far (p := ⟨gb220, 2, none⟩) (zy hn223_2) (.int .i64 t216)).trans hx223_4; replace hx223_0 := (cell_far (p := ⟨gb220, 3, none⟩) (zy hn223_3) (.int .i64 t217)).trans hx223_0; replace hx223_1 := (cell_far (p := ⟨gb220, 3, none⟩) (zy hn223_3) (.int .i64 t217)).trans hx223_1; replace hx223_2 := (cell_far (p := ⟨gb220, 3, none⟩) (zy hn223_3) (.int .i64 t217)).trans hx223_2; replace hx223_3 := (cell_far (p := ⟨gb220, 3, none⟩) (zy hn223_3) (.int .i64 t217)).trans hx223_3; replace hx223_4 := (cell_far (p := ⟨gb220, 3, none⟩) (zy hn223_3) (.int .i64 t217)).trans hx223_4; clear hn223_0; clear hn223_1; clear hn223_2; clear hn223_3; replace p223 := eq_true p223; replace q223 := eq_true q223))
      go_ret
      exact ⟨by first | rfl | (simp [errW_none, errW_some] <;> rfl) | (simp [*, errW_none, errW_some] <;> rfl), zw1 HB.out GE220.out⟩
    ·rw [if_neg c8] at H
     exact absurd H (by simp)
   ·rw [if_neg c7] at H
    have c7b0 : ((t210.length : Int) == 2) = false := beq_eq_false_iff_ne.mpr c7
    have c7b1 : ((t210.length : Int) != 2) = true := bne_iff_ne.mpr c7
    obtain rfl := Option.some.inj H
    go_enter Try.func25, Try.ntmps25
    go_wp2_with (first | ((with_reducible refine gate_callee (f := 26) rfl ?_); refine goesL_ (some 9) rfl rfl Try.func26 (by kernel_rfl) rfl #[.agg #[.bool true, .int .i64 4], .int .i64 3, .agg #[.bool false, .int .i64 258, .int .i64 0, .int .i64 0]] rfl (by (try simp only [List.map_toArray, List.map_cons, List.map_nil]); first | done | rfl | (simp only [List.length_drop, List.length_take]; rfl)) ?_; (with_reducible refine (bytes_Put.calls k true 4 3 false 258 0 0 t210 t213 _ A1.out).mono ?_); rintro e w33 ⟨v211, rfl, ho0, hb⟩; refine ⟨_, rfl, ?_⟩; have n0_ := Aside0.mk (Kd.R_lower ho0 (below_size (zw0 HB.out))); have n1_ := Aside0.mk (below_step (zw0 HB.out) hb); clear HB; have HO212 := n0_; have HB := n1_; clear n0_ n1_; (try clear hb); (try clear hb2); (try clear hk); (try clear hi); (try clear ho0); obtain ⟨Ao34, co34, eo34⟩ := Kd.R_slice HO212.out; subst eo34) | ((with_reducible refine gate_callee (f := 17) rfl ?_); refine goesL_ (some 15) rfl rfl Try.func17 (by kernel_rfl) rfl #[.agg #[.bool true, .int .i64 4], .int .i64 3, .slice Ao34 t210.length co34] rfl (by (try simp only [List.map_toArray, List.map_cons, List.map_nil]); first | done | rfl | (simp only [List.length_drop, List.length_take]; rfl)) ?_; (with_reducible refine (bytes_Get.calls k true 4 3 _ _ t210 t214 t215 t216 t217 t218 t219 _ ?side1 ?side2 A2.out).mono ?_); (case side1 => repeat (first | exact (Kd.R_reads' HO212.out).2.2 | (with_reducible refine Kd.C_alloc ?_ _) | (with_reducible refine Kd.C_drewN ?_ _) | (with_reducible refine Kd.C_drew ?_))); (case side2 => exact (Kd.R_reads' HO212.out).2.1); rintro e w35 ⟨rfl, hb⟩; refine ⟨_, rfl, ?_⟩; have n0_ := Aside0.mk (Kd.R_below (by (with_reducible repeat (first | apply Kd.R_alloc | apply Kd.R_drewN | apply Kd.R_drew)); exact HO212.out) hb); have n1_ := Aside0.mk (below_step (zw0 HB.out) hb); clear HO212; clear HB; have HO212 := n0_; have HB := n1_; clear n0_ n1_; (try clear hb); (try clear hb2); (try clear hk); (try clear hi)) | ((with_reducible refine gate_dst (N := 3) rfl ?_); (try (refine gate_guard (by rfl) ?_; dsimp only)); refine box_event ?hg (N := 3) ?hd (cs := #[.bool false, .int .i64 0, .int .i64 0, .int .i64 0]) (t := 33) ?hr ?_; (case hd => rfl); (case hg => rfl); (case hr => first | (go_simp; done) | (go_simp; rfl)); intro gb220 hg w36 hbox hb; have n0_ := Aside0.mk (Kd.R_below (by (with_reducible repeat (first | apply Kd.R_alloc | apply Kd.R_drewN | apply Kd.R_drew)); exact HO212.out) hb); have n1_ := Aside0.mk (below_step (zw0 HB.out) hb); have n2_ := Aside0.mk (hbox); have n3_ := Aside0.mk ((by rw [hg]; exact (below_size (zw0 HB.out)) : w.heap.size ≤ gb220)); have n4_ := Aside0.mk ((by rw [hg]; exact (below_size (zw0 HB.out)) : w.heap.size ≤ gb220)); clear HO212; clear HB; have HO212 := n0_; have HB := n1_; have BK220 := n2_; have GW220 := n3_; have GE220 := n4_; clear n0_ n1_ n2_ n3_ n4_; clear hb hbox hg; have hcz37_0 : w36.cell? ⟨gb220, 0, none⟩ = some (.bool false) := (blk_cell BK220.out 0).trans rfl; have hcz37_1 : w36.cell? ⟨gb220, 1, none⟩ = some (.int .i64 0) := (blk_cell BK220.out 1).trans rfl; have hcz37_2 : w36.cell? ⟨gb220, 2, none⟩ = some (.int .i64 0) := (blk_cell BK220.out 2).trans rfl; have hcz37_3 : w36.cell? ⟨gb220, 3, none⟩ = some (.int .i64 0) := (blk_cell BK220.out 3).trans rfl; have hfz37_0 := blk_frozen BK220.out 0; have hfz37_1 := blk_frozen BK220.out 1; have hfz37_2 := blk_frozen BK220.out 2; have hfz37_3 := blk_frozen BK220.out 3) | ((with_reducible refine gate_callee (f := 23) rfl ?_); refine goesL_ (some 20) rfl rfl Try.func23 (by kernel_rfl) rfl #[.int .i64 t213] rfl (by (try simp only [List.map_toArray, List.map_cons, List.map_nil]); first | done | rfl | (simp only [List.length_drop, List.length_take]; rfl)) ?_; (with_reducible refine (cellarlaw8_num.calls t213 t221 _ A3.out).mono ?_); rintro e w' ⟨rfl, ⟨nd, rfl⟩⟩; refine ⟨_, rfl, ?_⟩) | (go_at_call 23; (with_reducible refine (cellarlaw8_num.calls t219 t222 _ A5.out).mono ?_); rintro e w' ⟨rfl, ⟨nd, rfl⟩⟩))
    go_ret
    exact ⟨by first | rfl | (simp [errW_none, errW_some] <;> rfl) | (simp [*, errW_none, errW_some] <;> rfl), zw1 HB.out GE220.out⟩
  ·rw [if_neg c6] at H
   have c6b0 : (t222 == 0) = false := beq_eq_false_iff_ne.mpr c6
   have c6b1 : (t222 != 0) = true := bne_iff_ne.mpr c6
   obtain rfl := Option.some.inj H
   go_enter Try.func25, Try.ntmps25
   go_wp2_with (first | ((with_reducible refine gate_callee (f := 26) rfl ?_); refine goesL_ (some 9) rfl rfl Try.func26 (by kernel_rfl) rfl #[.agg #[.bool true, .int .i64 4], .int .i64 3, .agg #[.bool false, .int .i64 258, .int .i64 0, .int .i64 0]] rfl (by (try simp only [List.map_toArray, List.map_cons, List.map_nil]); first | done | rfl | (simp only [List.length_drop, List.length_take]; rfl)) ?_; (with_reducible refine (bytes_Put.calls k true 4 3 false 258 0 0 t210 t213 _ A1.out).mono ?_); rintro e w38 ⟨v211, rfl, ho0, hb⟩; refine ⟨_, rfl, ?_⟩; have n0_ := Aside0.mk (Kd.R_lower ho0 (below_size (zw0 HB.out))); have n1_ := Aside0.mk (below_step (zw0 HB.out) hb); clear HB; have HO212 := n0_; have HB := n1_; clear n0_ n1_; (try clear hb); (try clear hb2); (try clear hk); (try clear hi); (try clear ho0); obtain ⟨Ao39, co39, eo39⟩ := Kd.R_slice HO212.out; subst eo39) | ((with_reducible refine gate_callee (f := 17) rfl ?_); refine goesL_ (some 15) rfl rfl Try.func17 (by kernel_rfl) rfl #[.agg #[.bool true, .int .i64 4], .int .i64 3, .slice Ao39 t210.length co39] rfl (by (try simp only [List.map_toArray, List.map_cons, List.map_nil]); first | done | rfl | (simp only [List.length_drop, List.length_take]; rfl)) ?_; (with_reducible refine (bytes_Get.calls k true 4 3 _ _ t210 t214 t215 t216 t217 t218 t219 _ ?side1 ?side2 A2.out).mono ?_); (case side1 => repeat (first | exact (Kd.R_reads' HO212.out).2.2 | (with_reducible refine Kd.C_alloc ?_ _) | (with_reducible refine Kd.C_drewN ?_ _) | (with_reducible refine Kd.C_drew ?_))); (case side2 => exact (Kd.R_reads' HO212.out).2.1); rintro e w40 ⟨rfl, hb⟩; refine ⟨_, rfl, ?_⟩; have n0_ := Aside0.mk (Kd.R_below (by (with_reducible repeat (first | apply Kd.R_alloc | apply Kd.R_drewN | apply Kd.R_drew)); exact HO212.out) hb); have n1_ := Aside0.mk (below_step (zw0 HB.out) hb); clear HO212; clear HB; have HO212 := n0_; have HB := n1_; clear n0_ n1_; (try clear hb); (try clear hb2); (try clear hk); (try clear hi)) | ((with_reducible refine gate_dst (N := 3) rfl ?_); (try (refine gate_guard (by rfl) ?_; dsimp only)); refine box_event ?hg (N := 3) ?hd (cs := #[.bool false, .int .i64 0, .int .i64 0, .int .i64 0]) (t := 33) ?hr ?_; (case hd => rfl); (case hg => rfl); (case hr => first | (go_simp; done) | (go_simp; rfl)); intro gb220 hg w41 hbox hb; have n0_ := Aside0.mk (Kd.R_below (by (with_reducible repeat (first | apply Kd.R_alloc | apply Kd.R_drewN | apply Kd.R_drew)); exact HO212.out) hb); have n1_ := Aside0.mk (below_step (zw0 HB.out) hb); have n2_ := Aside0.mk (hbox); have n3_ := Aside0.mk ((by rw [hg]; exact (below_size (zw0 HB.out)) : w.heap.size ≤ gb220)); have n4_ := Aside0.mk ((by rw [hg]; exact (below_size (zw0 HB.out)) : w.heap.size ≤ gb220)); clear HO212; clear HB; have HO212 := n0_; have HB := n1_; have BK220 := n2_; have GW220 := n3_; have GE220 := n4_; clear n0_ n1_ n2_ n3_ n4_; clear hb hbox hg; have hcz42_0 : w41.cell? ⟨gb220, 0, none⟩ = some (.bool false) := (blk_cell BK220.out 0).trans rfl; have hcz42_1 : w41.cell? ⟨gb220, 1, none⟩ = some (.int .i64 0) := (blk_cell BK220.out 1).trans rfl; have hcz42_2 : w41.cell? ⟨gb220, 2, none⟩ = some (.int .i64 0) := (blk_cell BK220.out 2).trans rfl; have hcz42_3 : w41.cell? ⟨gb220, 3, none⟩ = some (.int .i64 0) := (blk_cell BK220.out 3).trans rfl; have hfz42_0 := blk_frozen BK220.out 0; have hfz42_1 := blk_frozen BK220.out 1; have hfz42_2 := blk_frozen BK220.out 2; have hfz42_3 := blk_frozen BK220.out 3) | ((with_reducible refine gate_callee (f := 23) rfl ?_); refine goesL_ (some 20) rfl rfl Try.func23 (by kernel_rfl) rfl #[.int .i64 t213] rfl (by (try simp only [List.map_toArray, List.map_cons, List.map_nil]); first | done | rfl | (simp only [List.length_drop, List.length_take]; rfl)) ?_; (with_reducible refine (cellarlaw8_num.calls t213 t221 _ A3.out).mono ?_); rintro e w' ⟨rfl, ⟨nd, rfl⟩⟩; refine ⟨_, rfl, ?_⟩) | (go_at_call 23; (with_reducible refine (cellarlaw8_num.calls t219 t222 _ A5.out).mono ?_); rintro e w' ⟨rfl, ⟨nd, rfl⟩⟩))
   go_ret
   exact ⟨by first | rfl | (simp [errW_none, errW_some] <;> rfl) | (simp [*, errW_none, errW_some] <;> rfl), zw1 HB.out GE220.out⟩
 ·rw [if_neg c4] at H
  have c4b0 : (t221 == 0) = false := beq_eq_false_iff_ne.mpr c4
  have c4b1 : (t221 != 0) = true := bne_iff_ne.mpr c4
  obtain rfl := Option.some.inj H
  go_enter Try.func25, Try.ntmps25
  go_wp2_with (first | ((with_reducible refine gate_callee (f := 26) rfl ?_); refine goesL_ (some 9) rfl rfl Try.func26 (by kernel_rfl) rfl #[.agg #[.bool true, .int .i64 4], .int .i64 3, .agg #[.bool false, .int .i64 258, .int .i64 0, .int .i64 0]] rfl (by (try simp only [List.map_toArray, List.map_cons, List.map_nil]); first | done | rfl | (simp only [List.length_drop, List.length_take]; rfl)) ?_; (with_reducible refine (bytes_Put.calls k true 4 3 false 258 0 0 t210 t213 _ A1.out).mono ?_); rintro e w43 ⟨v211, rfl, ho0, hb⟩; refine ⟨_, rfl, ?_⟩; have n0_ := Aside0.mk (Kd.R_lower ho0 (below_size (zw0 HB.out))); have n1_ := Aside0.mk (below_step (zw0 HB.out) hb); clear HB; have HO212 := n0_; have HB := n1_; clear n0_ n1_; (try clear hb); (try clear hb2); (try clear hk); (try clear hi); (try clear ho0); obtain ⟨Ao44, co44, eo44⟩ := Kd.R_slice HO212.out; subst eo44) | ((with_reducible refine gate_callee (f := 17) rfl ?_); refine goesL_ (some 15) rfl rfl Try.func17 (by kernel_rfl) rfl #[.agg #[.bool true, .int .i64 4], .int .i64 3, .slice Ao44 t210.length co44] rfl (by (try simp only [List.map_toArray, List.map_cons, List.map_nil]); first | done | rfl | (simp only [List.length_drop, List.length_take]; rfl)) ?_; (with_reducible refine (bytes_Get.calls k true 4 3 _ _ t210 t214 t215 t216 t217 t218 t219 _ ?side1 ?side2 A2.out).mono ?_); (case side1 => repeat (first | exact (Kd.R_reads' HO212.out).2.2 | (with_reducible refine Kd.C_alloc ?_ _) | (with_reducible refine Kd.C_drewN ?_ _) | (with_reducible refine Kd.C_drew ?_))); (case side2 => exact (Kd.R_reads' HO212.out).2.1); rintro e w45 ⟨rfl, hb⟩; refine ⟨_, rfl, ?_⟩; have n0_ := Aside0.mk (Kd.R_below (by (with_reducible repeat (first | apply Kd.R_alloc | apply Kd.R_drewN | apply Kd.R_drew)); exact HO212.out) hb); have n1_ := Aside0.mk (below_step (zw0 HB.out) hb); clear HO212; clear HB; have HO212 := n0_; have HB := n1_; clear n0_ n1_; (try clear hb); (try clear hb2); (try clear hk); (try clear hi)) | ((with_reducible refine gate_dst (N := 3) rfl ?_); (try (refine gate_guard (by rfl) ?_; dsimp only)); refine box_event ?hg (N := 3) ?hd (cs := #[.bool false, .int .i64 0, .int .i64 0, .int .i64 0]) (t := 33) ?hr ?_; (case hd => rfl); (case hg => rfl); (case hr => first | (go_simp; done) | (go_simp; rfl)); intro gb220 hg w46 hbox hb; have n0_ := Aside0.mk (Kd.R_below (by (with_reducible repeat (first | apply Kd.R_alloc | apply Kd.R_drewN | apply Kd.R_drew)); exact HO212.out) hb); have n1_ := Aside0.mk (below_step (zw0 HB.out) hb); have n2_ := Aside0.mk (hbox); have n3_ := Aside0.mk ((by rw [hg]; exact (below_size (zw0 HB.out)) : w.heap.size ≤ gb220)); have n4_ := Aside0.mk ((by rw [hg]; exact (below_size (zw0 HB.out)) : w.heap.size ≤ gb220)); clear HO212; clear HB; have HO212 := n0_; have HB := n1_; have BK220 := n2_; have GW220 := n3_; have GE220 := n4_; clear n0_ n1_ n2_ n3_ n4_; clear hb hbox hg; have hcz47_0 : w46.cell? ⟨gb220, 0, none⟩ = some (.bool false) := (blk_cell BK220.out 0).trans rfl; have hcz47_1 : w46.cell? ⟨gb220, 1, none⟩ = some (.int .i64 0) := (blk_cell BK220.out 1).trans rfl; have hcz47_2 : w46.cell? ⟨gb220, 2, none⟩ = some (.int .i64 0) := (blk_cell BK220.out 2).trans rfl; have hcz47_3 : w46.cell? ⟨gb220, 3, none⟩ = some (.int .i64 0) := (blk_cell BK220.out 3).trans rfl; have hfz47_0 := blk_frozen BK220.out 0; have hfz47_1 := blk_frozen BK220.out 1; have hfz47_2 := blk_frozen BK220.out 2; have hfz47_3 := blk_frozen BK220.out 3) | ((with_reducible refine gate_callee (f := 23) rfl ?_); refine goesL_ (some 20) rfl rfl Try.func23 (by kernel_rfl) rfl #[.int .i64 t213] rfl (by (try simp only [List.map_toArray, List.map_cons, List.map_nil]); first | done | rfl | (simp only [List.length_drop, List.length_take]; rfl)) ?_; (with_reducible refine (cellarlaw8_num.calls t213 t221 _ A3.out).mono ?_); rintro e w' ⟨rfl, ⟨nd, rfl⟩⟩; refine ⟨_, rfl, ?_⟩))
  go_ret
  exact ⟨by first | rfl | (simp [errW_none, errW_some] <;> rfl) | (simp [*, errW_none, errW_some] <;> rfl), zw1 HB.out GE220.out⟩

/-! ### cellarref1_Wrap: function 45 -/
def cellarref1_Wrap.f (a0 : Int) (a1 : Int) : Option (Int) := if 0 ≤ a1 then (some (Go.bits .and .i64 a0 (wrap64 ((shl .i64 1 a1) - 1)))) else (none)
set_option maxHeartbeats 8000000 in
set_option maxRecDepth 100000 in
theorem cellarref1_Wrap.calls (a0 : Int) (a1 : Int) (r : Int) (w : World) (h : cellarref1_Wrap.f a0 a1 = some r) :
  Calls Try.prog 45 #[.int .i64 a0, .int .i64 a1] w fun e w' => e = .returned (.int .i64 r) ∧ Drawn0 w w' := by
 have H : (if 0 ≤ a1 then (some (Go.bits .and .i64 a0 (wrap64 ((shl .i64 1 a1) - 1)))) else (none)) = some r := h
 clear h
 by_cases c3 : 0 ≤ a1
 ·rw [if_pos c3] at H
  have c3b0 := eq_true c3
  have c3b1 : decide (0 ≤ a1) = true := decide_eq_true c3
  clear c3
  obtain ⟨ji4, hji4⟩ : ∃ j_ : Int, (shl .i64 1 a1) = j_ := ⟨_, rfl⟩
  replace H : (some (Go.bits .and .i64 a0 (wrap64 ((ji4) - 1)))) = some r := by first | (rw [hji4] at H; exact H) | (simp only [hji4] at H ⊢; exact H)
  have hji4_ : (IntKind.i64.wrap (1 * 2 ^ min a1.toNat 64)) = ji4 := hji4
  have hji4z : a1 ≤ 64 → (IntKind.i64.wrap (1 * 2 ^ a1.toNat)) = ji4 := shl_small hji4
  have hji4u : (IntKind.i64.wrap (2 ^ min a1.toNat 64)) = ji4 := by have h_ := hji4_; rw [Int.one_mul] at h_; exact h_
  have hji4v : a1 ≤ 64 → (IntKind.i64.wrap (2 ^ a1.toNat)) = ji4 := fun hle_ => by have h_ := hji4z hle_; rw [Int.one_mul] at h_; exact h_
  have hji4y : (wrap64 (1 * 2 ^ min a1.toNat 64)) = ji4 := (i64_w _).symm.trans hji4_
  have hji4x : a1 ≤ 64 → (wrap64 (1 * 2 ^ a1.toNat)) = ji4 := fun h_ => (i64_w _).symm.trans (hji4z h_)
  obtain rfl := Option.some.inj H
  go_enter Try.func45, Try.ntmps45
  go_wp2
  go_ret
  exact ⟨by first | rfl | (simp; done) | (simp only [← hji4] <;> (first | rfl | simp)) | (simp [*]; done), by repeat (first | exact Drawn0.refl _ | apply Drawn0.step)⟩
 ·rw [if_neg c3] at H
  exact absurd H (by simp)

end Go.Proofs.Ythhdmanpjeminaa.D
