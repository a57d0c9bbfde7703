-- Written by this session's own edition of the print.
import Derived.Test.YthhdmanpjeminaaHx0
import Derived.Test.YthhdmanpjeminaaSq
import Derived.Test.YthhdmanpjeminaaSq2
namespace Go.Proofs.Ythhdmanpjeminaa.H
open Go.RowKit Go.Proofs.Ythhdmanpjeminaa.Fn Go.Proofs.YthhdmanpjeminaaW.PrintWords Go.Proofs.YthhdmanpjeminaaW.PrintLast Go.Proofs.YthhdmanpjeminaaW.PrintMore
attribute [local go_sem] max2_int min2_int max_two min_two max_three min_three max_four min_four   -- for this text's walks alone
set_option linter.unusedVariables false
set_option linter.unusedSimpArgs false

/-! cellarlaw8_Heavy -/
def cellarlaw8_Heavy.f (l0_0 : List (S38)) (l0_1 : List (S33)) (l0_2 : List (S51)) : Option (Bool) := some (decide ((wrap64 ((wrap64 ((l0_0.length : Int) + (l0_1.length : Int))) + (l0_2.length : Int))) > 300))
set_option maxHeartbeats 8000000 in
set_option maxRecDepth 100000 in
theorem cellarlaw8_Heavy.calls (A0_0 : Option Addr) (c0_0 : Nat) (l0_0 : List (S38)) (A0_1 : Option Addr) (c0_1 : Nat) (l0_1 : List (S33)) (A0_2 : Option Addr) (c0_2 : Nat) (l0_2 : List (S51)) (r : Bool) (w : World) (hr0_0 : Kd.C k38 w A0_0 l0_0.length l0_0) (hc0_0 : l0_0.length ≤ c0_0) (hr0_1 : Kd.C k33 w A0_1 l0_1.length l0_1) (hc0_1 : l0_1.length ≤ c0_1) (hr0_2 : Kd.C k51 w A0_2 l0_2.length l0_2) (hc0_2 : l0_2.length ≤ c0_2) (h : cellarlaw8_Heavy.f l0_0 l0_1 l0_2 = some r) :
  Calls Try.prog 13 #[.agg #[.slice A0_0 l0_0.length c0_0, .slice A0_1 l0_1.length c0_1, .slice A0_2 l0_2.length c0_2]] w fun e w' => e = .returned (.bool r) ∧ Below w.heap.size w w' := by
 have hu26 := Try.underlying26
 have HR0_0 := Aside0.mk hr0_0
 have HC0_0 := Aside0.mk hc0_0
 clear hr0_0 hc0_0
 have HR0_1 := Aside0.mk hr0_1
 have HC0_1 := Aside0.mk hc0_1
 clear hr0_1 hc0_1
 have HR0_2 := Aside0.mk hr0_2
 have HC0_2 := Aside0.mk hc0_2
 clear hr0_2 hc0_2
 have HB := Aside0.mk (Below.refl w.heap.size w)
 have H : (some (decide ((wrap64 ((wrap64 ((l0_0.length : Int) + (l0_1.length : Int))) + (l0_2.length : Int))) > 300))) = some r := h
 clear h
 obtain rfl := Option.some.inj H
 go_enter Try.func13, Try.ntmps13
 go_wp2_with (first | ((with_reducible refine gate_dst (N := 1) rfl ?_); refine zbox (N := 1) (cs := #[.slice A0_0 l0_0.length c0_0, .slice A0_1 l0_1.length c0_1, .slice A0_2 l0_2.length c0_2]) (t := 26) ?_; intro gb101 hg w2 hbox hb; have n0_ := Aside0.mk (below_step (zw0 HB.out) hb); have BK101 := Aside0.mk (hbox); have GW101 := Aside0.mk (zg hg (below_size (zw0 HB.out))); have GE101 := GW101; clear HB; have HB := n0_; clear n0_; clear hb hbox hg; have hcz3_0 := zc BK101.out 0; have hcz3_1 := zc BK101.out 1; have hcz3_2 := zc BK101.out 2; have hfz3_0 := blk_frozen BK101.out 0; have hfz3_1 := blk_frozen BK101.out 1; have hfz3_2 := blk_frozen BK101.out 2))
 go_ret
 exact ⟨ze, zw1 HB.out GE101.out⟩

/-! cellarlaw8_Machines -/
def cellarlaw8_Machines.f (l0 : List (S38)) : Option ((List (S38))) := (some (([(⟨false, 4⟩ : S38), (⟨true, 2⟩ : S38), (⟨false, 2⟩ : S38), (⟨true, 4⟩ : S38)] : List (S38)) : List (S38))).bind fun y102 => (if y102.length + l0.length < 8796093022208 then ((some (y102 ++ l0 : List (S38))).bind fun y105 => (if (y105.length : Int) > 6 then (if 6 ≤ (y105.length : Int) then (some (y105.take (6 : Int).toNat)) else (none)) else (some y105))) else (none))
set_option maxHeartbeats 8000000 in
set_option maxRecDepth 100000 in
theorem cellarlaw8_Machines.calls (A0 : Option Addr) (c0 : Nat) (l0 : List (S38)) (r : List (S38)) (w : World) (hr0 : Kd.C k38 w A0 l0.length l0) (hc0 : l0.length ≤ c0) (h : cellarlaw8_Machines.f l0 = some r) :
  Calls Try.prog 14 #[.slice A0 l0.length c0] w fun e w' => ∃ v0_ : Value, e = .returned (v0_) ∧ Kd.R k38 38 w' w.heap.size (fun _ => True) v0_ r ∧ Below w.heap.size w w' := by
 have hu38 := Try.underlying38
 have HR0 := Aside0.mk hr0
 have HC0 := Aside0.mk hc0
 clear hr0 hc0
 have HB := Aside0.mk (Below.refl w.heap.size w)
 have H : ((some (([(⟨false, 4⟩ : S38), (⟨true, 2⟩ : S38), (⟨false, 2⟩ : S38), (⟨true, 4⟩ : S38)] : List (S38)) : List (S38))).bind fun y102 => (if y102.length + l0.length < 8796093022208 then ((some (y102 ++ l0 : List (S38))).bind fun y105 => (if (y105.length : Int) > 6 then (if 6 ≤ (y105.length : Int) then (some (y105.take (6 : Int).toNat)) else (none)) else (some y105))) else (none))) = some r := h
 clear h
 obtain ⟨y102, hy102⟩ : ∃ y_ : List (S38), y_ = (([(⟨false, 4⟩ : S38), (⟨true, 2⟩ : S38), (⟨false, 2⟩ : S38), (⟨true, 4⟩ : S38)] : List (S38))) := ⟨_, rfl⟩
 replace H : (if y102.length + l0.length < 8796093022208 then ((some (y102 ++ l0 : List (S38))).bind fun y105 => (if (y105.length : Int) > 6 then (if 6 ≤ (y105.length : Int) then (some (y105.take (6 : Int).toNat)) else (none)) else (some y105))) else (none)) = some r := by first | (rw [hy102]; with_reducible exact H) | (have H2_ := (Option.bind_some _ _).symm.trans H; rw [hy102]; with_reducible exact H2_) | (have H2_ := (Option.bind_some _ _).symm.trans H; with_reducible exact H2_) | with_reducible exact H | (rw [hy102]; exact H) | exact H
 have Ny102 := Aside0.mk hy102
 clear hy102
 by_cases c2 : y102.length + l0.length < 8796093022208
 ·rw [if_pos c2] at H
  have LMc2 := Aside0.mk c2
  clear c2
  obtain ⟨y105, hy105⟩ : ∃ y_ : List (S38), y_ = (y102 ++ l0) := ⟨_, rfl⟩
  replace H : (if (y105.length : Int) > 6 then (if 6 ≤ (y105.length : Int) then (some (y105.take (6 : Int).toNat)) else (none)) else (some y105)) = some r := by first | (rw [hy105]; with_reducible exact H) | (have H2_ := (Option.bind_some _ _).symm.trans H; rw [hy105]; with_reducible exact H2_) | (have H2_ := (Option.bind_some _ _).symm.trans H; with_reducible exact H2_) | with_reducible exact H | (rw [hy105]; exact H) | exact H
  have Ny105 := Aside0.mk hy105
  clear hy105
  by_cases c3 : (y105.length : Int) > 6
  rotate_left
  ·rw [if_neg c3] at H
   have c3b0 : decide (6 < (y105.length : Int)) = false := decide_eq_false c3
   have c3b1 : decide (6 < y105.length) = false := decide_eq_false (by omega)
   clear c3
   obtain rfl := Option.some.inj H
   go_enter Try.func14, Try.ntmps14
   go_wp2_with (first | ((with_reducible refine gate_dst (N := 8) rfl ?_); refine Kd.R_lit k38 _ 38 ?hg (N := 8) ?hd (xs := ([(⟨false, 4⟩ : S38), (⟨true, 2⟩ : S38), (⟨false, 2⟩ : S38), (⟨true, 4⟩ : S38)] : List (S38))) (inner := [.bool false, .int .i64 4, .bool true, .int .i64 2, .bool false, .int .i64 2, .bool true, .int .i64 4]) (ok := fun _ => True) (okp := fun _ => True) ?hr ?hp (fun _ hk => hk) trivial (Below.refl _ _) (Nat.le_refl _) (by simp) ?_; (case hd => rfl); (case hg => rfl); (case hr => first | (go_simp; done) | (go_simp; rfl)); (case hp => exact (Reps.c2 (show Kd.M k38 _ _ _ (⟨false, 4⟩ : S38) [.bool false, .int .i64 4] from (k38_mkM _ _ _ (⟨false, 4⟩ : S38) )) (Reps.c2 (show Kd.M k38 _ _ _ (⟨true, 2⟩ : S38) [.bool true, .int .i64 2] from (k38_mkM _ _ _ (⟨true, 2⟩ : S38) )) (Reps.c2 (show Kd.M k38 _ _ _ (⟨false, 2⟩ : S38) [.bool false, .int .i64 2] from (k38_mkM _ _ _ (⟨false, 2⟩ : S38) )) (Reps.c2 (show Kd.M k38 _ _ _ (⟨true, 4⟩ : S38) [.bool true, .int .i64 4] from (k38_mkM _ _ _ (⟨true, 4⟩ : S38) )) (Reps.none _ _)))))); intro v103 w10 ho11 hb hg_ hnew_; clear hg_ hnew_; (first | rw [← Ny102.out] at ho11 | (simp only [Int.reduceToNat] at ho11; rw [← Ny102.out] at ho11)); have HO104 := Aside0.mk (Kd.R_lower ho11 (below_size (zw0 HB.out))); have n1_ := Aside0.mk (below_step (zw0 HB.out) hb); clear HB; have HB := n1_; clear n1_; clear hb ho11) | ((with_reducible refine gate_builtin (b := .append) (xs := #[.tmp 8, .tmp 9]) rfl ?_); at_builtin; refine Kd.R_append_rows k38 (w0 := w) w.heap.size rfl (.tmp 8) (.tmp 9) 22 38 (.agg #[(.bool false), (.int .i64 0)]) 16 rfl Try.underlying22 info38 rfl (by decide) (by omega) v103 y102 l0 _ _ _ (fun _ => True) (fun _ => False) rfl rfl ?aO ?aR (fun _ _ h => h) (fun _ h => h.elim) ?aF ?aB ?aS ?aL ?_; (case aR => repeat (first | exact (Kd.C_below HR0.out HB.out) | (with_reducible refine Kd.C_alloc ?_ _) | (with_reducible refine Kd.C_drewN ?_ _) | (with_reducible refine Kd.C_drew ?_))); (case aB => exact (zw0 HB.out)); (case aF => exact (fun _ _ => trivial)); (case aO => exact (by (with_reducible repeat (first | apply Kd.R_alloc | apply Kd.R_drewN | apply Kd.R_drew)); exact HO104.out)); (case aS => exact (below_size (zw0 HB.out))); (case aL => have := LMc2.out; omega); intro v106 w12 ho hb hg hat; rw [← Ny105.out] at ho; have n0_ := Aside0.mk (hb); have HO107 := Aside0.mk (ho); clear HB HO104; have HB := n0_; clear n0_; clear ho hb hg hat; obtain ⟨Ao13, co13, eo13⟩ := Kd.R_slice HO107.out; subst eo13))
   go_ret
   exact ⟨_, ze, by (with_reducible repeat (first | apply Kd.R_alloc | apply Kd.R_drewN | apply Kd.R_drew)); exact HO107.out, zw0 HB.out⟩
  rw [if_pos c3] at H
  have c3b0 : decide (6 < (y105.length : Int)) = true := decide_eq_true c3
  have c3b1 : decide (6 < y105.length) = true := decide_eq_true (by omega)
  clear c3
  by_cases c4 : 6 ≤ (y105.length : Int)
  rotate_left
  ·rw [if_neg c4] at H
   exact absurd H (by simp)
  rw [if_pos c4] at H
  have c4b0 := eq_true c4
  have c4b1 : decide (6 ≤ (y105.length : Int)) = true := decide_eq_true c4
  clear c4
  obtain ⟨y108, hy108⟩ : ∃ y_ : List (S38), y_ = (y105.take (6 : Int).toNat) := ⟨_, rfl⟩
  replace H : (some y108) = some r := by first | (rw [hy108]; with_reducible exact H) | (have H2_ := (Option.bind_some _ _).symm.trans H; rw [hy108]; with_reducible exact H2_) | (have H2_ := (Option.bind_some _ _).symm.trans H; with_reducible exact H2_) | with_reducible exact H | (rw [hy108]; exact H) | exact H
  have Ny108 := Aside0.mk hy108
  clear hy108
  obtain rfl := Option.some.inj H
  go_enter Try.func14, Try.ntmps14
  go_wp2_with (first | ((with_reducible refine gate_dst (N := 8) rfl ?_); refine Kd.R_lit k38 _ 38 ?hg (N := 8) ?hd (xs := ([(⟨false, 4⟩ : S38), (⟨true, 2⟩ : S38), (⟨false, 2⟩ : S38), (⟨true, 4⟩ : S38)] : List (S38))) (inner := [.bool false, .int .i64 4, .bool true, .int .i64 2, .bool false, .int .i64 2, .bool true, .int .i64 4]) (ok := fun _ => True) (okp := fun _ => True) ?hr ?hp (fun _ hk => hk) trivial (Below.refl _ _) (Nat.le_refl _) (by simp) ?_; (case hd => rfl); (case hg => rfl); (case hr => first | (go_simp; done) | (go_simp; rfl)); (case hp => exact (Reps.c2 (show Kd.M k38 _ _ _ (⟨false, 4⟩ : S38) [.bool false, .int .i64 4] from (k38_mkM _ _ _ (⟨false, 4⟩ : S38) )) (Reps.c2 (show Kd.M k38 _ _ _ (⟨true, 2⟩ : S38) [.bool true, .int .i64 2] from (k38_mkM _ _ _ (⟨true, 2⟩ : S38) )) (Reps.c2 (show Kd.M k38 _ _ _ (⟨false, 2⟩ : S38) [.bool false, .int .i64 2] from (k38_mkM _ _ _ (⟨false, 2⟩ : S38) )) (Reps.c2 (show Kd.M k38 _ _ _ (⟨true, 4⟩ : S38) [.bool true, .int .i64 4] from (k38_mkM _ _ _ (⟨true, 4⟩ : S38) )) (Reps.none _ _)))))); intro v103 w5 ho6 hb hg_ hnew_; clear hg_ hnew_; (first | rw [← Ny102.out] at ho6 | (simp only [Int.reduceToNat] at ho6; rw [← Ny102.out] at ho6)); have HO104 := Aside0.mk (Kd.R_lower ho6 (below_size (zw0 HB.out))); have n1_ := Aside0.mk (below_step (zw0 HB.out) hb); clear HB; have HB := n1_; clear n1_; clear hb ho6) | ((with_reducible refine gate_builtin (b := .append) (xs := #[.tmp 8, .tmp 9]) rfl ?_); at_builtin; refine Kd.R_append_rows k38 (w0 := w) w.heap.size rfl (.tmp 8) (.tmp 9) 22 38 (.agg #[(.bool false), (.int .i64 0)]) 16 rfl Try.underlying22 info38 rfl (by decide) (by omega) v103 y102 l0 _ _ _ (fun _ => True) (fun _ => False) rfl rfl ?aO ?aR (fun _ _ h => h) (fun _ h => h.elim) ?aF ?aB ?aS ?aL ?_; (case aR => repeat (first | exact (Kd.C_below HR0.out HB.out) | (with_reducible refine Kd.C_alloc ?_ _) | (with_reducible refine Kd.C_drewN ?_ _) | (with_reducible refine Kd.C_drew ?_))); (case aB => exact (zw0 HB.out)); (case aF => exact (fun _ _ => trivial)); (case aO => exact (by (with_reducible repeat (first | apply Kd.R_alloc | apply Kd.R_drewN | apply Kd.R_drew)); exact HO104.out)); (case aS => exact (below_size (zw0 HB.out))); (case aL => have := LMc2.out; omega); intro v106 w7 ho hb hg hat; rw [← Ny105.out] at ho; have n0_ := Aside0.mk (hb); have HO107 := Aside0.mk (ho); clear HB HO104; have HB := n0_; clear n0_; clear ho hb hg hat; obtain ⟨Ao8, co8, eo8⟩ := Kd.R_slice HO107.out; subst eo8; have q9 : (6 : Int) ≤ ((y105.length : Int) : Int) := zdec; obtain ⟨i09, hi09, _, hsz9, _⟩ := info_parts info38; have hcut9 := cut_to (P := Try.prog) 22 38 .i64 Try.underlying22 hi09 Ao8 y105.length co8 6 (by omega) q9 (Kd.R_reads' HO107.out).2.1; have hr9 := Kd.R_take (m := (6 : Int).toNat) HO107.out (by omega); have hy9 : y108.length = (6 : Int).toNat := (by rw [Ny108.out, List.length_take]; omega); rw [← Ny108.out] at hr9; rw [← hy9] at hr9 hcut9; clear hy9 hi09 hsz9 HO107; have HO110 := Aside0.mk hr9; clear hr9; replace q9 := eq_true q9))
  go_ret
  exact ⟨_, ze, by (with_reducible repeat (first | apply Kd.R_alloc | apply Kd.R_drewN | apply Kd.R_drew)); exact HO110.out, zw0 HB.out⟩
 ·rw [if_neg c2] at H
  exact absurd H (by simp)

/-! cellarref0_CopyBytes -/
def cellarref0_CopyBytes.l0 : Nat → List (S51) → List (S51) → Int → Option ((List (S51)))
 | 0, _, _, _ => none
 | k + 1, x0, x3, x4 => if x4 < (x0.length : Int) then (if 0 ≤ x4 then (if x3.length < 3518437208883 then (cellarref0_CopyBytes.l0 k x0 (x3 ++ [(⟨(rd_T51 x0 x4).f0, (rd_T51 x0 x4).f1, (rd_T51 x0 x4).f2, (rd_T51 x0 x4).f3, (rd_T51 x0 x4).f4⟩ : S51)]) (wrap64 (x4 + 1))) else (none)) else (none)) else (some x3)
def cellarref0_CopyBytes.f (k : Nat) (l0 : List (S51)) : Option ((List (S51))) := cellarref0_CopyBytes.l0 k l0 ([] : List (S51)) 0
theorem cellarref0_CopyBytes.mono_l : ∀ k, (∀ y0 y1 y2, LeO (cellarref0_CopyBytes.l0 k y0 y1 y2) (cellarref0_CopyBytes.l0 (k + 1) y0 y1 y2))
 | 0 => fun _ _ _ r h => by simp [cellarref0_CopyBytes.l0] at h
 | k + 1 => by
  have ih0 := cellarref0_CopyBytes.mono_l k
  ·intro y0 y1 y2
   unfold cellarref0_CopyBytes.l0
   repeat' first
   | (with_reducible apply ih0)
   | (with_reducible apply LeO.refl)
   | (with_reducible apply LeO.none)
   | (with_reducible refine LeO.ite ?_ ?_)
   | (with_reducible refine LeO.bind ?_ (fun _ => ?_))
theorem cellarref0_CopyBytes.mono : ∀ a0 k, LeO (cellarref0_CopyBytes.f k a0) (cellarref0_CopyBytes.f (k + 1) a0) := by
 intro a0 k
 have ih0 := cellarref0_CopyBytes.mono_l k
 unfold cellarref0_CopyBytes.f
 repeat' first
   | (with_reducible apply ih0)
   | (with_reducible apply LeO.refl)
   | (with_reducible apply LeO.none)
   | (with_reducible refine LeO.ite ?_ ?_)
   | (with_reducible refine LeO.bind ?_ (fun _ => ?_))
set_option maxHeartbeats 8000000 in
set_option maxRecDepth 100000 in
theorem cellarref0_CopyBytes.calls (k : Nat) (A0 : Option Addr) (c0 : Nat) (l0 : List (S51)) (r : List (S51)) (w : World) (hr0 : Kd.C k51 w A0 l0.length l0) (hc0 : l0.length ≤ c0) (h : cellarref0_CopyBytes.f k l0 = some r) :
  Calls Try.prog 16 #[.slice A0 l0.length c0] w fun e w' => ∃ v0_ : Value, e = .returned (v0_) ∧ Kd.R k51 51 w' w.heap.size (fun _ => True) v0_ r ∧ Below w.heap.size w w' := by
 have hu51 := Try.underlying51
 have HR0 := Aside0.mk hr0
 have HC0 := Aside0.mk hc0
 clear hr0 hc0
 have HB := Aside0.mk (Below.refl w.heap.size w)
 have H : (cellarref0_CopyBytes.l0 k l0 ([] : List (S51)) 0) = some r := h
 clear h
 have H' := Aside0.mk H
 clear H
 go_enter Try.func16, Try.ntmps16
 go_wp2
 go_loopg [3, 4] k (fun kq v3 v4 w' => ∃ (x3_1 : List (S51)) (x4_1 : Int), v4 = .int .i64 x4_1 ∧ Aside0 (cellarref0_CopyBytes.l0 kq l0 x3_1 x4_1 = some r) ∧ Aside0 (kq ≤ k) ∧ Aside0 (Kd.R k51 51 w' w.heap.size (fun _ => True) v3 x3_1) ∧ Aside0 (Below w.heap.size w w'))
 case atStart => exact ⟨(([] : List (S51))), (0), (zr), H', ⟨Nat.le_refl _⟩, ⟨by first | exact Kd.R_nil _ _ _ _ _ | exact Kd.N_nil _ _ _ _ _ | exact Kd.V_nil _ _ _ _ _ | exact Kd.Q_nil _ _ _ _ _ | exact Kd.S_nil _ _ _ _ _⟩, ⟨zw0 HB.out⟩⟩
 case round =>
  clear H'
  try clear c1
  obtain ⟨x3_1, x4_1, rfl, HA, HK1, HO_3, HB⟩ := hrel
  cases gk with
  | zero => exact absurd HA.out (by simp [cellarref0_CopyBytes.l0])
  | succ k1 =>
   have H := HA.out
   clear HA
   simp only [cellarref0_CopyBytes.l0] at H
   by_cases c2 : x4_1 < (l0.length : Int)
   ·rw [if_pos c2] at H
    have c2b0 : decide (x4_1 < (l0.length : Int)) = true := decide_eq_true c2
    clear c2
    by_cases c3 : 0 ≤ x4_1
    rotate_left
    ·rw [if_neg c3] at H
     exact absurd H (by simp)
    rw [if_pos c3] at H
    have c3b0 : decide (0 ≤ x4_1) = true := decide_eq_true c3
    clear c3
    by_cases c4 : x3_1.length < 3518437208883
    rotate_left
    ·rw [if_neg c4] at H
     exact absurd H (by simp)
    rw [if_pos c4] at H
    have LMc4 := Aside0.mk c4
    clear c4
    obtain ⟨y112, hy112⟩ : ∃ y_ : List (S51), y_ = (x3_1 ++ [(⟨(rd_T51 l0 x4_1).f0, (rd_T51 l0 x4_1).f1, (rd_T51 l0 x4_1).f2, (rd_T51 l0 x4_1).f3, (rd_T51 l0 x4_1).f4⟩ : S51)]) := ⟨_, rfl⟩
    replace H : (cellarref0_CopyBytes.l0 k1 l0 y112 (wrap64 (x4_1 + 1))) = some r := by first | (rw [hy112]; with_reducible exact H) | (have H2_ := (Option.bind_some _ _).symm.trans H; rw [hy112]; with_reducible exact H2_) | (have H2_ := (Option.bind_some _ _).symm.trans H; with_reducible exact H2_) | with_reducible exact H | (rw [hy112]; exact H) | exact H
    have Ny112 := Aside0.mk hy112
    clear hy112
    have H' := Aside0.mk H
    clear H
    have p111 : 0 ≤ (x4_1 : Int) := zdec
    have q111 : x4_1 < (l0.length : Int) := zdec
    obtain ⟨ad111, e111, hx111_0, hx111_1, hx111_2, hx111_3, hx111_4⟩ := at_T51 HR0.out x4_1 p111 q111
    cases e111
    replace hx111_0 := zh HB.out hx111_0
    replace hx111_1 := zh HB.out hx111_1
    replace hx111_2 := zh HB.out hx111_2
    replace hx111_3 := zh HB.out hx111_3
    replace hx111_4 := zh HB.out hx111_4
    replace p111 := eq_true p111
    replace q111 := eq_true q111
    go_wp2_with (first | ((with_reducible refine gate_builtin (b := .append) (xs := #[.tmp 11, .tmp 16]) rfl ?_); at_builtin; refine Kd.R_append k51 (w0 := w) w.heap.size rfl (.tmp 11) (.tmp 16) 24 51 (.agg #[(.int .i64 0), (.int .i64 0), (.int .i64 0), (.int .i64 0), (.int .i64 0)]) 40 rfl Try.underlying24 info51 rfl (by decide) (by omega) u3 x3_1 (⟨(rd_T51 l0 x4_1).f0, (rd_T51 l0 x4_1).f1, (rd_T51 l0 x4_1).f2, (rd_T51 l0 x4_1).f3, (rd_T51 l0 x4_1).f4⟩ : S51) [.int .i64 ((rd_T51 l0 x4_1).f0), .int .i64 ((rd_T51 l0 x4_1).f1), .int .i64 ((rd_T51 l0 x4_1).f2), .int .i64 ((rd_T51 l0 x4_1).f3), .int .i64 ((rd_T51 l0 x4_1).f4)] (fun _ => True) (fun _ => False) rfl rfl ?aP (fun _ hk => hk.elim) ?aF ?aO ?aB ?aS ?aL ?_; (case aP => exact k51_mkM _ _ _ (⟨(rd_T51 l0 x4_1).f0, (rd_T51 l0 x4_1).f1, (rd_T51 l0 x4_1).f2, (rd_T51 l0 x4_1).f3, (rd_T51 l0 x4_1).f4⟩ : S51)); (case aB => exact (zw0 HB.out)); (case aF => exact (fun _ _ => trivial)); (case aO => exact (by (with_reducible repeat (first | apply Kd.R_alloc | apply Kd.R_drewN | apply Kd.R_drew)); exact HO_3.out)); (case aS => exact (below_size (zw0 HB.out))); (case aL => have := LMc4.out; omega); intro v113 w5 ho hb hg hat; rw [← Ny112.out] at ho; have n0_ := Aside0.mk (hb); have HO114 := Aside0.mk (ho); clear HB HO_3; have HB := n0_; clear n0_; clear ho hb hg hat))
    go_roundg k1
    case measure => have := HK1.out; omega
    case rel => exact ⟨(y112), (wrap64 (x4_1 + 1)), (zr), H', ⟨by have := HK1.out; omega⟩, ⟨by (with_reducible repeat (first | apply Kd.R_alloc | apply Kd.R_drewN | apply Kd.R_drew)); exact HO114.out⟩, ⟨zw0 HB.out⟩⟩
   ·rw [if_neg c2] at H
    have c2b0 : decide (x4_1 < (l0.length : Int)) = false := decide_eq_false c2
    clear c2
    obtain rfl := Option.some.inj H
    go_wp2
    go_ret
    exact ⟨_, ze, by (with_reducible repeat (first | apply Kd.R_alloc | apply Kd.R_drewN | apply Kd.R_drew)); exact HO_3.out, zw0 HB.out⟩

/-! cellarref1_Abi -/
def cellarref1_Abi.f (a0_0 : Bool) (a0_1 : Int) : Option (Bool) := if a0_1 = 2 then (some true) else (some (a0_1 == 4))
set_option maxHeartbeats 8000000 in
set_option maxRecDepth 100000 in
theorem cellarref1_Abi.calls (a0_0 : Bool) (a0_1 : Int) (r : Bool) (w : World) (h : cellarref1_Abi.f a0_0 a0_1 = some r) :
  Calls Try.prog 18 #[.agg #[.bool a0_0, .int .i64 a0_1]] w fun e w' => e = .returned (.bool r) ∧ Below w.heap.size w w' := by
 have hu38 := Try.underlying38
 have HB := Aside0.mk (Below.refl w.heap.size w)
 have H : (if a0_1 = 2 then (some true) else (some (a0_1 == 4))) = some r := h
 clear h
 by_cases c2 : a0_1 = 2
 ·rw [if_pos c2] at H
  have c2b0 : (a0_1 == 2) = true := beq_iff_eq.mpr c2
  have c2b1 : (a0_1 != 2) = false := bne_eq_false_iff_eq.mpr c2
  clear c2
  obtain rfl := Option.some.inj H
  go_enter Try.func18, Try.ntmps18
  go_wp2_with (first | ((with_reducible refine gate_dst (N := 1) rfl ?_); refine zbox (N := 1) (cs := #[.bool a0_0, .int .i64 a0_1]) (t := 38) ?_; intro gb115 hg w3 hbox hb; have n0_ := Aside0.mk (below_step (zw0 HB.out) hb); have BK115 := Aside0.mk (hbox); have GW115 := Aside0.mk (zg hg (below_size (zw0 HB.out))); have GE115 := GW115; clear HB; have HB := n0_; clear n0_; clear hb hbox hg; have hcz4_0 := zc BK115.out 0; have hcz4_1 := zc BK115.out 1; have hfz4_0 := blk_frozen BK115.out 0; have hfz4_1 := blk_frozen BK115.out 1))
  go_ret
  exact ⟨ze, zw1 HB.out GE115.out⟩
 ·rw [if_neg c2] at H
  have c2b0 : (a0_1 == 2) = false := beq_eq_false_iff_ne.mpr c2
  have c2b1 : (a0_1 != 2) = true := bne_iff_ne.mpr c2
  obtain rfl := Option.some.inj H
  go_enter Try.func18, Try.ntmps18
  go_wp2_with (first | ((with_reducible refine gate_dst (N := 1) rfl ?_); refine zbox (N := 1) (cs := #[.bool a0_0, .int .i64 a0_1]) (t := 38) ?_; intro gb115 hg w5 hbox hb; have n0_ := Aside0.mk (below_step (zw0 HB.out) hb); have BK115 := Aside0.mk (hbox); have GW115 := Aside0.mk (zg hg (below_size (zw0 HB.out))); have GE115 := GW115; clear HB; have HB := n0_; clear n0_; clear hb hbox hg; have hcz6_0 := zc BK115.out 0; have hcz6_1 := zc BK115.out 1; have hfz6_0 := blk_frozen BK115.out 0; have hfz6_1 := blk_frozen BK115.out 1))
  go_ret
  exact ⟨ze, zw1 HB.out GE115.out⟩

/-! cellarref1_Width -/
mutual
def cellarref1_Width.j0 : Nat → Int → Bool → Option (Int)
 | 0, _, _ => none
 | k + 1, x3, x4 => if x4 = true then (some 8) else (if x3 = 3 then (cellarref1_Width.j1 k x3 (x3 == 3)) else (cellarref1_Width.j1 k x3 (x3 == 4)))
def cellarref1_Width.j1 : Nat → Int → Bool → Option (Int)
 | 0, _, _ => none
 | k + 1, x3, x7 => if x7 = true then (some 16) else (if x3 = 5 then (some 32) else (if x3 = 6 then (some 32) else (some 0)))
end
def cellarref1_Width.f (k : Nat) (a0 : Int) : Option (Int) := if a0 = 1 then (cellarref1_Width.j0 k a0 (a0 == 1)) else (cellarref1_Width.j0 k a0 (a0 == 2))
theorem cellarref1_Width.mono_l : ∀ k, (∀ y0 y1, LeO (cellarref1_Width.j0 k y0 y1) (cellarref1_Width.j0 (k + 1) y0 y1)) ∧ (∀ y0 y1, LeO (cellarref1_Width.j1 k y0 y1) (cellarref1_Width.j1 (k + 1) y0 y1))
 | 0 => ⟨fun _ _ r h => by simp [cellarref1_Width.j0] at h, fun _ _ r h => by simp [cellarref1_Width.j1] at h⟩
 | k + 1 => by
  obtain ⟨ih0, ih1⟩ := cellarref1_Width.mono_l k
  refine ⟨?_, ?_⟩
  ·intro y0 y1
   unfold cellarref1_Width.j0
   repeat' first
   | (with_reducible apply ih0)
   | (with_reducible apply ih1)
   | (with_reducible apply LeO.refl)
   | (with_reducible apply LeO.none)
   | (with_reducible refine LeO.ite ?_ ?_)
   | (with_reducible refine LeO.bind ?_ (fun _ => ?_))
  ·intro y0 y1
   unfold cellarref1_Width.j1
   repeat' first
   | (with_reducible apply ih0)
   | (with_reducible apply ih1)
   | (with_reducible apply LeO.refl)
   | (with_reducible apply LeO.none)
   | (with_reducible refine LeO.ite ?_ ?_)
   | (with_reducible refine LeO.bind ?_ (fun _ => ?_))
theorem cellarref1_Width.mono : ∀ a0 k, LeO (cellarref1_Width.f k a0) (cellarref1_Width.f (k + 1) a0) := by
 intro a0 k
 obtain ⟨ih0, ih1⟩ := cellarref1_Width.mono_l k
 unfold cellarref1_Width.f
 repeat' first
   | (with_reducible apply ih0)
   | (with_reducible apply ih1)
   | (with_reducible apply LeO.refl)
   | (with_reducible apply LeO.none)
   | (with_reducible refine LeO.ite ?_ ?_)
   | (with_reducible refine LeO.bind ?_ (fun _ => ?_))
set_option maxHeartbeats 8000000 in
set_option maxRecDepth 100000 in
theorem cellarref1_Width.calls (k : Nat) (a0 : Int) (r : Int) (w : World) (h : cellarref1_Width.f k a0 = some r) :
  Calls Try.prog 42 #[.int .i64 a0] w fun e w' => e = .returned (.int .i64 r) ∧ Drawn0 w w' := by
 have H : (if a0 = 1 then (cellarref1_Width.j0 k a0 (a0 == 1)) else (cellarref1_Width.j0 k a0 (a0 == 2))) = some r := h
 clear h
 have HC2 := Aside0.mk H
 clear H
 go_enter Try.func42, Try.ntmps42
 go_upto_if 4 with (fail)
 go_cut [4] (fun v4 wc => ∃ (kq : Nat) (x4_1 : Bool), v4 = .bool x4_1 ∧ Aside0 (cellarref1_Width.j0 kq a0 x4_1 = some r) ∧ Aside0 (kq ≤ k) ∧ Drawn0 w wc)
 case first =>
  have H := HC2.out
  clear HC2
  by_cases c3 : a0 = 1
  rotate_left
  ·rw [if_neg c3] at H
   have c3b0 : (a0 == 1) = false := beq_eq_false_iff_ne.mpr c3
   have c3b1 : (a0 != 1) = true := bne_iff_ne.mpr c3
   (first | rw [c3b0] | (simp only [i64_w, i32_w]; rw [c3b0]) | skip)
   have H' := Aside0.mk H
   clear H
   go_wp2
   go_meet
   case rel => exact ⟨_, ((a0 == 2)), (zr), H', ⟨by first | omega | exact Nat.le_refl _⟩, by repeat (first | exact Drawn0.refl _ | apply Drawn0.step)⟩
  rw [if_pos c3] at H
  have c3b0 : (a0 == 1) = true := beq_iff_eq.mpr c3
  have c3b1 : (a0 != 1) = false := bne_eq_false_iff_eq.mpr c3
  clear c3
  (first | rw [c3b0] | (simp only [i64_w, i32_w]; rw [c3b0]) | skip)
  have H' := Aside0.mk H
  clear H
  go_wp2
  go_meet
  case rel => exact ⟨_, ((a0 == 1)), (zr), H', ⟨by first | omega | exact Nat.le_refl _⟩, by repeat (first | exact Drawn0.refl _ | apply Drawn0.step)⟩
 case rest =>
  clear HC2
  try clear p2; try clear c3; try clear c3b0; try clear c3b1
  obtain ⟨kq, x4_1, rfl, HA, HJ1, ⟨mc1, rfl⟩⟩ := hcut
  cases kq with
  | zero => exact absurd HA.out (by simp [cellarref1_Width.j0])
  | succ kj1 =>
   have H := HA.out
   clear HA
   simp only [cellarref1_Width.j0] at H
   by_cases c4 : x4_1 = true
   ·subst c4
    have H1 : (some 8) = some r := by rw [if_pos rfl] at H; exact H
    clear H
    have H := H1
    clear H1
    obtain rfl := Option.some.inj H
    go_wp2
    go_ret
    exact ⟨zr, by repeat (first | exact Drawn0.refl _ | apply Drawn0.step)⟩
   ·replace c4 := Bool.eq_false_iff.mpr c4
    subst c4
    have H1 : (if a0 = 3 then (cellarref1_Width.j1 kj1 a0 (a0 == 3)) else (cellarref1_Width.j1 kj1 a0 (a0 == 4))) = some r := by rw [if_neg (show ¬ (false = true) by decide)] at H; exact H
    clear H
    have H := H1
    clear H1
    have HC5 := Aside0.mk H
    clear H
    go_upto_if 7 with (fail)
    go_cut [7] (fun v7 wc => ∃ (kq : Nat) (x7_4 : Bool), v7 = .bool x7_4 ∧ Aside0 (cellarref1_Width.j1 kq a0 x7_4 = some r) ∧ Aside0 (kq ≤ kj1) ∧ Drawn0 w wc)
    case first =>
     have H := HC5.out
     clear HC5
     by_cases c6 : a0 = 3
     rotate_left
     ·rw [if_neg c6] at H
      have c6b0 : (a0 == 3) = false := beq_eq_false_iff_ne.mpr c6
      have c6b1 : (a0 != 3) = true := bne_iff_ne.mpr c6
      (first | rw [c6b0] | (simp only [i64_w, i32_w]; rw [c6b0]) | skip)
      have H' := Aside0.mk H
      clear H
      go_wp2
      go_meet
      case rel => exact ⟨_, ((a0 == 4)), (zr), H', ⟨by have := HJ1.out; first | omega | exact Nat.le_refl _⟩, by repeat (first | exact Drawn0.refl _ | apply Drawn0.step)⟩
     rw [if_pos c6] at H
     have c6b0 : (a0 == 3) = true := beq_iff_eq.mpr c6
     have c6b1 : (a0 != 3) = false := bne_eq_false_iff_eq.mpr c6
     clear c6
     (first | rw [c6b0] | (simp only [i64_w, i32_w]; rw [c6b0]) | skip)
     have H' := Aside0.mk H
     clear H
     go_wp2
     go_meet
     case rel => exact ⟨_, ((a0 == 3)), (zr), H', ⟨by have := HJ1.out; first | omega | exact Nat.le_refl _⟩, by repeat (first | exact Drawn0.refl _ | apply Drawn0.step)⟩
    case rest =>
     clear HC5
     try clear c1; try clear p2; try clear c3; try clear c3b0; try clear c3b1; try clear c4; try clear c6; try clear c6b0; try clear c6b1; try clear p2
     obtain ⟨kq, x7_4, rfl, HA, HJ4, ⟨mc4, rfl⟩⟩ := hcut
     cases kq with
     | zero => exact absurd HA.out (by simp [cellarref1_Width.j1])
     | succ kj4 =>
      have H := HA.out
      clear HA
      simp only [cellarref1_Width.j1] at H
      by_cases c7 : x7_4 = true
      ·subst c7
       have H1 : (some 16) = some r := by rw [if_pos rfl] at H; exact H
       clear H
       have H := H1
       clear H1
       obtain rfl := Option.some.inj H
       go_wp2
       go_ret
       exact ⟨zr, by repeat (first | exact Drawn0.refl _ | apply Drawn0.step)⟩
      ·replace c7 := Bool.eq_false_iff.mpr c7
       subst c7
       have H1 : (if a0 = 5 then (some 32) else (if a0 = 6 then (some 32) else (some 0))) = some r := by rw [if_neg (show ¬ (false = true) by decide)] at H; exact H
       clear H
       have H := H1
       clear H1
       by_cases c8 : a0 = 5
       ·rw [if_pos c8] at H
        have c8b0 : (a0 == 5) = true := beq_iff_eq.mpr c8
        have c8b1 : (a0 != 5) = false := bne_eq_false_iff_eq.mpr c8
        clear c8
        obtain rfl := Option.some.inj H
        go_wp2
        go_ret
        exact ⟨zr, by repeat (first | exact Drawn0.refl _ | apply Drawn0.step)⟩
       ·rw [if_neg c8] at H
        have c8b0 : (a0 == 5) = false := beq_eq_false_iff_ne.mpr c8
        have c8b1 : (a0 != 5) = true := bne_iff_ne.mpr c8
        by_cases c9 : a0 = 6
        ·rw [if_pos c9] at H
         have c9b0 : (a0 == 6) = true := beq_iff_eq.mpr c9
         have c9b1 : (a0 != 6) = false := bne_eq_false_iff_eq.mpr c9
         clear c9
         obtain rfl := Option.some.inj H
         go_wp2
         go_ret
         exact ⟨zr, by repeat (first | exact Drawn0.refl _ | apply Drawn0.step)⟩
        ·rw [if_neg c9] at H
         have c9b0 : (a0 == 6) = false := beq_eq_false_iff_ne.mpr c9
         have c9b1 : (a0 != 6) = true := bne_iff_ne.mpr c9
         obtain rfl := Option.some.inj H
         go_wp2
         go_ret
         exact ⟨zr, by repeat (first | exact Drawn0.refl _ | apply Drawn0.step)⟩

/-! cellarref1_Size -/
def cellarref1_Size.f (k : Nat) (a0_0 : Bool) (a0_1 : Int) (a1 : Int) : Option (Int) := if a1 = 7 then (some a0_1) else ((cellarref1_Width.f k a1).bind fun t117 => (some (wrap64 (Int.tdiv t117 8))))
theorem cellarref1_Size.mono : ∀ a0 a1 a2 k, LeO (cellarref1_Size.f k a0 a1 a2) (cellarref1_Size.f (k + 1) a0 a1 a2) := by
 intro a0 a1 a2 k
 unfold cellarref1_Size.f
 repeat' first
   | (with_reducible apply cellarref1_Width.mono)
   | (with_reducible apply LeO.refl)
   | (with_reducible apply LeO.none)
   | (with_reducible refine LeO.ite ?_ ?_)
   | (with_reducible refine LeO.bind ?_ (fun _ => ?_))
set_option maxHeartbeats 8000000 in
set_option maxRecDepth 100000 in
theorem cellarref1_Size.calls (k : Nat) (a0_0 : Bool) (a0_1 : Int) (a1 : Int) (r : Int) (w : World) (h : cellarref1_Size.f k a0_0 a0_1 a1 = some r) :
  Calls Try.prog 20 #[.agg #[.bool a0_0, .int .i64 a0_1], .int .i64 a1] w fun e w' => e = .returned (.int .i64 r) ∧ Below w.heap.size w w' := by
 have hu38 := Try.underlying38
 have HB := Aside0.mk (Below.refl w.heap.size w)
 have H : (if a1 = 7 then (some a0_1) else ((cellarref1_Width.f k a1).bind fun t117 => (some (wrap64 (Int.tdiv t117 8))))) = some r := h
 clear h
 by_cases c3 : a1 = 7
 ·rw [if_pos c3] at H
  have c3b0 : (a1 == 7) = true := beq_iff_eq.mpr c3
  have c3b1 : (a1 != 7) = false := bne_eq_false_iff_eq.mpr c3
  clear c3
  obtain rfl := Option.some.inj H
  go_enter Try.func20, Try.ntmps20
  go_wp2_with (first | ((with_reducible refine gate_dst (N := 2) rfl ?_); refine zbox (N := 2) (cs := #[.bool a0_0, .int .i64 a0_1]) (t := 38) ?_; intro gb116 hg w4 hbox hb; have n0_ := Aside0.mk (below_step (zw0 HB.out) hb); have BK116 := Aside0.mk (hbox); have GW116 := Aside0.mk (zg hg (below_size (zw0 HB.out))); have GE116 := GW116; clear HB; have HB := n0_; clear n0_; clear hb hbox hg; have hcz5_0 := zc BK116.out 0; have hcz5_1 := zc BK116.out 1; have hfz5_0 := blk_frozen BK116.out 0; have hfz5_1 := blk_frozen BK116.out 1))
  go_ret
  exact ⟨ze, zw1 HB.out GE116.out⟩
 ·rw [if_neg c3] at H
  have c3b0 : (a1 == 7) = false := beq_eq_false_iff_ne.mpr c3
  have c3b1 : (a1 != 7) = true := bne_iff_ne.mpr c3
  replace H := Option.bind_eq_some_iff.mp H
  obtain ⟨t117, A60, H⟩ := H
  replace H : (some (wrap64 (Int.tdiv t117 8))) = some r := H
  have A6 := Aside0.mk A60
  clear A60
  obtain rfl := Option.some.inj H
  go_enter Try.func20, Try.ntmps20
  go_wp2_with (first | ((with_reducible refine gate_dst (N := 2) rfl ?_); refine zbox (N := 2) (cs := #[.bool a0_0, .int .i64 a0_1]) (t := 38) ?_; intro gb116 hg w7 hbox hb; have n0_ := Aside0.mk (below_step (zw0 HB.out) hb); have BK116 := Aside0.mk (hbox); have GW116 := Aside0.mk (zg hg (below_size (zw0 HB.out))); have GE116 := GW116; clear HB; have HB := n0_; clear n0_; clear hb hbox hg) | ((with_reducible refine gate_callee (f := 42) rfl ?_); refine zgo (some 10) Try.func42 #[.int .i64 a1] ?_; (with_reducible refine (cellarref1_Width.calls k a1 t117 _ A6.out).mono ?_); rintro e w' ⟨rfl, ⟨nd, rfl⟩⟩; refine ⟨_, rfl, ?_⟩))
  go_ret
  exact ⟨ze, zw1 HB.out GE116.out⟩

/-! cellarref0_Num -/
def cellarref0_Num.f (a0 : Int) (a1 : Int) : Option (Bool) := if a0 ≥ 0 then (some (decide (a0 ≤ a1))) else (some false)
set_option maxHeartbeats 8000000 in
set_option maxRecDepth 100000 in
theorem cellarref0_Num.calls (a0 : Int) (a1 : Int) (r : Bool) (w : World) (h : cellarref0_Num.f a0 a1 = some r) :
  Calls Try.prog 46 #[.int .i64 a0, .int .i64 a1] w fun e w' => e = .returned (.bool r) ∧ Drawn0 w w' := by
 have H : (if a0 ≥ 0 then (some (decide (a0 ≤ a1))) else (some false)) = some r := h
 clear h
 by_cases c3 : a0 ≥ 0
 ·rw [if_pos c3] at H
  have c3b0 : decide (0 ≤ a0) = true := decide_eq_true c3
  clear c3
  obtain rfl := Option.some.inj H
  go_enter Try.func46, Try.ntmps46
  go_wp2
  go_ret
  exact ⟨zr, by repeat (first | exact Drawn0.refl _ | apply Drawn0.step)⟩
 ·rw [if_neg c3] at H
  have c3b0 : decide (0 ≤ a0) = false := decide_eq_false c3
  clear c3
  obtain rfl := Option.some.inj H
  go_enter Try.func46, Try.ntmps46
  go_wp2
  go_ret
  exact ⟨zr, by repeat (first | exact Drawn0.refl _ | apply Drawn0.step)⟩

/-! cellarref1_Number -/
def cellarref1_Number.f (a0 : Int) (a1 : Int) : Option (Bool) := if 0 ≤ a1 then ((cellarref0_Num.f a0 (wrap64 ((shl .i64 1 a1) - 1))).bind fun t118 => (some t118)) else (none)
set_option maxHeartbeats 8000000 in
set_option maxRecDepth 100000 in
theorem cellarref1_Number.calls (a0 : Int) (a1 : Int) (r : Bool) (w : World) (h : cellarref1_Number.f a0 a1 = some r) :
  Calls Try.prog 47 #[.int .i64 a0, .int .i64 a1] w fun e w' => e = .returned (.bool r) ∧ Drawn0 w w' := by
 have H : (if 0 ≤ a1 then ((cellarref0_Num.f a0 (wrap64 ((shl .i64 1 a1) - 1))).bind fun t118 => (some t118)) else (none)) = some r := h
 clear h
 by_cases c3 : 0 ≤ a1
 ·rw [if_pos c3] at H
  have c3b0 := eq_true c3
  have c3b1 : decide (0 ≤ a1) = true := decide_eq_true c3
  clear c3
  obtain ⟨ji4, hji4⟩ : ∃ j_ : Int, (shl .i64 1 a1) = j_ := ⟨_, rfl⟩
  replace H : ((cellarref0_Num.f a0 (wrap64 ((ji4) - 1))).bind fun t118 => (some t118)) = some r := by first | (rw [hji4] at H; exact H) | (simp only [hji4] at H ⊢; exact H)
  have hji4_ : (IntKind.i64.wrap (1 * 2 ^ min a1.toNat 64)) = ji4 := hji4
  have hji4z : a1 ≤ 64 → (IntKind.i64.wrap (1 * 2 ^ a1.toNat)) = ji4 := shl_small hji4
  have hji4u : (IntKind.i64.wrap (2 ^ min a1.toNat 64)) = ji4 := by have h_ := hji4_; rw [Int.one_mul] at h_; exact h_
  have hji4v : a1 ≤ 64 → (IntKind.i64.wrap (2 ^ a1.toNat)) = ji4 := fun hle_ => by have h_ := hji4z hle_; rw [Int.one_mul] at h_; exact h_
  have hji4y : (wrap64 (1 * 2 ^ min a1.toNat 64)) = ji4 := (i64_w _).symm.trans hji4_
  have hji4x : a1 ≤ 64 → (wrap64 (1 * 2 ^ a1.toNat)) = ji4 := fun h_ => (i64_w _).symm.trans (hji4z h_)
  replace H := Option.bind_eq_some_iff.mp H
  obtain ⟨t118, A50, H⟩ := H
  replace H : (some t118) = some r := H
  have A5 := Aside0.mk A50
  clear A50
  obtain rfl := Option.some.inj H
  go_enter Try.func47, Try.ntmps47
  go_wp2_with (first | ((with_reducible refine gate_callee (f := 46) rfl ?_); refine goesL_ (some 9) rfl rfl Try.func46 (by kernel_rfl) rfl #[.int .i64 a0, .int .i64 (wrap64 ((ji4) - 1))] rfl (by (try simp only [List.map_toArray, List.map_cons, List.map_nil]); first | done | (simp only [hji4]; rfl) | rfl | (simp only [List.length_drop, List.length_take]; rfl)) ?_; (with_reducible refine (cellarref0_Num.calls a0 (wrap64 ((ji4) - 1)) t118 _ A5.out).mono ?_); rintro e w' ⟨rfl, ⟨nd, rfl⟩⟩; refine ⟨_, rfl, ?_⟩))
  go_ret
  exact ⟨by first | rfl | (simp; done) | (simp only [← hji4] <;> (first | rfl | simp)) | (simp [*]; done), by repeat (first | exact Drawn0.refl _ | apply Drawn0.step)⟩
 ·rw [if_neg c3] at H
  exact absurd H (by simp)

/-! cellarref7_Scalar -/
def cellarref7_Scalar.f (k : Nat) (a0 : Int) (a1_0 : Bool) (a1_1 : Int) (a1_2 : Int) (a1_3 : Int) : Option (Bool) := if a0 = 7 then (if a1_0 = true then (if a1_1 = 0 then ((cellarref0_Num.f a1_2 32).bind fun t120 => (if t120 = true then ((cellarref0_Num.f a1_3 32).bind fun t121 => (if t121 = true then (if a1_2 > 0 then (some true) else (some (a1_3 == 0))) else (some false))) else (some false))) else (some false)) else (some false)) else ((cellarref1_Width.f k a0).bind fun t122 => (if t122 > 0 then (if a1_0 = true then (some false) else (if a1_2 = 0 then (if a1_3 = 0 then ((cellarref1_Width.f k a0).bind fun t123 => ((cellarref1_Number.f a1_1 t123).bind fun t124 => (some t124))) else (some false)) else (some false))) else (some false)))
theorem cellarref7_Scalar.mono : ∀ a0 a1 a2 a3 a4 k, LeO (cellarref7_Scalar.f k a0 a1 a2 a3 a4) (cellarref7_Scalar.f (k + 1) a0 a1 a2 a3 a4) := by
 intro a0 a1 a2 a3 a4 k
 unfold cellarref7_Scalar.f
 repeat' first
   | (with_reducible apply cellarref1_Width.mono)
   | (with_reducible apply LeO.refl)
   | (with_reducible apply LeO.none)
   | (with_reducible refine LeO.ite ?_ ?_)
   | (with_reducible refine LeO.bind ?_ (fun _ => ?_))
set_option maxHeartbeats 8000000 in
set_option maxRecDepth 100000 in
theorem cellarref7_Scalar.calls (k : Nat) (a0 : Int) (a1_0 : Bool) (a1_1 : Int) (a1_2 : Int) (a1_3 : Int) (r : Bool) (w : World) (h : cellarref7_Scalar.f k a0 a1_0 a1_1 a1_2 a1_3 = some r) :
  Calls Try.prog 29 #[.int .i64 a0, .agg #[.bool a1_0, .int .i64 a1_1, .int .i64 a1_2, .int .i64 a1_3]] w fun e w' => e = .returned (.bool r) ∧ Below w.heap.size w w' := by
 have hu33 := Try.underlying33
 have HB := Aside0.mk (Below.refl w.heap.size w)
 have H : (if a0 = 7 then (if a1_0 = true then (if a1_1 = 0 then ((cellarref0_Num.f a1_2 32).bind fun t120 => (if t120 = true then ((cellarref0_Num.f a1_3 32).bind fun t121 => (if t121 = true then (if a1_2 > 0 then (some true) else (some (a1_3 == 0))) else (some false))) else (some false))) else (some false)) else (some false)) else ((cellarref1_Width.f k a0).bind fun t122 => (if t122 > 0 then (if a1_0 = true then (some false) else (if a1_2 = 0 then (if a1_3 = 0 then ((cellarref1_Width.f k a0).bind fun t123 => ((cellarref1_Number.f a1_1 t123).bind fun t124 => (some t124))) else (some false)) else (some false))) else (some false)))) = some r := h
 clear h
 by_cases c3 : a0 = 7
 ·rw [if_pos c3] at H
  have c3b0 : (a0 == 7) = true := beq_iff_eq.mpr c3
  have c3b1 : (a0 != 7) = false := bne_eq_false_iff_eq.mpr c3
  clear c3
  by_cases c4 : a1_0 = true
  rotate_left
  ·replace c4 := Bool.eq_false_iff.mpr c4
   subst c4
   have H1 : (some false) = some r := by rw [if_neg (show ¬ (false = true) by decide)] at H; exact H
   clear H
   have H := H1
   clear H1
   obtain rfl := Option.some.inj H
   go_enter Try.func29, Try.ntmps29
   go_wp2_with (first | ((with_reducible refine gate_dst (N := 3) rfl ?_); refine zbox (N := 3) (cs := #[.bool false, .int .i64 a1_1, .int .i64 a1_2, .int .i64 a1_3]) (t := 33) ?_; intro gb119 hg w21 hbox hb; have n0_ := Aside0.mk (below_step (zw0 HB.out) hb); have BK119 := Aside0.mk (hbox); have GW119 := Aside0.mk (zg hg (below_size (zw0 HB.out))); have GE119 := GW119; clear HB; have HB := n0_; clear n0_; clear hb hbox hg; have hcz22_0 := zc BK119.out 0; have hcz22_1 := zc BK119.out 1; have hcz22_2 := zc BK119.out 2; have hcz22_3 := zc BK119.out 3; have hfz22_0 := blk_frozen BK119.out 0; have hfz22_1 := blk_frozen BK119.out 1; have hfz22_2 := blk_frozen BK119.out 2; have hfz22_3 := blk_frozen BK119.out 3))
   repeat (go_quiet (first | ((with_reducible refine gate_dst (N := 3) rfl ?_); refine zbox (N := 3) (cs := #[.bool false, .int .i64 a1_1, .int .i64 a1_2, .int .i64 a1_3]) (t := 33) ?_; intro gb119 hg w21 hbox hb; have n0_ := Aside0.mk (below_step (zw0 HB.out) hb); have BK119 := Aside0.mk (hbox); have GW119 := Aside0.mk (zg hg (below_size (zw0 HB.out))); have GE119 := GW119; clear HB; have HB := n0_; clear n0_; clear hb hbox hg; have hcz22_0 := zc BK119.out 0; have hcz22_1 := zc BK119.out 1; have hcz22_2 := zc BK119.out 2; have hcz22_3 := zc BK119.out 3; have hfz22_0 := blk_frozen BK119.out 0; have hfz22_1 := blk_frozen BK119.out 1; have hfz22_2 := blk_frozen BK119.out 2; have hfz22_3 := blk_frozen BK119.out 3)); try go_wp2_with (first | ((with_reducible refine gate_dst (N := 3) rfl ?_); refine zbox (N := 3) (cs := #[.bool false, .int .i64 a1_1, .int .i64 a1_2, .int .i64 a1_3]) (t := 33) ?_; intro gb119 hg w21 hbox hb; have n0_ := Aside0.mk (below_step (zw0 HB.out) hb); have BK119 := Aside0.mk (hbox); have GW119 := Aside0.mk (zg hg (below_size (zw0 HB.out))); have GE119 := GW119; clear HB; have HB := n0_; clear n0_; clear hb hbox hg; have hcz22_0 := zc BK119.out 0; have hcz22_1 := zc BK119.out 1; have hcz22_2 := zc BK119.out 2; have hcz22_3 := zc BK119.out 3; have hfz22_0 := blk_frozen BK119.out 0; have hfz22_1 := blk_frozen BK119.out 1; have hfz22_2 := blk_frozen BK119.out 2; have hfz22_3 := blk_frozen BK119.out 3)))
   go_ret
   exact ⟨ze, zw1 HB.out GE119.out⟩
  subst c4
  have H1 : (if a1_1 = 0 then ((cellarref0_Num.f a1_2 32).bind fun t120 => (if t120 = true then ((cellarref0_Num.f a1_3 32).bind fun t121 => (if t121 = true then (if a1_2 > 0 then (some true) else (some (a1_3 == 0))) else (some false))) else (some false))) else (some false)) = some r := by rw [if_pos rfl] at H; exact H
  clear H
  have H := H1
  clear H1
  by_cases c5 : a1_1 = 0
  rotate_left
  ·rw [if_neg c5] at H
   have c5b0 : (a1_1 == 0) = false := beq_eq_false_iff_ne.mpr c5
   have c5b1 : (a1_1 != 0) = true := bne_iff_ne.mpr c5
   obtain rfl := Option.some.inj H
   go_enter Try.func29, Try.ntmps29
   go_wp2_with (first | ((with_reducible refine gate_dst (N := 3) rfl ?_); refine zbox (N := 3) (cs := #[.bool true, .int .i64 a1_1, .int .i64 a1_2, .int .i64 a1_3]) (t := 33) ?_; intro gb119 hg w19 hbox hb; have n0_ := Aside0.mk (below_step (zw0 HB.out) hb); have BK119 := Aside0.mk (hbox); have GW119 := Aside0.mk (zg hg (below_size (zw0 HB.out))); have GE119 := GW119; clear HB; have HB := n0_; clear n0_; clear hb hbox hg; have hcz20_0 := zc BK119.out 0; have hcz20_1 := zc BK119.out 1; have hcz20_2 := zc BK119.out 2; have hcz20_3 := zc BK119.out 3; have hfz20_0 := blk_frozen BK119.out 0; have hfz20_1 := blk_frozen BK119.out 1; have hfz20_2 := blk_frozen BK119.out 2; have hfz20_3 := blk_frozen BK119.out 3))
   repeat (go_quiet (first | ((with_reducible refine gate_dst (N := 3) rfl ?_); refine zbox (N := 3) (cs := #[.bool true, .int .i64 a1_1, .int .i64 a1_2, .int .i64 a1_3]) (t := 33) ?_; intro gb119 hg w19 hbox hb; have n0_ := Aside0.mk (below_step (zw0 HB.out) hb); have BK119 := Aside0.mk (hbox); have GW119 := Aside0.mk (zg hg (below_size (zw0 HB.out))); have GE119 := GW119; clear HB; have HB := n0_; clear n0_; clear hb hbox hg; have hcz20_0 := zc BK119.out 0; have hcz20_1 := zc BK119.out 1; have hcz20_2 := zc BK119.out 2; have hcz20_3 := zc BK119.out 3; have hfz20_0 := blk_frozen BK119.out 0; have hfz20_1 := blk_frozen BK119.out 1; have hfz20_2 := blk_frozen BK119.out 2; have hfz20_3 := blk_frozen BK119.out 3)); try go_wp2_with (first | ((with_reducible refine gate_dst (N := 3) rfl ?_); refine zbox (N := 3) (cs := #[.bool true, .int .i64 a1_1, .int .i64 a1_2, .int .i64 a1_3]) (t := 33) ?_; intro gb119 hg w19 hbox hb; have n0_ := Aside0.mk (below_step (zw0 HB.out) hb); have BK119 := Aside0.mk (hbox); have GW119 := Aside0.mk (zg hg (below_size (zw0 HB.out))); have GE119 := GW119; clear HB; have HB := n0_; clear n0_; clear hb hbox hg; have hcz20_0 := zc BK119.out 0; have hcz20_1 := zc BK119.out 1; have hcz20_2 := zc BK119.out 2; have hcz20_3 := zc BK119.out 3; have hfz20_0 := blk_frozen BK119.out 0; have hfz20_1 := blk_frozen BK119.out 1; have hfz20_2 := blk_frozen BK119.out 2; have hfz20_3 := blk_frozen BK119.out 3)))
   go_ret
   exact ⟨ze, zw1 HB.out GE119.out⟩
  rw [if_pos c5] at H
  have c5b0 : (a1_1 == 0) = true := beq_iff_eq.mpr c5
  have c5b1 : (a1_1 != 0) = false := bne_eq_false_iff_eq.mpr c5
  clear c5
  replace H := Option.bind_eq_some_iff.mp H
  obtain ⟨t120, A60, H⟩ := H
  replace H : (if t120 = true then ((cellarref0_Num.f a1_3 32).bind fun t121 => (if t121 = true then (if a1_2 > 0 then (some true) else (some (a1_3 == 0))) else (some false))) else (some false)) = some r := H
  have A6 := Aside0.mk A60
  clear A60
  by_cases c7 : t120 = true
  rotate_left
  ·replace c7 := Bool.eq_false_iff.mpr c7
   subst c7
   have H1 : (some false) = some r := by rw [if_neg (show ¬ (false = true) by decide)] at H; exact H
   clear H
   have H := H1
   clear H1
   obtain rfl := Option.some.inj H
   go_enter Try.func29, Try.ntmps29
   go_wp2_with (first | ((with_reducible refine gate_dst (N := 3) rfl ?_); refine zbox (N := 3) (cs := #[.bool true, .int .i64 a1_1, .int .i64 a1_2, .int .i64 a1_3]) (t := 33) ?_; intro gb119 hg w17 hbox hb; have n0_ := Aside0.mk (below_step (zw0 HB.out) hb); have BK119 := Aside0.mk (hbox); have GW119 := Aside0.mk (zg hg (below_size (zw0 HB.out))); have GE119 := GW119; clear HB; have HB := n0_; clear n0_; clear hb hbox hg; have hcz18_0 := zc BK119.out 0; have hcz18_1 := zc BK119.out 1; have hcz18_2 := zc BK119.out 2; have hcz18_3 := zc BK119.out 3; have hfz18_0 := blk_frozen BK119.out 0; have hfz18_1 := blk_frozen BK119.out 1; have hfz18_2 := blk_frozen BK119.out 2; have hfz18_3 := blk_frozen BK119.out 3) | (go_at_call 46; (with_reducible refine (cellarref0_Num.calls a1_2 32 false _ A6.out).mono ?_); rintro e w' ⟨rfl, ⟨nd, rfl⟩⟩; (try first | exact ⟨rfl, _, World.drewN_drewN _ _ _⟩ | exact ⟨rfl, _, Eq.trans (World.drewN_drewN _ _ _) (congrArg (World.drewN _) (Nat.add_assoc _ _ _))⟩)))
   repeat (go_quiet (first | ((with_reducible refine gate_dst (N := 3) rfl ?_); refine zbox (N := 3) (cs := #[.bool true, .int .i64 a1_1, .int .i64 a1_2, .int .i64 a1_3]) (t := 33) ?_; intro gb119 hg w17 hbox hb; have n0_ := Aside0.mk (below_step (zw0 HB.out) hb); have BK119 := Aside0.mk (hbox); have GW119 := Aside0.mk (zg hg (below_size (zw0 HB.out))); have GE119 := GW119; clear HB; have HB := n0_; clear n0_; clear hb hbox hg; have hcz18_0 := zc BK119.out 0; have hcz18_1 := zc BK119.out 1; have hcz18_2 := zc BK119.out 2; have hcz18_3 := zc BK119.out 3; have hfz18_0 := blk_frozen BK119.out 0; have hfz18_1 := blk_frozen BK119.out 1; have hfz18_2 := blk_frozen BK119.out 2; have hfz18_3 := blk_frozen BK119.out 3) | (go_at_call 46; (with_reducible refine (cellarref0_Num.calls a1_2 32 false _ A6.out).mono ?_); rintro e w' ⟨rfl, ⟨nd, rfl⟩⟩; (try first | exact ⟨rfl, _, World.drewN_drewN _ _ _⟩ | exact ⟨rfl, _, Eq.trans (World.drewN_drewN _ _ _) (congrArg (World.drewN _) (Nat.add_assoc _ _ _))⟩))); try go_wp2_with (first | ((with_reducible refine gate_dst (N := 3) rfl ?_); refine zbox (N := 3) (cs := #[.bool true, .int .i64 a1_1, .int .i64 a1_2, .int .i64 a1_3]) (t := 33) ?_; intro gb119 hg w17 hbox hb; have n0_ := Aside0.mk (below_step (zw0 HB.out) hb); have BK119 := Aside0.mk (hbox); have GW119 := Aside0.mk (zg hg (below_size (zw0 HB.out))); have GE119 := GW119; clear HB; have HB := n0_; clear n0_; clear hb hbox hg; have hcz18_0 := zc BK119.out 0; have hcz18_1 := zc BK119.out 1; have hcz18_2 := zc BK119.out 2; have hcz18_3 := zc BK119.out 3; have hfz18_0 := blk_frozen BK119.out 0; have hfz18_1 := blk_frozen BK119.out 1; have hfz18_2 := blk_frozen BK119.out 2; have hfz18_3 := blk_frozen BK119.out 3) | (go_at_call 46; (with_reducible refine (cellarref0_Num.calls a1_2 32 false _ A6.out).mono ?_); rintro e w' ⟨rfl, ⟨nd, rfl⟩⟩; (try first | exact ⟨rfl, _, World.drewN_drewN _ _ _⟩ | exact ⟨rfl, _, Eq.trans (World.drewN_drewN _ _ _) (congrArg (World.drewN _) (Nat.add_assoc _ _ _))⟩))))
   go_ret
   exact ⟨ze, zw1 HB.out GE119.out⟩
  subst c7
  have H1 : ((cellarref0_Num.f a1_3 32).bind fun t121 => (if t121 = true then (if a1_2 > 0 then (some true) else (some (a1_3 == 0))) else (some false))) = some r := by rw [if_pos rfl] at H; exact H
  clear H
  have H := H1
  clear H1
  replace H := Option.bind_eq_some_iff.mp H
  obtain ⟨t121, A80, H⟩ := H
  replace H : (if t121 = true then (if a1_2 > 0 then (some true) else (some (a1_3 == 0))) else (some false)) = some r := H
  have A8 := Aside0.mk A80
  clear A80
  by_cases c9 : t121 = true
  rotate_left
  ·replace c9 := Bool.eq_false_iff.mpr c9
   subst c9
   have H1 : (some false) = some r := by rw [if_neg (show ¬ (false = true) by decide)] at H; exact H
   clear H
   have H := H1
   clear H1
   obtain rfl := Option.some.inj H
   go_enter Try.func29, Try.ntmps29
   go_wp2_with (first | ((with_reducible refine gate_dst (N := 3) rfl ?_); refine zbox (N := 3) (cs := #[.bool true, .int .i64 a1_1, .int .i64 a1_2, .int .i64 a1_3]) (t := 33) ?_; intro gb119 hg w15 hbox hb; have n0_ := Aside0.mk (below_step (zw0 HB.out) hb); have BK119 := Aside0.mk (hbox); have GW119 := Aside0.mk (zg hg (below_size (zw0 HB.out))); have GE119 := GW119; clear HB; have HB := n0_; clear n0_; clear hb hbox hg; have hcz16_0 := zc BK119.out 0; have hcz16_1 := zc BK119.out 1; have hcz16_2 := zc BK119.out 2; have hcz16_3 := zc BK119.out 3; have hfz16_0 := blk_frozen BK119.out 0; have hfz16_1 := blk_frozen BK119.out 1; have hfz16_2 := blk_frozen BK119.out 2; have hfz16_3 := blk_frozen BK119.out 3) | (go_at_call 46; (with_reducible refine (cellarref0_Num.calls a1_2 32 true _ A6.out).mono ?_); rintro e w' ⟨rfl, ⟨nd, rfl⟩⟩; (try first | exact ⟨rfl, _, World.drewN_drewN _ _ _⟩ | exact ⟨rfl, _, Eq.trans (World.drewN_drewN _ _ _) (congrArg (World.drewN _) (Nat.add_assoc _ _ _))⟩)) | (go_at_call 46; (with_reducible refine (cellarref0_Num.calls a1_3 32 false _ A8.out).mono ?_); rintro e w' ⟨rfl, ⟨nd, rfl⟩⟩; (try first | exact ⟨rfl, _, World.drewN_drewN _ _ _⟩ | exact ⟨rfl, _, Eq.trans (World.drewN_drewN _ _ _) (congrArg (World.drewN _) (Nat.add_assoc _ _ _))⟩)))
   repeat (go_quiet (first | ((with_reducible refine gate_dst (N := 3) rfl ?_); refine zbox (N := 3) (cs := #[.bool true, .int .i64 a1_1, .int .i64 a1_2, .int .i64 a1_3]) (t := 33) ?_; intro gb119 hg w15 hbox hb; have n0_ := Aside0.mk (below_step (zw0 HB.out) hb); have BK119 := Aside0.mk (hbox); have GW119 := Aside0.mk (zg hg (below_size (zw0 HB.out))); have GE119 := GW119; clear HB; have HB := n0_; clear n0_; clear hb hbox hg; have hcz16_0 := zc BK119.out 0; have hcz16_1 := zc BK119.out 1; have hcz16_2 := zc BK119.out 2; have hcz16_3 := zc BK119.out 3; have hfz16_0 := blk_frozen BK119.out 0; have hfz16_1 := blk_frozen BK119.out 1; have hfz16_2 := blk_frozen BK119.out 2; have hfz16_3 := blk_frozen BK119.out 3) | (go_at_call 46; (with_reducible refine (cellarref0_Num.calls a1_2 32 true _ A6.out).mono ?_); rintro e w' ⟨rfl, ⟨nd, rfl⟩⟩; (try first | exact ⟨rfl, _, World.drewN_drewN _ _ _⟩ | exact ⟨rfl, _, Eq.trans (World.drewN_drewN _ _ _) (congrArg (World.drewN _) (Nat.add_assoc _ _ _))⟩)) | (go_at_call 46; (with_reducible refine (cellarref0_Num.calls a1_3 32 false _ A8.out).mono ?_); rintro e w' ⟨rfl, ⟨nd, rfl⟩⟩; (try first | exact ⟨rfl, _, World.drewN_drewN _ _ _⟩ | exact ⟨rfl, _, Eq.trans (World.drewN_drewN _ _ _) (congrArg (World.drewN _) (Nat.add_assoc _ _ _))⟩))); try go_wp2_with (first | ((with_reducible refine gate_dst (N := 3) rfl ?_); refine zbox (N := 3) (cs := #[.bool true, .int .i64 a1_1, .int .i64 a1_2, .int .i64 a1_3]) (t := 33) ?_; intro gb119 hg w15 hbox hb; have n0_ := Aside0.mk (below_step (zw0 HB.out) hb); have BK119 := Aside0.mk (hbox); have GW119 := Aside0.mk (zg hg (below_size (zw0 HB.out))); have GE119 := GW119; clear HB; have HB := n0_; clear n0_; clear hb hbox hg; have hcz16_0 := zc BK119.out 0; have hcz16_1 := zc BK119.out 1; have hcz16_2 := zc BK119.out 2; have hcz16_3 := zc BK119.out 3; have hfz16_0 := blk_frozen BK119.out 0; have hfz16_1 := blk_frozen BK119.out 1; have hfz16_2 := blk_frozen BK119.out 2; have hfz16_3 := blk_frozen BK119.out 3) | (go_at_call 46; (with_reducible refine (cellarref0_Num.calls a1_2 32 true _ A6.out).mono ?_); rintro e w' ⟨rfl, ⟨nd, rfl⟩⟩; (try first | exact ⟨rfl, _, World.drewN_drewN _ _ _⟩ | exact ⟨rfl, _, Eq.trans (World.drewN_drewN _ _ _) (congrArg (World.drewN _) (Nat.add_assoc _ _ _))⟩)) | (go_at_call 46; (with_reducible refine (cellarref0_Num.calls a1_3 32 false _ A8.out).mono ?_); rintro e w' ⟨rfl, ⟨nd, rfl⟩⟩; (try first | exact ⟨rfl, _, World.drewN_drewN _ _ _⟩ | exact ⟨rfl, _, Eq.trans (World.drewN_drewN _ _ _) (congrArg (World.drewN _) (Nat.add_assoc _ _ _))⟩))))
   go_ret
   exact ⟨ze, zw1 HB.out GE119.out⟩
  subst c9
  have H1 : (if a1_2 > 0 then (some true) else (some (a1_3 == 0))) = some r := by rw [if_pos rfl] at H; exact H
  clear H
  have H := H1
  clear H1
  by_cases c10 : a1_2 > 0
  ·rw [if_pos c10] at H
   have c10b0 : decide (0 < a1_2) = true := decide_eq_true c10
   clear c10
   obtain rfl := Option.some.inj H
   go_enter Try.func29, Try.ntmps29
   go_wp2_with (first | ((with_reducible refine gate_dst (N := 3) rfl ?_); refine zbox (N := 3) (cs := #[.bool true, .int .i64 a1_1, .int .i64 a1_2, .int .i64 a1_3]) (t := 33) ?_; intro gb119 hg w11 hbox hb; have n0_ := Aside0.mk (below_step (zw0 HB.out) hb); have BK119 := Aside0.mk (hbox); have GW119 := Aside0.mk (zg hg (below_size (zw0 HB.out))); have GE119 := GW119; clear HB; have HB := n0_; clear n0_; clear hb hbox hg; have hcz12_0 := zc BK119.out 0; have hcz12_1 := zc BK119.out 1; have hcz12_2 := zc BK119.out 2; have hcz12_3 := zc BK119.out 3; have hfz12_0 := blk_frozen BK119.out 0; have hfz12_1 := blk_frozen BK119.out 1; have hfz12_2 := blk_frozen BK119.out 2; have hfz12_3 := blk_frozen BK119.out 3) | (go_at_call 46; (with_reducible refine (cellarref0_Num.calls a1_2 32 true _ A6.out).mono ?_); rintro e w' ⟨rfl, ⟨nd, rfl⟩⟩; (try first | exact ⟨rfl, _, World.drewN_drewN _ _ _⟩ | exact ⟨rfl, _, Eq.trans (World.drewN_drewN _ _ _) (congrArg (World.drewN _) (Nat.add_assoc _ _ _))⟩)) | (go_at_call 46; (with_reducible refine (cellarref0_Num.calls a1_3 32 true _ A8.out).mono ?_); rintro e w' ⟨rfl, ⟨nd, rfl⟩⟩; (try first | exact ⟨rfl, _, World.drewN_drewN _ _ _⟩ | exact ⟨rfl, _, Eq.trans (World.drewN_drewN _ _ _) (congrArg (World.drewN _) (Nat.add_assoc _ _ _))⟩)))
   repeat (go_quiet (first | ((with_reducible refine gate_dst (N := 3) rfl ?_); refine zbox (N := 3) (cs := #[.bool true, .int .i64 a1_1, .int .i64 a1_2, .int .i64 a1_3]) (t := 33) ?_; intro gb119 hg w11 hbox hb; have n0_ := Aside0.mk (below_step (zw0 HB.out) hb); have BK119 := Aside0.mk (hbox); have GW119 := Aside0.mk (zg hg (below_size (zw0 HB.out))); have GE119 := GW119; clear HB; have HB := n0_; clear n0_; clear hb hbox hg; have hcz12_0 := zc BK119.out 0; have hcz12_1 := zc BK119.out 1; have hcz12_2 := zc BK119.out 2; have hcz12_3 := zc BK119.out 3; have hfz12_0 := blk_frozen BK119.out 0; have hfz12_1 := blk_frozen BK119.out 1; have hfz12_2 := blk_frozen BK119.out 2; have hfz12_3 := blk_frozen BK119.out 3) | (go_at_call 46; (with_reducible refine (cellarref0_Num.calls a1_2 32 true _ A6.out).mono ?_); rintro e w' ⟨rfl, ⟨nd, rfl⟩⟩; (try first | exact ⟨rfl, _, World.drewN_drewN _ _ _⟩ | exact ⟨rfl, _, Eq.trans (World.drewN_drewN _ _ _) (congrArg (World.drewN _) (Nat.add_assoc _ _ _))⟩)) | (go_at_call 46; (with_reducible refine (cellarref0_Num.calls a1_3 32 true _ A8.out).mono ?_); rintro e w' ⟨rfl, ⟨nd, rfl⟩⟩; (try first | exact ⟨rfl, _, World.drewN_drewN _ _ _⟩ | exact ⟨rfl, _, Eq.trans (World.drewN_drewN _ _ _) (congrArg (World.drewN _) (Nat.add_assoc _ _ _))⟩))); try go_wp2_with (first | ((with_reducible refine gate_dst (N := 3) rfl ?_); refine zbox (N := 3) (cs := #[.bool true, .int .i64 a1_1, .int .i64 a1_2, .int .i64 a1_3]) (t := 33) ?_; intro gb119 hg w11 hbox hb; have n0_ := Aside0.mk (below_step (zw0 HB.out) hb); have BK119 := Aside0.mk (hbox); have GW119 := Aside0.mk (zg hg (below_size (zw0 HB.out))); have GE119 := GW119; clear HB; have HB := n0_; clear n0_; clear hb hbox hg; have hcz12_0 := zc BK119.out 0; have hcz12_1 := zc BK119.out 1; have hcz12_2 := zc BK119.out 2; have hcz12_3 := zc BK119.out 3; have hfz12_0 := blk_frozen BK119.out 0; have hfz12_1 := blk_frozen BK119.out 1; have hfz12_2 := blk_frozen BK119.out 2; have hfz12_3 := blk_frozen BK119.out 3) | (go_at_call 46; (with_reducible refine (cellarref0_Num.calls a1_2 32 true _ A6.out).mono ?_); rintro e w' ⟨rfl, ⟨nd, rfl⟩⟩; (try first | exact ⟨rfl, _, World.drewN_drewN _ _ _⟩ | exact ⟨rfl, _, Eq.trans (World.drewN_drewN _ _ _) (congrArg (World.drewN _) (Nat.add_assoc _ _ _))⟩)) | (go_at_call 46; (with_reducible refine (cellarref0_Num.calls a1_3 32 true _ A8.out).mono ?_); rintro e w' ⟨rfl, ⟨nd, rfl⟩⟩; (try first | exact ⟨rfl, _, World.drewN_drewN _ _ _⟩ | exact ⟨rfl, _, Eq.trans (World.drewN_drewN _ _ _) (congrArg (World.drewN _) (Nat.add_assoc _ _ _))⟩))))
   go_ret
   exact ⟨ze, zw1 HB.out GE119.out⟩
  rw [if_neg c10] at H
  have c10b0 : decide (0 < a1_2) = false := decide_eq_false c10
  clear c10
  obtain rfl := Option.some.inj H
  go_enter Try.func29, Try.ntmps29
  go_wp2_with (first | ((with_reducible refine gate_dst (N := 3) rfl ?_); refine zbox (N := 3) (cs := #[.bool true, .int .i64 a1_1, .int .i64 a1_2, .int .i64 a1_3]) (t := 33) ?_; intro gb119 hg w13 hbox hb; have n0_ := Aside0.mk (below_step (zw0 HB.out) hb); have BK119 := Aside0.mk (hbox); have GW119 := Aside0.mk (zg hg (below_size (zw0 HB.out))); have GE119 := GW119; clear HB; have HB := n0_; clear n0_; clear hb hbox hg; have hcz14_0 := zc BK119.out 0; have hcz14_1 := zc BK119.out 1; have hcz14_2 := zc BK119.out 2; have hcz14_3 := zc BK119.out 3; have hfz14_0 := blk_frozen BK119.out 0; have hfz14_1 := blk_frozen BK119.out 1; have hfz14_2 := blk_frozen BK119.out 2; have hfz14_3 := blk_frozen BK119.out 3) | (go_at_call 46; (with_reducible refine (cellarref0_Num.calls a1_2 32 true _ A6.out).mono ?_); rintro e w' ⟨rfl, ⟨nd, rfl⟩⟩; (try first | exact ⟨rfl, _, World.drewN_drewN _ _ _⟩ | exact ⟨rfl, _, Eq.trans (World.drewN_drewN _ _ _) (congrArg (World.drewN _) (Nat.add_assoc _ _ _))⟩)) | (go_at_call 46; (with_reducible refine (cellarref0_Num.calls a1_3 32 true _ A8.out).mono ?_); rintro e w' ⟨rfl, ⟨nd, rfl⟩⟩; (try first | exact ⟨rfl, _, World.drewN_drewN _ _ _⟩ | exact ⟨rfl, _, Eq.trans (World.drewN_drewN _ _ _) (congrArg (World.drewN _) (Nat.add_assoc _ _ _))⟩)))
  repeat (go_quiet (first | ((with_reducible refine gate_dst (N := 3) rfl ?_); refine zbox (N := 3) (cs := #[.bool true, .int .i64 a1_1, .int .i64 a1_2, .int .i64 a1_3]) (t := 33) ?_; intro gb119 hg w13 hbox hb; have n0_ := Aside0.mk (below_step (zw0 HB.out) hb); have BK119 := Aside0.mk (hbox); have GW119 := Aside0.mk (zg hg (below_size (zw0 HB.out))); have GE119 := GW119; clear HB; have HB := n0_; clear n0_; clear hb hbox hg; have hcz14_0 := zc BK119.out 0; have hcz14_1 := zc BK119.out 1; have hcz14_2 := zc BK119.out 2; have hcz14_3 := zc BK119.out 3; have hfz14_0 := blk_frozen BK119.out 0; have hfz14_1 := blk_frozen BK119.out 1; have hfz14_2 := blk_frozen BK119.out 2; have hfz14_3 := blk_frozen BK119.out 3) | (go_at_call 46; (with_reducible refine (cellarref0_Num.calls a1_2 32 true _ A6.out).mono ?_); rintro e w' ⟨rfl, ⟨nd, rfl⟩⟩; (try first | exact ⟨rfl, _, World.drewN_drewN _ _ _⟩ | exact ⟨rfl, _, Eq.trans (World.drewN_drewN _ _ _) (congrArg (World.drewN _) (Nat.add_assoc _ _ _))⟩)) | (go_at_call 46; (with_reducible refine (cellarref0_Num.calls a1_3 32 true _ A8.out).mono ?_); rintro e w' ⟨rfl, ⟨nd, rfl⟩⟩; (try first | exact ⟨rfl, _, World.drewN_drewN _ _ _⟩ | exact ⟨rfl, _, Eq.trans (World.drewN_drewN _ _ _) (congrArg (World.drewN _) (Nat.add_assoc _ _ _))⟩))); try go_wp2_with (first | ((with_reducible refine gate_dst (N := 3) rfl ?_); refine zbox (N := 3) (cs := #[.bool true, .int .i64 a1_1, .int .i64 a1_2, .int .i64 a1_3]) (t := 33) ?_; intro gb119 hg w13 hbox hb; have n0_ := Aside0.mk (below_step (zw0 HB.out) hb); have BK119 := Aside0.mk (hbox); have GW119 := Aside0.mk (zg hg (below_size (zw0 HB.out))); have GE119 := GW119; clear HB; have HB := n0_; clear n0_; clear hb hbox hg; have hcz14_0 := zc BK119.out 0; have hcz14_1 := zc BK119.out 1; have hcz14_2 := zc BK119.out 2; have hcz14_3 := zc BK119.out 3; have hfz14_0 := blk_frozen BK119.out 0; have hfz14_1 := blk_frozen BK119.out 1; have hfz14_2 := blk_frozen BK119.out 2; have hfz14_3 := blk_frozen BK119.out 3) | (go_at_call 46; (with_reducible refine (cellarref0_Num.calls a1_2 32 true _ A6.out).mono ?_); rintro e w' ⟨rfl, ⟨nd, rfl⟩⟩; (try first | exact ⟨rfl, _, World.drewN_drewN _ _ _⟩ | exact ⟨rfl, _, Eq.trans (World.drewN_drewN _ _ _) (congrArg (World.drewN _) (Nat.add_assoc _ _ _))⟩)) | (go_at_call 46; (with_reducible refine (cellarref0_Num.calls a1_3 32 true _ A8.out).mono ?_); rintro e w' ⟨rfl, ⟨nd, rfl⟩⟩; (try first | exact ⟨rfl, _, World.drewN_drewN _ _ _⟩ | exact ⟨rfl, _, Eq.trans (World.drewN_drewN _ _ _) (congrArg (World.drewN _) (Nat.add_assoc _ _ _))⟩))))
  go_ret
  exact ⟨ze, zw1 HB.out GE119.out⟩
 ·rw [if_neg c3] at H
  have c3b0 : (a0 == 7) = false := beq_eq_false_iff_ne.mpr c3
  have c3b1 : (a0 != 7) = true := bne_iff_ne.mpr c3
  replace H := Option.bind_eq_some_iff.mp H
  obtain ⟨t122, A230, H⟩ := H
  replace H : (if t122 > 0 then (if a1_0 = true then (some false) else (if a1_2 = 0 then (if a1_3 = 0 then ((cellarref1_Width.f k a0).bind fun t123 => ((cellarref1_Number.f a1_1 t123).bind fun t124 => (some t124))) else (some false)) else (some false))) else (some false)) = some r := H
  have A23 := Aside0.mk A230
  clear A230
  by_cases c24 : t122 > 0
  ·rw [if_pos c24] at H
   have c24b0 : decide (0 < t122) = true := decide_eq_true c24
   clear c24
   by_cases c25 : a1_0 = true
   ·subst c25
    have H1 : (some false) = some r := by rw [if_pos rfl] at H; exact H
    clear H
    have H := H1
    clear H1
    obtain rfl := Option.some.inj H
    go_enter Try.func29, Try.ntmps29
    go_wp2_with (first | ((with_reducible refine gate_dst (N := 3) rfl ?_); refine zbox (N := 3) (cs := #[.bool true, .int .i64 a1_1, .int .i64 a1_2, .int .i64 a1_3]) (t := 33) ?_; intro gb119 hg w26 hbox hb; have n0_ := Aside0.mk (below_step (zw0 HB.out) hb); have BK119 := Aside0.mk (hbox); have GW119 := Aside0.mk (zg hg (below_size (zw0 HB.out))); have GE119 := GW119; clear HB; have HB := n0_; clear n0_; clear hb hbox hg) | (go_at_call 42; (with_reducible refine (cellarref1_Width.calls k a0 t122 _ A23.out).mono ?_); rintro e w' ⟨rfl, ⟨nd, rfl⟩⟩; (try first | exact ⟨rfl, _, World.drewN_drewN _ _ _⟩ | exact ⟨rfl, _, Eq.trans (World.drewN_drewN _ _ _) (congrArg (World.drewN _) (Nat.add_assoc _ _ _))⟩); have hcz27_0 := zc BK119.out 0; have hcz27_1 := zc BK119.out 1; have hcz27_2 := zc BK119.out 2; have hcz27_3 := zc BK119.out 3; have hfz27_0 := blk_frozen BK119.out 0; have hfz27_1 := blk_frozen BK119.out 1; have hfz27_2 := blk_frozen BK119.out 2; have hfz27_3 := blk_frozen BK119.out 3))
    repeat (go_quiet (first | ((with_reducible refine gate_dst (N := 3) rfl ?_); refine zbox (N := 3) (cs := #[.bool true, .int .i64 a1_1, .int .i64 a1_2, .int .i64 a1_3]) (t := 33) ?_; intro gb119 hg w26 hbox hb; have n0_ := Aside0.mk (below_step (zw0 HB.out) hb); have BK119 := Aside0.mk (hbox); have GW119 := Aside0.mk (zg hg (below_size (zw0 HB.out))); have GE119 := GW119; clear HB; have HB := n0_; clear n0_; clear hb hbox hg) | (go_at_call 42; (with_reducible refine (cellarref1_Width.calls k a0 t122 _ A23.out).mono ?_); rintro e w' ⟨rfl, ⟨nd, rfl⟩⟩; (try first | exact ⟨rfl, _, World.drewN_drewN _ _ _⟩ | exact ⟨rfl, _, Eq.trans (World.drewN_drewN _ _ _) (congrArg (World.drewN _) (Nat.add_assoc _ _ _))⟩); have hcz27_0 := zc BK119.out 0; have hcz27_1 := zc BK119.out 1; have hcz27_2 := zc BK119.out 2; have hcz27_3 := zc BK119.out 3; have hfz27_0 := blk_frozen BK119.out 0; have hfz27_1 := blk_frozen BK119.out 1; have hfz27_2 := blk_frozen BK119.out 2; have hfz27_3 := blk_frozen BK119.out 3)); try go_wp2_with (first | ((with_reducible refine gate_dst (N := 3) rfl ?_); refine zbox (N := 3) (cs := #[.bool true, .int .i64 a1_1, .int .i64 a1_2, .int .i64 a1_3]) (t := 33) ?_; intro gb119 hg w26 hbox hb; have n0_ := Aside0.mk (below_step (zw0 HB.out) hb); have BK119 := Aside0.mk (hbox); have GW119 := Aside0.mk (zg hg (below_size (zw0 HB.out))); have GE119 := GW119; clear HB; have HB := n0_; clear n0_; clear hb hbox hg) | (go_at_call 42; (with_reducible refine (cellarref1_Width.calls k a0 t122 _ A23.out).mono ?_); rintro e w' ⟨rfl, ⟨nd, rfl⟩⟩; (try first | exact ⟨rfl, _, World.drewN_drewN _ _ _⟩ | exact ⟨rfl, _, Eq.trans (World.drewN_drewN _ _ _) (congrArg (World.drewN _) (Nat.add_assoc _ _ _))⟩); have hcz27_0 := zc BK119.out 0; have hcz27_1 := zc BK119.out 1; have hcz27_2 := zc BK119.out 2; have hcz27_3 := zc BK119.out 3; have hfz27_0 := blk_frozen BK119.out 0; have hfz27_1 := blk_frozen BK119.out 1; have hfz27_2 := blk_frozen BK119.out 2; have hfz27_3 := blk_frozen BK119.out 3)))
    go_ret
    exact ⟨ze, zw1 HB.out GE119.out⟩
   replace c25 := Bool.eq_false_iff.mpr c25
   subst c25
   have H1 : (if a1_2 = 0 then (if a1_3 = 0 then ((cellarref1_Width.f k a0).bind fun t123 => ((cellarref1_Number.f a1_1 t123).bind fun t124 => (some t124))) else (some false)) else (some false)) = some r := by rw [if_neg (show ¬ (false = true) by decide)] at H; exact H
   clear H
   have H := H1
   clear H1
   by_cases c28 : a1_2 = 0
   rotate_left
   ·rw [if_neg c28] at H
    have c28b0 : (a1_2 == 0) = false := beq_eq_false_iff_ne.mpr c28
    have c28b1 : (a1_2 != 0) = true := bne_iff_ne.mpr c28
    obtain rfl := Option.some.inj H
    go_enter Try.func29, Try.ntmps29
    go_wp2_with (first | ((with_reducible refine gate_dst (N := 3) rfl ?_); refine zbox (N := 3) (cs := #[.bool false, .int .i64 a1_1, .int .i64 a1_2, .int .i64 a1_3]) (t := 33) ?_; intro gb119 hg w36 hbox hb; have n0_ := Aside0.mk (below_step (zw0 HB.out) hb); have BK119 := Aside0.mk (hbox); have GW119 := Aside0.mk (zg hg (below_size (zw0 HB.out))); have GE119 := GW119; clear HB; have HB := n0_; clear n0_; clear hb hbox hg) | (go_at_call 42; (with_reducible refine (cellarref1_Width.calls k a0 t122 _ A23.out).mono ?_); rintro e w' ⟨rfl, ⟨nd, rfl⟩⟩; (try first | exact ⟨rfl, _, World.drewN_drewN _ _ _⟩ | exact ⟨rfl, _, Eq.trans (World.drewN_drewN _ _ _) (congrArg (World.drewN _) (Nat.add_assoc _ _ _))⟩); have hcz37_0 := zc BK119.out 0; have hcz37_1 := zc BK119.out 1; have hcz37_2 := zc BK119.out 2; have hcz37_3 := zc BK119.out 3; have hfz37_0 := blk_frozen BK119.out 0; have hfz37_1 := blk_frozen BK119.out 1; have hfz37_2 := blk_frozen BK119.out 2; have hfz37_3 := blk_frozen BK119.out 3))
    repeat (go_quiet (first | ((with_reducible refine gate_dst (N := 3) rfl ?_); refine zbox (N := 3) (cs := #[.bool false, .int .i64 a1_1, .int .i64 a1_2, .int .i64 a1_3]) (t := 33) ?_; intro gb119 hg w36 hbox hb; have n0_ := Aside0.mk (below_step (zw0 HB.out) hb); have BK119 := Aside0.mk (hbox); have GW119 := Aside0.mk (zg hg (below_size (zw0 HB.out))); have GE119 := GW119; clear HB; have HB := n0_; clear n0_; clear hb hbox hg) | (go_at_call 42; (with_reducible refine (cellarref1_Width.calls k a0 t122 _ A23.out).mono ?_); rintro e w' ⟨rfl, ⟨nd, rfl⟩⟩; (try first | exact ⟨rfl, _, World.drewN_drewN _ _ _⟩ | exact ⟨rfl, _, Eq.trans (World.drewN_drewN _ _ _) (congrArg (World.drewN _) (Nat.add_assoc _ _ _))⟩); have hcz37_0 := zc BK119.out 0; have hcz37_1 := zc BK119.out 1; have hcz37_2 := zc BK119.out 2; have hcz37_3 := zc BK119.out 3; have hfz37_0 := blk_frozen BK119.out 0; have hfz37_1 := blk_frozen BK119.out 1; have hfz37_2 := blk_frozen BK119.out 2; have hfz37_3 := blk_frozen BK119.out 3)); try go_wp2_with (first | ((with_reducible refine gate_dst (N := 3) rfl ?_); refine zbox (N := 3) (cs := #[.bool false, .int .i64 a1_1, .int .i64 a1_2, .int .i64 a1_3]) (t := 33) ?_; intro gb119 hg w36 hbox hb; have n0_ := Aside0.mk (below_step (zw0 HB.out) hb); have BK119 := Aside0.mk (hbox); have GW119 := Aside0.mk (zg hg (below_size (zw0 HB.out))); have GE119 := GW119; clear HB; have HB := n0_; clear n0_; clear hb hbox hg) | (go_at_call 42; (with_reducible refine (cellarref1_Width.calls k a0 t122 _ A23.out).mono ?_); rintro e w' ⟨rfl, ⟨nd, rfl⟩⟩; (try first | exact ⟨rfl, _, World.drewN_drewN _ _ _⟩ | exact ⟨rfl, _, Eq.trans (World.drewN_drewN _ _ _) (congrArg (World.drewN _) (Nat.add_assoc _ _ _))⟩); have hcz37_0 := zc BK119.out 0; have hcz37_1 := zc BK119.out 1; have hcz37_2 := zc BK119.out 2; have hcz37_3 := zc BK119.out 3; have hfz37_0 := blk_frozen BK119.out 0; have hfz37_1 := blk_frozen BK119.out 1; have hfz37_2 := blk_frozen BK119.out 2; have hfz37_3 := blk_frozen BK119.out 3)))
    go_ret
    exact ⟨ze, zw1 HB.out GE119.out⟩
   rw [if_pos c28] at H
   have c28b0 : (a1_2 == 0) = true := beq_iff_eq.mpr c28
   have c28b1 : (a1_2 != 0) = false := bne_eq_false_iff_eq.mpr c28
   clear c28
   by_cases c29 : a1_3 = 0
   rotate_left
   ·rw [if_neg c29] at H
    have c29b0 : (a1_3 == 0) = false := beq_eq_false_iff_ne.mpr c29
    have c29b1 : (a1_3 != 0) = true := bne_iff_ne.mpr c29
    obtain rfl := Option.some.inj H
    go_enter Try.func29, Try.ntmps29
    go_wp2_with (first | ((with_reducible refine gate_dst (N := 3) rfl ?_); refine zbox (N := 3) (cs := #[.bool false, .int .i64 a1_1, .int .i64 a1_2, .int .i64 a1_3]) (t := 33) ?_; intro gb119 hg w34 hbox hb; have n0_ := Aside0.mk (below_step (zw0 HB.out) hb); have BK119 := Aside0.mk (hbox); have GW119 := Aside0.mk (zg hg (below_size (zw0 HB.out))); have GE119 := GW119; clear HB; have HB := n0_; clear n0_; clear hb hbox hg) | (go_at_call 42; (with_reducible refine (cellarref1_Width.calls k a0 t122 _ A23.out).mono ?_); rintro e w' ⟨rfl, ⟨nd, rfl⟩⟩; (try first | exact ⟨rfl, _, World.drewN_drewN _ _ _⟩ | exact ⟨rfl, _, Eq.trans (World.drewN_drewN _ _ _) (congrArg (World.drewN _) (Nat.add_assoc _ _ _))⟩); have hcz35_0 := zc BK119.out 0; have hcz35_1 := zc BK119.out 1; have hcz35_2 := zc BK119.out 2; have hcz35_3 := zc BK119.out 3; have hfz35_0 := blk_frozen BK119.out 0; have hfz35_1 := blk_frozen BK119.out 1; have hfz35_2 := blk_frozen BK119.out 2; have hfz35_3 := blk_frozen BK119.out 3))
    repeat (go_quiet (first | ((with_reducible refine gate_dst (N := 3) rfl ?_); refine zbox (N := 3) (cs := #[.bool false, .int .i64 a1_1, .int .i64 a1_2, .int .i64 a1_3]) (t := 33) ?_; intro gb119 hg w34 hbox hb; have n0_ := Aside0.mk (below_step (zw0 HB.out) hb); have BK119 := Aside0.mk (hbox); have GW119 := Aside0.mk (zg hg (below_size (zw0 HB.out))); have GE119 := GW119; clear HB; have HB := n0_; clear n0_; clear hb hbox hg) | (go_at_call 42; (with_reducible refine (cellarref1_Width.calls k a0 t122 _ A23.out).mono ?_); rintro e w' ⟨rfl, ⟨nd, rfl⟩⟩; (try first | exact ⟨rfl, _, World.drewN_drewN _ _ _⟩ | exact ⟨rfl, _, Eq.trans (World.drewN_drewN _ _ _) (congrArg (World.drewN _) (Nat.add_assoc _ _ _))⟩); have hcz35_0 := zc BK119.out 0; have hcz35_1 := zc BK119.out 1; have hcz35_2 := zc BK119.out 2; have hcz35_3 := zc BK119.out 3; have hfz35_0 := blk_frozen BK119.out 0; have hfz35_1 := blk_frozen BK119.out 1; have hfz35_2 := blk_frozen BK119.out 2; have hfz35_3 := blk_frozen BK119.out 3)); try go_wp2_with (first | ((with_reducible refine gate_dst (N := 3) rfl ?_); refine zbox (N := 3) (cs := #[.bool false, .int .i64 a1_1, .int .i64 a1_2, .int .i64 a1_3]) (t := 33) ?_; intro gb119 hg w34 hbox hb; have n0_ := Aside0.mk (below_step (zw0 HB.out) hb); have BK119 := Aside0.mk (hbox); have GW119 := Aside0.mk (zg hg (below_size (zw0 HB.out))); have GE119 := GW119; clear HB; have HB := n0_; clear n0_; clear hb hbox hg) | (go_at_call 42; (with_reducible refine (cellarref1_Width.calls k a0 t122 _ A23.out).mono ?_); rintro e w' ⟨rfl, ⟨nd, rfl⟩⟩; (try first | exact ⟨rfl, _, World.drewN_drewN _ _ _⟩ | exact ⟨rfl, _, Eq.trans (World.drewN_drewN _ _ _) (congrArg (World.drewN _) (Nat.add_assoc _ _ _))⟩); have hcz35_0 := zc BK119.out 0; have hcz35_1 := zc BK119.out 1; have hcz35_2 := zc BK119.out 2; have hcz35_3 := zc BK119.out 3; have hfz35_0 := blk_frozen BK119.out 0; have hfz35_1 := blk_frozen BK119.out 1; have hfz35_2 := blk_frozen BK119.out 2; have hfz35_3 := blk_frozen BK119.out 3)))
    go_ret
    exact ⟨ze, zw1 HB.out GE119.out⟩
   rw [if_pos c29] at H
   have c29b0 : (a1_3 == 0) = true := beq_iff_eq.mpr c29
   have c29b1 : (a1_3 != 0) = false := bne_eq_false_iff_eq.mpr c29
   clear c29
   replace H := Option.bind_eq_some_iff.mp H
   obtain ⟨t123, A300, H⟩ := H
   replace H : ((cellarref1_Number.f a1_1 t123).bind fun t124 => (some t124)) = some r := H
   have A30 := Aside0.mk A300
   clear A300
   obtain rfl : t122 = t123 := by have h1_ := A23.out; rw [A30.out] at h1_; exact (Option.some.inj h1_).symm
   replace H := Option.bind_eq_some_iff.mp H
   obtain ⟨t124, A310, H⟩ := H
   replace H : (some t124) = some r := H
   have A31 := Aside0.mk A310
   clear A310
   obtain rfl := Option.some.inj H
   go_enter Try.func29, Try.ntmps29
   go_wp2_with (first | ((with_reducible refine gate_dst (N := 3) rfl ?_); refine zbox (N := 3) (cs := #[.bool false, .int .i64 a1_1, .int .i64 a1_2, .int .i64 a1_3]) (t := 33) ?_; intro gb119 hg w32 hbox hb; have n0_ := Aside0.mk (below_step (zw0 HB.out) hb); have BK119 := Aside0.mk (hbox); have GW119 := Aside0.mk (zg hg (below_size (zw0 HB.out))); have GE119 := GW119; clear HB; have HB := n0_; clear n0_; clear hb hbox hg) | (go_at_call 42; (with_reducible refine (cellarref1_Width.calls k a0 t122 _ A23.out).mono ?_); rintro e w' ⟨rfl, ⟨nd, rfl⟩⟩; (try first | exact ⟨rfl, _, World.drewN_drewN _ _ _⟩ | exact ⟨rfl, _, Eq.trans (World.drewN_drewN _ _ _) (congrArg (World.drewN _) (Nat.add_assoc _ _ _))⟩); have hcz33_0 := zc BK119.out 0; have hcz33_1 := zc BK119.out 1; have hcz33_2 := zc BK119.out 2; have hcz33_3 := zc BK119.out 3; have hfz33_0 := blk_frozen BK119.out 0; have hfz33_1 := blk_frozen BK119.out 1; have hfz33_2 := blk_frozen BK119.out 2; have hfz33_3 := blk_frozen BK119.out 3) | (go_at_call 42; (with_reducible refine (cellarref1_Width.calls k a0 t122 _ A30.out).mono ?_); rintro e w' ⟨rfl, ⟨nd, rfl⟩⟩; (try first | exact ⟨rfl, _, World.drewN_drewN _ _ _⟩ | exact ⟨rfl, _, Eq.trans (World.drewN_drewN _ _ _) (congrArg (World.drewN _) (Nat.add_assoc _ _ _))⟩)) | (go_at_call 47; (with_reducible refine (cellarref1_Number.calls a1_1 t122 t124 _ A31.out).mono ?_); rintro e w' ⟨rfl, ⟨nd, rfl⟩⟩; (try first | exact ⟨rfl, _, World.drewN_drewN _ _ _⟩ | exact ⟨rfl, _, Eq.trans (World.drewN_drewN _ _ _) (congrArg (World.drewN _) (Nat.add_assoc _ _ _))⟩)))
   repeat (go_quiet (first | ((with_reducible refine gate_dst (N := 3) rfl ?_); refine zbox (N := 3) (cs := #[.bool false, .int .i64 a1_1, .int .i64 a1_2, .int .i64 a1_3]) (t := 33) ?_; intro gb119 hg w32 hbox hb; have n0_ := Aside0.mk (below_step (zw0 HB.out) hb); have BK119 := Aside0.mk (hbox); have GW119 := Aside0.mk (zg hg (below_size (zw0 HB.out))); have GE119 := GW119; clear HB; have HB := n0_; clear n0_; clear hb hbox hg) | (go_at_call 42; (with_reducible refine (cellarref1_Width.calls k a0 t122 _ A23.out).mono ?_); rintro e w' ⟨rfl, ⟨nd, rfl⟩⟩; (try first | exact ⟨rfl, _, World.drewN_drewN _ _ _⟩ | exact ⟨rfl, _, Eq.trans (World.drewN_drewN _ _ _) (congrArg (World.drewN _) (Nat.add_assoc _ _ _))⟩); have hcz33_0 := zc BK119.out 0; have hcz33_1 := zc BK119.out 1; have hcz33_2 := zc BK119.out 2; have hcz33_3 := zc BK119.out 3; have hfz33_0 := blk_frozen BK119.out 0; have hfz33_1 := blk_frozen BK119.out 1; have hfz33_2 := blk_frozen BK119.out 2; have hfz33_3 := blk_frozen BK119.out 3) | (go_at_call 42; (with_reducible refine (cellarref1_Width.calls k a0 t122 _ A30.out).mono ?_); rintro e w' ⟨rfl, ⟨nd, rfl⟩⟩; (try first | exact ⟨rfl, _, World.drewN_drewN _ _ _⟩ | exact ⟨rfl, _, Eq.trans (World.drewN_drewN _ _ _) (congrArg (World.drewN _) (Nat.add_assoc _ _ _))⟩)) | (go_at_call 47; (with_reducible refine (cellarref1_Number.calls a1_1 t122 t124 _ A31.out).mono ?_); rintro e w' ⟨rfl, ⟨nd, rfl⟩⟩; (try first | exact ⟨rfl, _, World.drewN_drewN _ _ _⟩ | exact ⟨rfl, _, Eq.trans (World.drewN_drewN _ _ _) (congrArg (World.drewN _) (Nat.add_assoc _ _ _))⟩))); try go_wp2_with (first | ((with_reducible refine gate_dst (N := 3) rfl ?_); refine zbox (N := 3) (cs := #[.bool false, .int .i64 a1_1, .int .i64 a1_2, .int .i64 a1_3]) (t := 33) ?_; intro gb119 hg w32 hbox hb; have n0_ := Aside0.mk (below_step (zw0 HB.out) hb); have BK119 := Aside0.mk (hbox); have GW119 := Aside0.mk (zg hg (below_size (zw0 HB.out))); have GE119 := GW119; clear HB; have HB := n0_; clear n0_; clear hb hbox hg) | (go_at_call 42; (with_reducible refine (cellarref1_Width.calls k a0 t122 _ A23.out).mono ?_); rintro e w' ⟨rfl, ⟨nd, rfl⟩⟩; (try first | exact ⟨rfl, _, World.drewN_drewN _ _ _⟩ | exact ⟨rfl, _, Eq.trans (World.drewN_drewN _ _ _) (congrArg (World.drewN _) (Nat.add_assoc _ _ _))⟩); have hcz33_0 := zc BK119.out 0; have hcz33_1 := zc BK119.out 1; have hcz33_2 := zc BK119.out 2; have hcz33_3 := zc BK119.out 3; have hfz33_0 := blk_frozen BK119.out 0; have hfz33_1 := blk_frozen BK119.out 1; have hfz33_2 := blk_frozen BK119.out 2; have hfz33_3 := blk_frozen BK119.out 3) | (go_at_call 42; (with_reducible refine (cellarref1_Width.calls k a0 t122 _ A30.out).mono ?_); rintro e w' ⟨rfl, ⟨nd, rfl⟩⟩; (try first | exact ⟨rfl, _, World.drewN_drewN _ _ _⟩ | exact ⟨rfl, _, Eq.trans (World.drewN_drewN _ _ _) (congrArg (World.drewN _) (Nat.add_assoc _ _ _))⟩)) | (go_at_call 47; (with_reducible refine (cellarref1_Number.calls a1_1 t122 t124 _ A31.out).mono ?_); rintro e w' ⟨rfl, ⟨nd, rfl⟩⟩; (try first | exact ⟨rfl, _, World.drewN_drewN _ _ _⟩ | exact ⟨rfl, _, Eq.trans (World.drewN_drewN _ _ _) (congrArg (World.drewN _) (Nat.add_assoc _ _ _))⟩))))
   go_ret
   exact ⟨ze, zw1 HB.out GE119.out⟩
  ·rw [if_neg c24] at H
   have c24b0 : decide (0 < t122) = false := decide_eq_false c24
   clear c24
   obtain rfl := Option.some.inj H
   go_enter Try.func29, Try.ntmps29
   go_wp2_with (first | ((with_reducible refine gate_dst (N := 3) rfl ?_); refine zbox (N := 3) (cs := #[.bool a1_0, .int .i64 a1_1, .int .i64 a1_2, .int .i64 a1_3]) (t := 33) ?_; intro gb119 hg w38 hbox hb; have n0_ := Aside0.mk (below_step (zw0 HB.out) hb); have BK119 := Aside0.mk (hbox); have GW119 := Aside0.mk (zg hg (below_size (zw0 HB.out))); have GE119 := GW119; clear HB; have HB := n0_; clear n0_; clear hb hbox hg) | (go_at_call 42; (with_reducible refine (cellarref1_Width.calls k a0 t122 _ A23.out).mono ?_); rintro e w' ⟨rfl, ⟨nd, rfl⟩⟩; (try first | exact ⟨rfl, _, World.drewN_drewN _ _ _⟩ | exact ⟨rfl, _, Eq.trans (World.drewN_drewN _ _ _) (congrArg (World.drewN _) (Nat.add_assoc _ _ _))⟩)))
   repeat (go_quiet (first | ((with_reducible refine gate_dst (N := 3) rfl ?_); refine zbox (N := 3) (cs := #[.bool a1_0, .int .i64 a1_1, .int .i64 a1_2, .int .i64 a1_3]) (t := 33) ?_; intro gb119 hg w38 hbox hb; have n0_ := Aside0.mk (below_step (zw0 HB.out) hb); have BK119 := Aside0.mk (hbox); have GW119 := Aside0.mk (zg hg (below_size (zw0 HB.out))); have GE119 := GW119; clear HB; have HB := n0_; clear n0_; clear hb hbox hg) | (go_at_call 42; (with_reducible refine (cellarref1_Width.calls k a0 t122 _ A23.out).mono ?_); rintro e w' ⟨rfl, ⟨nd, rfl⟩⟩; (try first | exact ⟨rfl, _, World.drewN_drewN _ _ _⟩ | exact ⟨rfl, _, Eq.trans (World.drewN_drewN _ _ _) (congrArg (World.drewN _) (Nat.add_assoc _ _ _))⟩))); try go_wp2_with (first | ((with_reducible refine gate_dst (N := 3) rfl ?_); refine zbox (N := 3) (cs := #[.bool a1_0, .int .i64 a1_1, .int .i64 a1_2, .int .i64 a1_3]) (t := 33) ?_; intro gb119 hg w38 hbox hb; have n0_ := Aside0.mk (below_step (zw0 HB.out) hb); have BK119 := Aside0.mk (hbox); have GW119 := Aside0.mk (zg hg (below_size (zw0 HB.out))); have GE119 := GW119; clear HB; have HB := n0_; clear n0_; clear hb hbox hg) | (go_at_call 42; (with_reducible refine (cellarref1_Width.calls k a0 t122 _ A23.out).mono ?_); rintro e w' ⟨rfl, ⟨nd, rfl⟩⟩; (try first | exact ⟨rfl, _, World.drewN_drewN _ _ _⟩ | exact ⟨rfl, _, Eq.trans (World.drewN_drewN _ _ _) (congrArg (World.drewN _) (Nat.add_assoc _ _ _))⟩))))
   go_ret
   exact ⟨ze, zw1 HB.out GE119.out⟩

end Go.Proofs.Ythhdmanpjeminaa.H
