-- Written by this session's own edition of the print.
import Derived.Test.YtjoplkillkhiaaaLx0
import Derived.Test.YtjoplkillkhiaaaLx1
import Derived.Test.YtjoplkillkhiaaaLx2
import Derived.Test.YtjoplkillkhiaaaUSq
import Derived.Test.YtjoplkillkhiaaaUSq2
import Derived.Test.YtjoplkillkhiaaaUSq3
namespace Go.Proofs.Ytjoplkillkhiaaa.L
open Go.RowKit Go.Proofs.Ytjoplkillkhiaaa.Fn Go.Proofs.YtjoplkillkhiaaaW.PrintWords Go.Proofs.YtjoplkillkhiaaaW.PrintLast Go.Proofs.YtjoplkillkhiaaaW.PrintMore
attribute [local go_sem] max2_int min2_int max_two min_two max_three min_three max_four min_four   -- for this text's walks alone
set_option linter.unusedVariables false
set_option linter.unusedSimpArgs false

/-! lay_places -/
mutual
def lay_places.j0 : Nat → List (S31) → List (S103) → Bool → Bool → Int → Option ((List (S103)) × Bool)
 | 0, _, _, _, _, _ => none
 | k + 1, x1, x4, x17, x122000, x122001 => if x17 = true then (some (([] : List (S103)), false)) else (lay_places.l0 k x4 x1 (x1.length : Int) 0 x122000 x122001)
def lay_places.l0 : Nat → List (S103) → List (S31) → Int → Int → Bool → Int → Option ((List (S103)) × Bool)
 | 0, _, _, _, _, _, _ => none
 | k + 1, x4, x18, x19, x20, x122000, x122001 => if x20 < x19 then (if 0 ≤ x20 then (if x20 < (x18.length : Int) then ((lay_form.f k ((rd_T31 x18 x20).f0) ((rd_T31 x18 x20).f1) ((rd_T31 x18 x20).f2) ((rd_T31 x18 x20).f3) ((rd_T31 x18 x20).f4) x20).bind fun t125 => (if t125 = true then (if ((rd_T31 x18 x20).f0) = 8 then (if 0 ≤ ((rd_T31 x18 x20).f2) then (if ((rd_T31 x18 x20).f2) < (x4.length : Int) then (if (wrap64 (((rd_T31 x18 x20).f1) * ((rd_T103 x4 ((rd_T31 x18 x20).f2)).f0))) > 32 then (some (([] : List (S103)), false)) else (if (wrap64 (((rd_T31 x18 x20).f1) * ((rd_T103 x4 ((rd_T31 x18 x20).f2)).f2))) > 64 then (some (([] : List (S103)), false)) else (if x4.length < 5864062014805 then (lay_places.l0 k (x4 ++ [(⟨wrap64 (((rd_T31 x18 x20).f1) * ((rd_T103 x4 ((rd_T31 x18 x20).f2)).f0)), (rd_T103 x4 ((rd_T31 x18 x20).f2)).f1, wrap64 (((rd_T31 x18 x20).f1) * ((rd_T103 x4 ((rd_T31 x18 x20).f2)).f2))⟩ : S103)]) x18 x19 (wrap64 (x20 + 1)) x122000 x122001) else (none)))) else (none)) else (none)) else (if ((rd_T31 x18 x20).f0) = 9 then (lay_places.j2 k x4 x18 x19 x20 (((rd_T31 x18 x20).f0) == 9) x122000 x122001 ((rd_T31 x18 x20).f0) ((rd_T31 x18 x20).f1) ((rd_T31 x18 x20).f2) ((rd_T31 x18 x20).f3) ((rd_T31 x18 x20).f4)) else (lay_places.j2 k x4 x18 x19 x20 (((rd_T31 x18 x20).f0) == 10) x122000 x122001 ((rd_T31 x18 x20).f0) ((rd_T31 x18 x20).f1) ((rd_T31 x18 x20).f2) ((rd_T31 x18 x20).f3) ((rd_T31 x18 x20).f4)))) else (some (([] : List (S103)), false)))) else (none)) else (none)) else (some (x4, true))
def lay_places.j2 : Nat → List (S103) → List (S31) → Int → Int → Bool → Bool → Int → Int → Int → Int → List ByteArray → List Int → Option ((List (S103)) × Bool)
 | 0, _, _, _, _, _, _, _, _, _, _, _, _ => none
 | k + 1, x4, x18, x19, x20, x65, x122000, x122001, x125000, x125001, x125002, x125003, x125004 => if x65 = true then ((lay_offsets.f k x125000 x125001 x125002 x125003 x125004 x4).bind fun bt133 => (if bt133.2.1 > 32 then (some (([] : List (S103)), false)) else (if bt133.2.2.2 > 64 then (some (([] : List (S103)), false)) else (if x4.length < 5864062014805 then (lay_places.l0 k (x4 ++ [(⟨bt133.2.1, bt133.2.2.1, bt133.2.2.2⟩ : S103)]) x18 x19 (wrap64 (x20 + 1)) x122000 x122001) else (none))))) else ((word_Bytes.f x122000 x122001 x125000).bind fun t142 => (if t142 > 32 then (some (([] : List (S103)), false)) else (if 1 > 64 then (some (([] : List (S103)), false)) else (if x4.length < 5864062014805 then (lay_places.l0 k (x4 ++ [(⟨t142, t142, 1⟩ : S103)]) x18 x19 (wrap64 (x20 + 1)) x122000 x122001) else (none)))))
end
def lay_places.f (k : Nat) (a0_0 : Bool) (a0_1 : Int) (l1 : List (S31)) : Option ((List (S103)) × Bool) := (word_May.f a0_0 a0_1).bind fun t122 => (if t122 = true then (lay_places.j0 k l1 ([] : List (S103)) (decide ((l1.length : Int) > 30)) a0_0 a0_1) else (lay_places.j0 k l1 ([] : List (S103)) true a0_0 a0_1))
theorem lay_places.mono_l : ∀ k, (∀ y0 y1 y2 y3 y4, LeO (lay_places.j0 k y0 y1 y2 y3 y4) (lay_places.j0 (k + 1) y0 y1 y2 y3 y4)) ∧ (∀ y0 y1 y2 y3 y4 y5, LeO (lay_places.l0 k y0 y1 y2 y3 y4 y5) (lay_places.l0 (k + 1) y0 y1 y2 y3 y4 y5)) ∧ (∀ y0 y1 y2 y3 y4 y5 y6 y7 y8 y9 y10 y11, LeO (lay_places.j2 k y0 y1 y2 y3 y4 y5 y6 y7 y8 y9 y10 y11) (lay_places.j2 (k + 1) y0 y1 y2 y3 y4 y5 y6 y7 y8 y9 y10 y11))
 | 0 => ⟨fun _ _ _ _ _ r h => by simp [lay_places.j0] at h, fun _ _ _ _ _ _ r h => by simp [lay_places.l0] at h, fun _ _ _ _ _ _ _ _ _ _ _ _ r h => by simp [lay_places.j2] at h⟩
 | k + 1 => by
  obtain ⟨ih0, ih1, ih2⟩ := lay_places.mono_l k
  refine ⟨?_, ?_, ?_⟩
  ·intro y0 y1 y2 y3 y4
   unfold lay_places.j0
   repeat' first
   | (with_reducible apply ih0)
   | (with_reducible apply ih1)
   | (with_reducible apply ih2)
   | (with_reducible apply lay_form.mono)
   | (with_reducible apply lay_offsets.mono)
   | (with_reducible apply LeO.refl)
   | (with_reducible apply LeO.none)
   | (with_reducible refine LeO.ite ?_ ?_)
   | (with_reducible refine LeO.bind ?_ (fun _ => ?_))
  ·intro y0 y1 y2 y3 y4 y5
   unfold lay_places.l0
   repeat' first
   | (with_reducible apply ih0)
   | (with_reducible apply ih1)
   | (with_reducible apply ih2)
   | (with_reducible apply lay_form.mono)
   | (with_reducible apply lay_offsets.mono)
   | (with_reducible apply LeO.refl)
   | (with_reducible apply LeO.none)
   | (with_reducible refine LeO.ite ?_ ?_)
   | (with_reducible refine LeO.bind ?_ (fun _ => ?_))
  ·intro y0 y1 y2 y3 y4 y5 y6 y7 y8 y9 y10 y11
   unfold lay_places.j2
   repeat' first
   | (with_reducible apply ih0)
   | (with_reducible apply ih1)
   | (with_reducible apply ih2)
   | (with_reducible apply lay_form.mono)
   | (with_reducible apply lay_offsets.mono)
   | (with_reducible apply LeO.refl)
   | (with_reducible apply LeO.none)
   | (with_reducible refine LeO.ite ?_ ?_)
   | (with_reducible refine LeO.bind ?_ (fun _ => ?_))
theorem lay_places.mono : ∀ a0 a1 a2 k, LeO (lay_places.f k a0 a1 a2) (lay_places.f (k + 1) a0 a1 a2) := by
 intro a0 a1 a2 k
 obtain ⟨ih0, ih1, ih2⟩ := lay_places.mono_l k
 unfold lay_places.f
 repeat' first
   | (with_reducible apply ih0)
   | (with_reducible apply ih1)
   | (with_reducible apply ih2)
   | (with_reducible apply lay_form.mono)
   | (with_reducible apply lay_offsets.mono)
   | (with_reducible apply LeO.refl)
   | (with_reducible apply LeO.none)
   | (with_reducible refine LeO.ite ?_ ?_)
   | (with_reducible refine LeO.bind ?_ (fun _ => ?_))
def lay_places.T13 : Bool × List (List Nat × List Nat) := (true, [([], []), ([0], [0]), ([], []), ([], []), ([3], [3]), ([2, 4], [2, 4]), ([5], [5]), ([6], [6]), ([1, 7], [1, 7]), ([], []), ([], []), ([10], [10]), ([9, 11], [9, 11]), ([12], [12]), ([13], [13]), ([], []), ([15], [15]), ([], []), ([], []), ([18], [18]), ([17, 19], [17, 19]), ([20], [20]), ([21], [21]), ([16, 22], [16, 22]), ([8, 14, 23], [8, 14, 23]), ([24, 0, 1, 2, 3, 4, 5, 6, 7, 8, 9, 10, 11, 12, 13, 14, 15, 16, 17, 18, 19, 20, 21, 22, 23, 24], [24])])
def lay_places.B13 : List Nat := [0, 1, 0, 0, 8, 28, 60, 124, 255, 0, 0, 1024, 3584, 7680, 15872, 0, 32768, 0, 0, 262144, 917504, 1966080, 4063232, 8355840, 16777215, 33554431]
theorem lay_places.tab13 : rtab .any (opsOf Try.f51 13) = lay_places.T13 := by kernel_rfl
theorem lay_places.bits13 : waitsOk lay_places.T13.2 lay_places.B13 = true := by kernel_rfl
set_option maxHeartbeats 8000000 in
set_option maxRecDepth 100000 in
theorem lay_places.calls (k : Nat) (a0_0 : Bool) (a0_1 : Int) (A1 : Option Addr) (c1 : Nat) (l1 : List (S31)) (r1 : List (S103)) (r2 : Bool) (w : World) (hr1 : Kd.C k31 w A1 l1.length l1) (hc1 : l1.length ≤ c1) (h : lay_places.f k a0_0 a0_1 l1 = some (r1, r2)) :
  Calls Try.prog 51 #[.agg #[.bool a0_0, .int .i64 a0_1], .slice A1 l1.length c1] w fun e w' => ∃ v0_ : Value, e = .returned (.tuple #[v0_, .bool r2]) ∧ Kd.R k103 103 w' w.heap.size (fun _ => True) v0_ r1 ∧ Below w.heap.size w w' := by
 have hu29 := Try.underlying29
 have hu31 := Try.underlying31
 have hu103 := Try.underlying103
 have HR1 := Aside0.mk hr1
 have HC1 := Aside0.mk hc1
 clear hr1 hc1
 have HB := Aside0.mk (Below.refl w.heap.size w)
 have H : ((word_May.f a0_0 a0_1).bind fun t122 => (if t122 = true then (lay_places.j0 k l1 ([] : List (S103)) (decide ((l1.length : Int) > 30)) a0_0 a0_1) else (lay_places.j0 k l1 ([] : List (S103)) true a0_0 a0_1))) = some (r1, r2) := h
 clear h
 have HC3 := Aside0.mk H
 clear H
 go_enter Try.func51, Try.ntmps51
 go_upto_region 1 with (first | ((with_reducible refine gate_dst (N := 2) rfl ?_); (try (refine gate_guard (by rfl) ?_; dsimp only)); refine zbox (N := 2) (cs := #[.bool a0_0, .int .i64 a0_1]) (t := 29) ?_; intro gb121 hg w4 hbox hb; have n0_ := Aside0.mk (below_step (zw0 HB.out) hb); have BK121 := Aside0.mk (hbox); have GW121 := Aside0.mk (zg hg (below_size (zw0 HB.out))); have GE121 := GW121; clear HB; have HB := n0_; clear n0_; clear hb hbox hg))
 (try simp only [Act.put, List.setIfInBounds_toArray, List.set_cons_zero, List.set_cons_succ])
 go_cut [17] (fun v17 wc => ∃ (kq : Nat) (x17_2 : Bool), v17 = .bool x17_2 ∧ Aside0 (lay_places.j0 kq l1 ([] : List (S103)) x17_2 a0_0 a0_1 = some (r1, r2)) ∧ Aside0 (kq ≤ k) ∧ Aside0 (Kd.R k103 103 wc w.heap.size (fun _ => True) (.slice none 0 0) ([] : List (S103))) ∧ Aside0 (wc.heap[gb121]? = some (.cells #[.bool a0_0, .int .i64 a0_1] 29 (0, 0))) ∧ Aside0 (Below w.heap.size w wc))
 case first =>
  have H := HC3.out
  clear HC3
  replace H := Option.bind_eq_some_iff.mp H
  obtain ⟨t122, A50, H⟩ := H
  replace H : (if t122 = true then (lay_places.j0 k l1 ([] : List (S103)) (decide ((l1.length : Int) > 30)) a0_0 a0_1) else (lay_places.j0 k l1 ([] : List (S103)) true a0_0 a0_1)) = some (r1, r2) := H
  have A5 := Aside0.mk A50
  clear A50
  by_cases c6 : t122 = true
  ·subst c6
   have H1 : (lay_places.j0 k l1 ([] : List (S103)) (decide ((l1.length : Int) > 30)) a0_0 a0_1) = some (r1, r2) := by rw [if_pos rfl] at H; exact H
   clear H
   have H := H1
   clear H1
   have H' := Aside0.mk H
   clear H
   have hcz7_0 := zc BK121.out 0
   have hcz7_1 := zc BK121.out 1
   have hfz7_0 := blk_frozen BK121.out 0
   have hfz7_1 := blk_frozen BK121.out 1
   go_wp2_with (first | ((with_reducible refine gate_callee (f := 84) rfl ?_); refine zgo (some 11) Try.func84 #[.agg #[.bool a0_0, .int .i64 a0_1]] ?_; (with_reducible refine (word_May.calls a0_0 a0_1 true _ A5.out).mono ?_); rintro e w8 ⟨rfl, hb⟩; refine ⟨_, rfl, ?_⟩; have n0_ := Aside0.mk (zbb BK121.out hb); have n1_ := Aside0.mk (below_step (zw1 HB.out GE121.out) hb); clear BK121 HB; have BK121 := n0_; have HB := n1_; clear n0_ n1_; (try clear hb); (try clear hb2); (try clear hk); (try clear hi)))
   go_meet
   case rel => exact ⟨_, (decide ((l1.length : Int) > 30)), (zr), H', ⟨by first | omega | exact Nat.le_refl _⟩, ⟨by first | exact Kd.R_nil _ _ _ _ _ | exact Kd.N_nil _ _ _ _ _ | exact Kd.V_nil _ _ _ _ _ | exact Kd.Q_nil _ _ _ _ _ | exact Kd.S_nil _ _ _ _ _⟩, ⟨zb BK121.out⟩, ⟨zw1 HB.out GE121.out⟩⟩
  replace c6 := Bool.eq_false_iff.mpr c6
  subst c6
  have H1 : (lay_places.j0 k l1 ([] : List (S103)) true a0_0 a0_1) = some (r1, r2) := by rw [if_neg (show ¬ (false = true) by decide)] at H; exact H
  clear H
  have H := H1
  clear H1
  have H' := Aside0.mk H
  clear H
  have hcz9_0 := zc BK121.out 0
  have hcz9_1 := zc BK121.out 1
  have hfz9_0 := blk_frozen BK121.out 0
  have hfz9_1 := blk_frozen BK121.out 1
  go_wp2_with (first | ((with_reducible refine gate_callee (f := 84) rfl ?_); refine zgo (some 11) Try.func84 #[.agg #[.bool a0_0, .int .i64 a0_1]] ?_; (with_reducible refine (word_May.calls a0_0 a0_1 false _ A5.out).mono ?_); rintro e w10 ⟨rfl, hb⟩; refine ⟨_, rfl, ?_⟩; have n0_ := Aside0.mk (zbb BK121.out hb); have n1_ := Aside0.mk (below_step (zw1 HB.out GE121.out) hb); clear BK121 HB; have BK121 := n0_; have HB := n1_; clear n0_ n1_; (try clear hb); (try clear hb2); (try clear hk); (try clear hi)))
  go_meet
  case rel => exact ⟨_, (true), (zr), H', ⟨by first | omega | exact Nat.le_refl _⟩, ⟨by first | exact Kd.R_nil _ _ _ _ _ | exact Kd.N_nil _ _ _ _ _ | exact Kd.V_nil _ _ _ _ _ | exact Kd.Q_nil _ _ _ _ _ | exact Kd.S_nil _ _ _ _ _⟩, ⟨zb BK121.out⟩, ⟨zw1 HB.out GE121.out⟩⟩
 case rest =>
  clear HC3
  try clear c1; try clear p2; try clear c5; try clear c6; try clear c8
  obtain ⟨kq, x17_2, rfl, HA, HJ2, HO_4, BK121, HB⟩ := hcut
  cases kq with
  | zero => exact absurd HA.out (by simp [lay_places.j0])
  | succ kj2 =>
   have H := HA.out
   clear HA
   simp only [lay_places.j0] at H
   by_cases c11 : x17_2 = true
   ·subst c11
    have H1 : (some (([] : List (S103)), false)) = some (r1, r2) := by rw [if_pos rfl] at H; exact H
    clear H
    have H := H1
    clear H1
    simp only [Option.some.injEq, Prod.mk.injEq] at H
    obtain ⟨rfl, rfl⟩ := H
    go_wp2
    go_ret2
    exact ⟨_, ze, by first | exact Kd.R_nil _ _ _ _ _ | exact Kd.N_nil _ _ _ _ _ | exact Kd.V_nil _ _ _ _ _ | exact Kd.Q_nil _ _ _ _ _ | exact Kd.S_nil _ _ _ _ _, zw1 HB.out GE121.out⟩
   ·replace c11 := Bool.eq_false_iff.mpr c11
    subst c11
    have H1 : (lay_places.l0 kj2 ([] : List (S103)) l1 (l1.length : Int) 0 a0_0 a0_1) = some (r1, r2) := by rw [if_neg (show ¬ (false = true) by decide)] at H; exact H
    clear H
    have H := H1
    clear H1
    have H' := Aside0.mk H
    clear H
    go_wp2
    go_loopg [4, 20] kj2 (fun kq v4 v20 w' => ∃ (x4_2 : List (S103)) (x20_2 : Int), v20 = .int .i64 x20_2 ∧ Aside0 (lay_places.l0 kq x4_2 l1 (l1.length : Int) x20_2 a0_0 a0_1 = some (r1, r2)) ∧ Aside0 (kq ≤ kj2) ∧ Aside0 (Kd.R k103 103 w' w.heap.size (fun _ => True) v4 x4_2) ∧ Aside0 (w'.heap[gb121]? = some (.cells #[.bool a0_0, .int .i64 a0_1] 29 (0, 0))) ∧ Aside0 (Below w.heap.size w w'))
    case atStart => exact ⟨(([] : List (S103))), (0), (zr), H', ⟨Nat.le_refl _⟩, ⟨by (with_reducible repeat (first | apply Kd.R_alloc | apply Kd.R_drewN | apply Kd.R_drew)); exact HO_4.out⟩, ⟨zb BK121.out⟩, ⟨zw1 HB.out GE121.out⟩⟩
    case round =>
     clear H'
     try clear c1; try clear p2; try clear c5; try clear c6; try clear c8; try clear c11; try clear p2
     obtain ⟨x4_2, x20_2, rfl, HA, HK2, HO_4, BK121, HB⟩ := hrel
     cases gk with
     | zero => exact absurd HA.out (by simp [lay_places.l0])
     | succ k2 =>
      have H := HA.out
      clear HA
      simp only [lay_places.l0] at H
      by_cases c12 : x20_2 < (l1.length : Int)
      ·rw [if_pos c12] at H
       have c12b0 : decide (x20_2 < (l1.length : Int)) = true := decide_eq_true c12
       clear c12
       by_cases c13 : 0 ≤ x20_2
       rotate_left
       ·rw [if_neg c13] at H
        exact absurd H (by simp)
       rw [if_pos c13] at H
       have c13b0 : decide (0 ≤ x20_2) = true := decide_eq_true c13
       clear c13
       by_cases c14 : x20_2 < (l1.length : Int)
       rotate_left
       ·rw [if_neg c14] at H
        exact absurd H (by simp)
       rw [if_pos c14] at H
       have c14b0 : decide (x20_2 < (l1.length : Int)) = true := decide_eq_true c14
       clear c14
       replace H := Option.bind_eq_some_iff.mp H
       obtain ⟨t125, A150, H⟩ := H
       replace H : (if t125 = true then (if ((rd_T31 l1 x20_2).f0) = 8 then (if 0 ≤ ((rd_T31 l1 x20_2).f2) then (if ((rd_T31 l1 x20_2).f2) < (x4_2.length : Int) then (if (wrap64 (((rd_T31 l1 x20_2).f1) * ((rd_T103 x4_2 ((rd_T31 l1 x20_2).f2)).f0))) > 32 then (some (([] : List (S103)), false)) else (if (wrap64 (((rd_T31 l1 x20_2).f1) * ((rd_T103 x4_2 ((rd_T31 l1 x20_2).f2)).f2))) > 64 then (some (([] : List (S103)), false)) else (if x4_2.length < 5864062014805 then (lay_places.l0 k2 (x4_2 ++ [(⟨wrap64 (((rd_T31 l1 x20_2).f1) * ((rd_T103 x4_2 ((rd_T31 l1 x20_2).f2)).f0)), (rd_T103 x4_2 ((rd_T31 l1 x20_2).f2)).f1, wrap64 (((rd_T31 l1 x20_2).f1) * ((rd_T103 x4_2 ((rd_T31 l1 x20_2).f2)).f2))⟩ : S103)]) l1 (l1.length : Int) (wrap64 (x20_2 + 1)) a0_0 a0_1) else (none)))) else (none)) else (none)) else (if ((rd_T31 l1 x20_2).f0) = 9 then (lay_places.j2 k2 x4_2 l1 (l1.length : Int) x20_2 (((rd_T31 l1 x20_2).f0) == 9) a0_0 a0_1 ((rd_T31 l1 x20_2).f0) ((rd_T31 l1 x20_2).f1) ((rd_T31 l1 x20_2).f2) ((rd_T31 l1 x20_2).f3) ((rd_T31 l1 x20_2).f4)) else (lay_places.j2 k2 x4_2 l1 (l1.length : Int) x20_2 (((rd_T31 l1 x20_2).f0) == 10) a0_0 a0_1 ((rd_T31 l1 x20_2).f0) ((rd_T31 l1 x20_2).f1) ((rd_T31 l1 x20_2).f2) ((rd_T31 l1 x20_2).f3) ((rd_T31 l1 x20_2).f4)))) else (some (([] : List (S103)), false))) = some (r1, r2) := H
       have A15 := Aside0.mk A150
       clear A150
       by_cases c16 : t125 = true
       rotate_left
       ·replace c16 := Bool.eq_false_iff.mpr c16
        subst c16
        have H1 : (some (([] : List (S103)), false)) = some (r1, r2) := by rw [if_neg (show ¬ (false = true) by decide)] at H; exact H
        clear H
        have H := H1
        clear H1
        simp only [Option.some.injEq, Prod.mk.injEq] at H
        obtain ⟨rfl, rfl⟩ := H
        have p123 : 0 ≤ (x20_2 : Int) := zdec
        have q123 : x20_2 < (l1.length : Int) := zdec
        obtain ⟨ad123, A123_3, c123_3, A123_4, c123_4, e123, hx123_0, hx123_1, hx123_2, hx123_3, hx123_4, hl123_3, hi123_3, hl123_4, hi123_4⟩ := at_T31 HR1.out x20_2 p123 q123
        cases e123
        replace hx123_0 := zh HB.out hx123_0
        replace hx123_1 := zh HB.out hx123_1
        replace hx123_2 := zh HB.out hx123_2
        replace hx123_3 := zh HB.out hx123_3
        replace hx123_4 := zh HB.out hx123_4
        have HR123_3 := Aside0.mk hi123_3
        have HC123_3 := Aside0.mk hl123_3
        clear hi123_3 hl123_3
        have HR123_4 := Aside0.mk hi123_4
        have HC123_4 := Aside0.mk hl123_4
        clear hi123_4 hl123_4
        replace p123 := eq_true p123
        replace q123 := eq_true q123
        go_wp2_with (first | ((with_reducible refine gate_dst (N := 7) rfl ?_); (try (refine gate_guard (by rfl) ?_; dsimp only)); refine zbox (N := 7) (cs := #[.int .i64 0, .int .i64 0, .int .i64 0, .slice none 0 0, .slice none 0 0]) (t := 31) ?_; intro gb124 hg w128 hbox hb; have n0_ := Aside0.mk (Kd.R_below (by (with_reducible repeat (first | apply Kd.R_alloc | apply Kd.R_drewN | apply Kd.R_drew)); exact HO_4.out) hb); have n1_ := Aside0.mk (zbb BK121.out hb); have n2_ := Aside0.mk (below_step (zw1 HB.out GE121.out) hb); have BK124 := Aside0.mk (hbox); have GW124 := Aside0.mk (zg hg (below_size (zw1 HB.out GE121.out))); have GE124 := GW124; have NB121_124 := Aside0.mk (zlt hg BK121.out); have NB124_121 := Aside0.mk (zgt hg BK121.out); clear HO_4 BK121 HB; have HO_4 := n0_; have BK121 := n1_; have HB := n2_; clear n0_ n1_ n2_; clear hb hbox hg; have hnb129 := NB124_121.out; have hnc129 := NB121_124.out; have hcz130_0 := zc BK124.out 0; have hcz130_1 := zc BK124.out 1; have hcz130_2 := zc BK124.out 2; have hcz130_3 := zc BK124.out 3; have hcz130_4 := zc BK124.out 4; have hfz130_0 := blk_frozen BK124.out 0; have hfz130_1 := blk_frozen BK124.out 1; have hfz130_2 := blk_frozen BK124.out 2; have hfz130_3 := blk_frozen BK124.out 3; have hfz130_4 := blk_frozen BK124.out 4) | ((with_reducible refine gate_callee (f := 85) rfl ?_); refine zgo (some 27) Try.func85 #[.agg #[.int .i64 ((rd_T31 l1 x20_2).f0), .int .i64 ((rd_T31 l1 x20_2).f1), .int .i64 ((rd_T31 l1 x20_2).f2), .slice A123_3 ((rd_T31 l1 x20_2).f3).length c123_3, .slice A123_4 ((rd_T31 l1 x20_2).f4).length c123_4], .int .i64 x20_2] ?_; (with_reducible refine (lay_form.calls k2 ((rd_T31 l1 x20_2).f0) ((rd_T31 l1 x20_2).f1) ((rd_T31 l1 x20_2).f2) _ _ ((rd_T31 l1 x20_2).f3) _ _ ((rd_T31 l1 x20_2).f4) x20_2 false _ ?side1 ?side2 ?side3 ?side4 A15.out).mono ?_); (case side1 => exact Kd.C_below HR123_3.out (zw2 HB.out GE121.out GE124.out)); (case side2 => exact HC123_3.out); (case side3 => exact Kd.C_below HR123_4.out (zw2 HB.out GE121.out GE124.out)); (case side4 => exact HC123_4.out); rintro e w131 ⟨rfl, hb⟩; refine ⟨_, rfl, ?_⟩; have n0_ := Aside0.mk (Kd.R_below (by (with_reducible repeat (first | apply Kd.R_alloc | apply Kd.R_drewN | apply Kd.R_drew)); exact (Kd.R_mono (Kd.R_far (p := ⟨gb124, 4, none⟩) (Kd.R_far (p := ⟨gb124, 3, none⟩) (Kd.R_far (p := ⟨gb124, 2, none⟩) (Kd.R_far (p := ⟨gb124, 1, none⟩) (Kd.R_far (p := ⟨gb124, 0, none⟩) (Kd.R_types HO_4.out BK124.out (by decide)) (fun _ hk => hk.2) (.int .i64 ((rd_T31 l1 x20_2).f0))) (fun _ hk => hk.2) (.int .i64 ((rd_T31 l1 x20_2).f1))) (fun _ hk => hk.2) (.int .i64 ((rd_T31 l1 x20_2).f2))) (fun _ hk => hk.2) (.slice A123_3 ((rd_T31 l1 x20_2).f3).length c123_3)) (fun _ hk => hk.2) (.slice A123_4 ((rd_T31 l1 x20_2).f4).length c123_4)) (fun _ h_ => h_.1))) hb); have n1_ := Aside0.mk (blk_below (g := gb121) (o := .cells #[.bool a0_0, .int .i64 a0_1] 29 (0, 0)) (zf1 BK121.out NB121_124.out) hb); have n2_ := Aside0.mk (blk_below (g := gb124) (o := .cells #[.int .i64 ((rd_T31 l1 x20_2).f0), .int .i64 ((rd_T31 l1 x20_2).f1), .int .i64 ((rd_T31 l1 x20_2).f2), .slice A123_3 ((rd_T31 l1 x20_2).f3).length c123_3, .slice A123_4 ((rd_T31 l1 x20_2).f4).length c123_4] 31 (0, 0)) (by (with_reducible repeat (first | refine blk_drewN ?_ _ | refine blk_drew ?_ | refine blk_alloc ?_ _)); refine blk_put (cs := #[.int .i64 ((rd_T31 l1 x20_2).f0), .int .i64 ((rd_T31 l1 x20_2).f1), .int .i64 ((rd_T31 l1 x20_2).f2), .slice A123_3 ((rd_T31 l1 x20_2).f3).length c123_3, .slice none 0 0]) ?_ 4 _ rfl; (with_reducible repeat (first | refine blk_drewN ?_ _ | refine blk_drew ?_ | refine blk_alloc ?_ _)); refine blk_put (cs := #[.int .i64 ((rd_T31 l1 x20_2).f0), .int .i64 ((rd_T31 l1 x20_2).f1), .int .i64 ((rd_T31 l1 x20_2).f2), .slice none 0 0, .slice none 0 0]) ?_ 3 _ rfl; (with_reducible repeat (first | refine blk_drewN ?_ _ | refine blk_drew ?_ | refine blk_alloc ?_ _)); refine blk_put (cs := #[.int .i64 ((rd_T31 l1 x20_2).f0), .int .i64 ((rd_T31 l1 x20_2).f1), .int .i64 0, .slice none 0 0, .slice none 0 0]) ?_ 2 _ rfl; (with_reducible repeat (first | refine blk_drewN ?_ _ | refine blk_drew ?_ | refine blk_alloc ?_ _)); refine blk_put (cs := #[.int .i64 ((rd_T31 l1 x20_2).f0), .int .i64 0, .int .i64 0, .slice none 0 0, .slice none 0 0]) ?_ 1 _ rfl; (with_reducible repeat (first | refine blk_drewN ?_ _ | refine blk_drew ?_ | refine blk_alloc ?_ _)); refine blk_put (cs := #[.int .i64 0, .int .i64 0, .int .i64 0, .slice none 0 0, .slice none 0 0]) ?_ 0 _ rfl; (with_reducible repeat (first | refine blk_drewN ?_ _ | refine blk_drew ?_ | refine blk_alloc ?_ _)); exact BK124.out) hb); have n3_ := Aside0.mk (below_step (zw2 HB.out GE121.out GE124.out) hb); clear HO_4 BK121 BK124 HB; have HO_4 := n0_; have BK121 := n1_; have BK124 := n2_; have HB := n3_; clear n0_ n1_ n2_ n3_; (try clear hb); (try clear hb2); (try clear hk); (try clear hi)))
        go_ret2
        exact ⟨_, ze, by first | exact Kd.R_nil _ _ _ _ _ | exact Kd.N_nil _ _ _ _ _ | exact Kd.V_nil _ _ _ _ _ | exact Kd.Q_nil _ _ _ _ _ | exact Kd.S_nil _ _ _ _ _, zw2 HB.out GE121.out GE124.out⟩
       subst c16
       have H1 : (if ((rd_T31 l1 x20_2).f0) = 8 then (if 0 ≤ ((rd_T31 l1 x20_2).f2) then (if ((rd_T31 l1 x20_2).f2) < (x4_2.length : Int) then (if (wrap64 (((rd_T31 l1 x20_2).f1) * ((rd_T103 x4_2 ((rd_T31 l1 x20_2).f2)).f0))) > 32 then (some (([] : List (S103)), false)) else (if (wrap64 (((rd_T31 l1 x20_2).f1) * ((rd_T103 x4_2 ((rd_T31 l1 x20_2).f2)).f2))) > 64 then (some (([] : List (S103)), false)) else (if x4_2.length < 5864062014805 then (lay_places.l0 k2 (x4_2 ++ [(⟨wrap64 (((rd_T31 l1 x20_2).f1) * ((rd_T103 x4_2 ((rd_T31 l1 x20_2).f2)).f0)), (rd_T103 x4_2 ((rd_T31 l1 x20_2).f2)).f1, wrap64 (((rd_T31 l1 x20_2).f1) * ((rd_T103 x4_2 ((rd_T31 l1 x20_2).f2)).f2))⟩ : S103)]) l1 (l1.length : Int) (wrap64 (x20_2 + 1)) a0_0 a0_1) else (none)))) else (none)) else (none)) else (if ((rd_T31 l1 x20_2).f0) = 9 then (lay_places.j2 k2 x4_2 l1 (l1.length : Int) x20_2 (((rd_T31 l1 x20_2).f0) == 9) a0_0 a0_1 ((rd_T31 l1 x20_2).f0) ((rd_T31 l1 x20_2).f1) ((rd_T31 l1 x20_2).f2) ((rd_T31 l1 x20_2).f3) ((rd_T31 l1 x20_2).f4)) else (lay_places.j2 k2 x4_2 l1 (l1.length : Int) x20_2 (((rd_T31 l1 x20_2).f0) == 10) a0_0 a0_1 ((rd_T31 l1 x20_2).f0) ((rd_T31 l1 x20_2).f1) ((rd_T31 l1 x20_2).f2) ((rd_T31 l1 x20_2).f3) ((rd_T31 l1 x20_2).f4)))) = some (r1, r2) := by rw [if_pos rfl] at H; exact H
       clear H
       have H := H1
       clear H1
       by_cases c17 : ((rd_T31 l1 x20_2).f0) = 8
       rotate_left
       ·rw [if_neg c17] at H
        have c17b0 : (((rd_T31 l1 x20_2).f0) == 8) = false := beq_eq_false_iff_ne.mpr c17
        have c17b1 : (((rd_T31 l1 x20_2).f0) != 8) = true := bne_iff_ne.mpr c17
        have HC66 := Aside0.mk H
        clear H
        have p123 : 0 ≤ (x20_2 : Int) := zdec
        have q123 : x20_2 < (l1.length : Int) := zdec
        obtain ⟨ad123, A123_3, c123_3, A123_4, c123_4, e123, hx123_0, hx123_1, hx123_2, hx123_3, hx123_4, hl123_3, hi123_3, hl123_4, hi123_4⟩ := at_T31 HR1.out x20_2 p123 q123
        cases e123
        replace hx123_0 := zh HB.out hx123_0
        replace hx123_1 := zh HB.out hx123_1
        replace hx123_2 := zh HB.out hx123_2
        replace hx123_3 := zh HB.out hx123_3
        replace hx123_4 := zh HB.out hx123_4
        have HR123_3 := Aside0.mk hi123_3
        have HC123_3 := Aside0.mk hl123_3
        clear hi123_3 hl123_3
        have HR123_4 := Aside0.mk hi123_4
        have HC123_4 := Aside0.mk hl123_4
        clear hi123_4 hl123_4
        replace p123 := eq_true p123
        replace q123 := eq_true q123
        go_upto_if 65 with (first | ((with_reducible refine gate_dst (N := 7) rfl ?_); (try (refine gate_guard (by rfl) ?_; dsimp only)); refine zbox (N := 7) (cs := #[.int .i64 0, .int .i64 0, .int .i64 0, .slice none 0 0, .slice none 0 0]) (t := 31) ?_; intro gb124 hg w67 hbox hb; have n0_ := Aside0.mk (Kd.R_below (by (with_reducible repeat (first | apply Kd.R_alloc | apply Kd.R_drewN | apply Kd.R_drew)); exact HO_4.out) hb); have n1_ := Aside0.mk (zbb BK121.out hb); have n2_ := Aside0.mk (below_step (zw1 HB.out GE121.out) hb); have BK124 := Aside0.mk (hbox); have GW124 := Aside0.mk (zg hg (below_size (zw1 HB.out GE121.out))); have GE124 := GW124; have NB121_124 := Aside0.mk (zlt hg BK121.out); have NB124_121 := Aside0.mk (zgt hg BK121.out); clear HO_4 BK121 HB; have HO_4 := n0_; have BK121 := n1_; have HB := n2_; clear n0_ n1_ n2_; clear hb hbox hg; have hnb68 := NB124_121.out; have hnc68 := NB121_124.out; have hcz69_0 := zc BK124.out 0; have hcz69_1 := zc BK124.out 1; have hcz69_2 := zc BK124.out 2; have hcz69_3 := zc BK124.out 3; have hcz69_4 := zc BK124.out 4; have hfz69_0 := blk_frozen BK124.out 0; have hfz69_1 := blk_frozen BK124.out 1; have hfz69_2 := blk_frozen BK124.out 2; have hfz69_3 := blk_frozen BK124.out 3; have hfz69_4 := blk_frozen BK124.out 4) | ((with_reducible refine gate_callee (f := 85) rfl ?_); refine zgo (some 27) Try.func85 #[.agg #[.int .i64 ((rd_T31 l1 x20_2).f0), .int .i64 ((rd_T31 l1 x20_2).f1), .int .i64 ((rd_T31 l1 x20_2).f2), .slice A123_3 ((rd_T31 l1 x20_2).f3).length c123_3, .slice A123_4 ((rd_T31 l1 x20_2).f4).length c123_4], .int .i64 x20_2] ?_; (with_reducible refine (lay_form.calls k2 ((rd_T31 l1 x20_2).f0) ((rd_T31 l1 x20_2).f1) ((rd_T31 l1 x20_2).f2) _ _ ((rd_T31 l1 x20_2).f3) _ _ ((rd_T31 l1 x20_2).f4) x20_2 true _ ?side1 ?side2 ?side3 ?side4 A15.out).mono ?_); (case side1 => exact Kd.C_below HR123_3.out (zw2 HB.out GE121.out GE124.out)); (case side2 => exact HC123_3.out); (case side3 => exact Kd.C_below HR123_4.out (zw2 HB.out GE121.out GE124.out)); (case side4 => exact HC123_4.out); rintro e w70 ⟨rfl, hb⟩; refine ⟨_, rfl, ?_⟩; have n0_ := Aside0.mk (Kd.R_below (by (with_reducible repeat (first | apply Kd.R_alloc | apply Kd.R_drewN | apply Kd.R_drew)); exact (Kd.R_mono (Kd.R_far (p := ⟨gb124, 4, none⟩) (Kd.R_far (p := ⟨gb124, 3, none⟩) (Kd.R_far (p := ⟨gb124, 2, none⟩) (Kd.R_far (p := ⟨gb124, 1, none⟩) (Kd.R_far (p := ⟨gb124, 0, none⟩) (Kd.R_types HO_4.out BK124.out (by decide)) (fun _ hk => hk.2) (.int .i64 ((rd_T31 l1 x20_2).f0))) (fun _ hk => hk.2) (.int .i64 ((rd_T31 l1 x20_2).f1))) (fun _ hk => hk.2) (.int .i64 ((rd_T31 l1 x20_2).f2))) (fun _ hk => hk.2) (.slice A123_3 ((rd_T31 l1 x20_2).f3).length c123_3)) (fun _ hk => hk.2) (.slice A123_4 ((rd_T31 l1 x20_2).f4).length c123_4)) (fun _ h_ => h_.1))) hb); have n1_ := Aside0.mk (blk_below (g := gb121) (o := .cells #[.bool a0_0, .int .i64 a0_1] 29 (0, 0)) (zf1 BK121.out NB121_124.out) hb); have n2_ := Aside0.mk (blk_below (g := gb124) (o := .cells #[.int .i64 ((rd_T31 l1 x20_2).f0), .int .i64 ((rd_T31 l1 x20_2).f1), .int .i64 ((rd_T31 l1 x20_2).f2), .slice A123_3 ((rd_T31 l1 x20_2).f3).length c123_3, .slice A123_4 ((rd_T31 l1 x20_2).f4).length c123_4] 31 (0, 0)) (by (with_reducible repeat (first | refine blk_drewN ?_ _ | refine blk_drew ?_ | refine blk_alloc ?_ _)); refine blk_put (cs := #[.int .i64 ((rd_T31 l1 x20_2).f0), .int .i64 ((rd_T31 l1 x20_2).f1), .int .i64 ((rd_T31 l1 x20_2).f2), .slice A123_3 ((rd_T31 l1 x20_2).f3).length c123_3, .slice none 0 0]) ?_ 4 _ rfl; (with_reducible repeat (first | refine blk_drewN ?_ _ | refine blk_drew ?_ | refine blk_alloc ?_ _)); refine blk_put (cs := #[.int .i64 ((rd_T31 l1 x20_2).f0), .int .i64 ((rd_T31 l1 x20_2).f1), .int .i64 ((rd_T31 l1 x20_2).f2), .slice none 0 0, .slice none 0 0]) ?_ 3 _ rfl; (with_reducible repeat (first | refine blk_drewN ?_ _ | refine blk_drew ?_ | refine blk_alloc ?_ _)); refine blk_put (cs := #[.int .i64 ((rd_T31 l1 x20_2).f0), .int .i64 ((rd_T31 l1 x20_2).f1), .int .i64 0, .slice none 0 0, .slice none 0 0]) ?_ 2 _ rfl; (with_reducible repeat (first | refine blk_drewN ?_ _ | refine blk_drew ?_ | refine blk_alloc ?_ _)); refine blk_put (cs := #[.int .i64 ((rd_T31 l1 x20_2).f0), .int .i64 0, .int .i64 0, .slice none 0 0, .slice none 0 0]) ?_ 1 _ rfl; (with_reducible repeat (first | refine blk_drewN ?_ _ | refine blk_drew ?_ | refine blk_alloc ?_ _)); refine blk_put (cs := #[.int .i64 0, .int .i64 0, .int .i64 0, .slice none 0 0, .slice none 0 0]) ?_ 0 _ rfl; (with_reducible repeat (first | refine blk_drewN ?_ _ | refine blk_drew ?_ | refine blk_alloc ?_ _)); exact BK124.out) hb); have n3_ := Aside0.mk (below_step (zw2 HB.out GE121.out GE124.out) hb); clear HO_4 BK121 BK124 HB; have HO_4 := n0_; have BK121 := n1_; have BK124 := n2_; have HB := n3_; clear n0_ n1_ n2_ n3_; (try clear hb); (try clear hb2); (try clear hk); (try clear hi)) | ((with_reducible refine gate_dst (N := 8) rfl ?_); (try (refine gate_guard (by rfl) ?_; dsimp only)); refine zbox (N := 8) (cs := #[.int .i64 0, .int .i64 0, .int .i64 0]) (t := 103) ?_; intro gb126 hg w71 hbox hb; have n0_ := Aside0.mk (Kd.R_below (Kd.R_elderB (by (with_reducible repeat (first | apply Kd.R_alloc | apply Kd.R_drewN | apply Kd.R_drew)); exact HO_4.out) gb126 (Nat.le_of_eq hg.symm)) hb); have n1_ := Aside0.mk (zbb BK121.out hb); have n2_ := Aside0.mk (zbb BK124.out hb); have n3_ := Aside0.mk (below_step (zw2 HB.out GE121.out GE124.out) hb); have BK126 := Aside0.mk (hbox); have GW126 := Aside0.mk (zg hg (below_size (zw2 HB.out GE121.out GE124.out))); have GE126 := GW126; have NB121_126 := Aside0.mk (zlt hg BK121.out); have NB126_121 := Aside0.mk (zgt hg BK121.out); have NB124_126 := Aside0.mk (zlt hg BK124.out); have NB126_124 := Aside0.mk (zgt hg BK124.out); clear HO_4 BK121 BK124 HB; have HO_4 := n0_; have BK121 := n1_; have BK124 := n2_; have HB := n3_; clear n0_ n1_ n2_ n3_; clear hb hbox hg; have hnb72 := NB124_126.out; have hnc72 := NB126_124.out; have hcz73_0 := zc BK124.out 0; have hcz73_1 := zc BK124.out 1; have hcz73_2 := zc BK124.out 2; have hcz73_3 := zc BK124.out 3; have hcz73_4 := zc BK124.out 4; have hfz73_0 := blk_frozen BK124.out 0; have hfz73_1 := blk_frozen BK124.out 1; have hfz73_2 := blk_frozen BK124.out 2; have hfz73_3 := blk_frozen BK124.out 3; have hfz73_4 := blk_frozen BK124.out 4))
        (try simp only [Act.put, List.setIfInBounds_toArray, List.set_cons_zero, List.set_cons_succ])
        go_cut [65] (fun v65 wc => ∃ (kq : Nat) (x65_65 : Bool), v65 = .bool x65_65 ∧ Aside0 (lay_places.j2 kq x4_2 l1 (l1.length : Int) x20_2 x65_65 a0_0 a0_1 ((rd_T31 l1 x20_2).f0) ((rd_T31 l1 x20_2).f1) ((rd_T31 l1 x20_2).f2) ((rd_T31 l1 x20_2).f3) ((rd_T31 l1 x20_2).f4) = some (r1, r2)) ∧ Aside0 (kq ≤ k2) ∧ Aside0 (Kd.R k103 103 wc w.heap.size (fun k_ => k_ ≠ gb126) u4 x4_2) ∧ Aside0 (wc.heap[gb121]? = some (.cells #[.bool a0_0, .int .i64 a0_1] 29 (0, 0))) ∧ Aside0 (wc.heap[gb124]? = some (.cells #[.int .i64 ((rd_T31 l1 x20_2).f0), .int .i64 ((rd_T31 l1 x20_2).f1), .int .i64 ((rd_T31 l1 x20_2).f2), (.slice A123_3 ((rd_T31 l1 x20_2).f3).length c123_3), (.slice A123_4 ((rd_T31 l1 x20_2).f4).length c123_4)] 31 (0, 0))) ∧ Aside0 (wc.heap[gb126]? = some (.cells #[.int .i64 0, .int .i64 0, .int .i64 0] 103 (0, 0))) ∧ Aside0 (Below w.heap.size w wc))
        case first =>
         have H := HC66.out
         clear HC66
         by_cases c74 : ((rd_T31 l1 x20_2).f0) = 9
         rotate_left
         ·rw [if_neg c74] at H
          have c74b0 : (((rd_T31 l1 x20_2).f0) == 9) = false := beq_eq_false_iff_ne.mpr c74
          have c74b1 : (((rd_T31 l1 x20_2).f0) != 9) = true := bne_iff_ne.mpr c74
          (first | rw [c74b0] | (simp only [i64_w, i32_w]; rw [c74b0]) | skip)
          have H' := Aside0.mk H
          clear H
          go_wp2
          go_meet
          case rel => exact ⟨_, ((((rd_T31 l1 x20_2).f0) == 10)), (zr), H', ⟨by have := HJ2.out; have := HK2.out; first | omega | exact Nat.le_refl _⟩, ⟨by (with_reducible repeat (first | apply Kd.R_alloc | apply Kd.R_drewN | apply Kd.R_drew)); exact Kd.R_mono HO_4.out (fun _ hk => hk.2)⟩, ⟨zb BK121.out⟩, ⟨zb BK124.out⟩, ⟨zb BK126.out⟩, ⟨zw3 HB.out GE121.out GE124.out GE126.out⟩⟩
         rw [if_pos c74] at H
         have c74b0 : (((rd_T31 l1 x20_2).f0) == 9) = true := beq_iff_eq.mpr c74
         have c74b1 : (((rd_T31 l1 x20_2).f0) != 9) = false := bne_eq_false_iff_eq.mpr c74
         clear c74
         (first | rw [c74b0] | (simp only [i64_w, i32_w]; rw [c74b0]) | skip)
         have H' := Aside0.mk H
         clear H
         go_wp2
         go_meet
         case rel => exact ⟨_, ((((rd_T31 l1 x20_2).f0) == 9)), (zr), H', ⟨by have := HJ2.out; have := HK2.out; first | omega | exact Nat.le_refl _⟩, ⟨by (with_reducible repeat (first | apply Kd.R_alloc | apply Kd.R_drewN | apply Kd.R_drew)); exact Kd.R_mono HO_4.out (fun _ hk => hk.2)⟩, ⟨zb BK121.out⟩, ⟨zb BK124.out⟩, ⟨zb BK126.out⟩, ⟨zw3 HB.out GE121.out GE124.out GE126.out⟩⟩
        case rest =>
         clear HC66
         try clear c1; try clear p1; try clear q1; try clear p2; try clear c3; try clear c4; try clear c5; try clear c6; try clear p6; try clear c7; try clear c8; try clear c12; try clear p12; try clear q12; try clear c17; try clear c17b0; try clear c17b1; try clear c18; try clear c19; try clear c35; try clear c35b0; try clear c48; try clear c50; try clear c52; try clear c56; try clear c63; try clear p64; try clear c68; try clear c72; try clear c74; try clear c74b0; try clear c74b1; try clear p123; try clear p127; try clear p128; try clear p129; try clear q123; try clear q127; try clear q128; try clear q129
         obtain ⟨kq, x65_65, rfl, HA, HJ65, HO_4, BK121, BK124, BK126, HB⟩ := hcut
         cases kq with
         | zero => exact absurd HA.out (by simp [lay_places.j2])
         | succ kj65 =>
          have H := HA.out
          clear HA
          simp only [lay_places.j2] at H
          by_cases c75 : x65_65 = true
          rotate_left
          ·replace c75 := Bool.eq_false_iff.mpr c75
           subst c75
           have H1 : ((word_Bytes.f a0_0 a0_1 ((rd_T31 l1 x20_2).f0)).bind fun t142 => (if t142 > 32 then (some (([] : List (S103)), false)) else (if 1 > 64 then (some (([] : List (S103)), false)) else (if x4_2.length < 5864062014805 then (lay_places.l0 kj65 (x4_2 ++ [(⟨t142, t142, 1⟩ : S103)]) l1 (l1.length : Int) (wrap64 (x20_2 + 1)) a0_0 a0_1) else (none))))) = some (r1, r2) := by rw [if_neg (show ¬ (false = true) by decide)] at H; exact H
           clear H
           have H := H1
           clear H1
           replace H := Option.bind_eq_some_iff.mp H
           obtain ⟨t142, A1020, H⟩ := H
           replace H : (if t142 > 32 then (some (([] : List (S103)), false)) else (if 1 > 64 then (some (([] : List (S103)), false)) else (if x4_2.length < 5864062014805 then (lay_places.l0 kj65 (x4_2 ++ [(⟨t142, t142, 1⟩ : S103)]) l1 (l1.length : Int) (wrap64 (x20_2 + 1)) a0_0 a0_1) else (none)))) = some (r1, r2) := H
           have A102 := Aside0.mk A1020
           clear A1020
           by_cases c103 : t142 > 32
           ·rw [if_pos c103] at H
            have c103b0 : decide (32 < t142) = true := decide_eq_true c103
            clear c103
            simp only [Option.some.injEq, Prod.mk.injEq] at H
            obtain ⟨rfl, rfl⟩ := H
            have hnb104 := NB121_124.out
            have hnc104 := NB124_121.out
            have hnb105 := NB121_126.out
            have hnc105 := NB126_121.out
            have hcz106_0 := zc BK121.out 0
            have hcz106_1 := zc BK121.out 1
            have hfz106_0 := blk_frozen BK121.out 0
            have hfz106_1 := blk_frozen BK121.out 1
            have hnb107 := NB124_126.out
            have hnc107 := NB126_124.out
            have hcz108_0 := zc BK124.out 0
            have hcz108_1 := zc BK124.out 1
            have hcz108_2 := zc BK124.out 2
            have hcz108_3 := zc BK124.out 3
            have hcz108_4 := zc BK124.out 4
            have hfz108_0 := blk_frozen BK124.out 0
            have hfz108_1 := blk_frozen BK124.out 1
            have hfz108_2 := blk_frozen BK124.out 2
            have hfz108_3 := blk_frozen BK124.out 3
            have hfz108_4 := blk_frozen BK124.out 4
            go_wp2_with (first | ((with_reducible refine gate_callee (f := 86) rfl ?_); refine zgo (some 34) Try.func86 #[.agg #[.bool a0_0, .int .i64 a0_1], .int .i64 ((rd_T31 l1 x20_2).f0)] ?_; (with_reducible refine (word_Bytes.calls a0_0 a0_1 ((rd_T31 l1 x20_2).f0) t142 _ A102.out).mono ?_); rintro e w109 ⟨rfl, hb⟩; refine ⟨_, rfl, ?_⟩; have n0_ := Aside0.mk (Kd.R_below (by (with_reducible repeat (first | apply Kd.R_alloc | apply Kd.R_drewN | apply Kd.R_drew)); exact HO_4.out) hb); have n1_ := Aside0.mk (zbb BK121.out hb); have n2_ := Aside0.mk (zbb BK124.out hb); have n3_ := Aside0.mk (zbb BK126.out hb); have n4_ := Aside0.mk (below_step (zw3 HB.out GE121.out GE124.out GE126.out) hb); clear HO_4 BK121 BK124 BK126 HB; have HO_4 := n0_; have BK121 := n1_; have BK124 := n2_; have BK126 := n3_; have HB := n4_; clear n0_ n1_ n2_ n3_ n4_; (try clear hb); (try clear hb2); (try clear hk); (try clear hi); have hcz110_0 := zc BK126.out 0; have hcz110_1 := zc BK126.out 1; have hcz110_2 := zc BK126.out 2; have hfz110_0 := blk_frozen BK126.out 0; have hfz110_1 := blk_frozen BK126.out 1; have hfz110_2 := blk_frozen BK126.out 2))
            go_ret2
            exact ⟨_, ze, by first | exact Kd.R_nil _ _ _ _ _ | exact Kd.N_nil _ _ _ _ _ | exact Kd.V_nil _ _ _ _ _ | exact Kd.Q_nil _ _ _ _ _ | exact Kd.S_nil _ _ _ _ _, zw3 HB.out GE121.out GE124.out GE126.out⟩
           rw [if_neg c103] at H
           have c103b0 : decide (32 < t142) = false := decide_eq_false c103
           clear c103
           by_cases c111 : 1 > 64
           ·exact absurd c111 (by decide)
           rw [if_neg c111] at H
           have c111b0 : decide (64 < 1) = false := decide_eq_false c111
           clear c111
           by_cases c119 : x4_2.length < 5864062014805
           rotate_left
           ·rw [if_neg c119] at H
            exact absurd H (by simp)
           rw [if_pos c119] at H
           have LMc119 := Aside0.mk c119
           clear c119
           obtain ⟨y143, hy143⟩ : ∃ y_ : List (S103), y_ = (x4_2 ++ [(⟨t142, t142, 1⟩ : S103)]) := ⟨_, rfl⟩
           replace H : (lay_places.l0 kj65 y143 l1 (l1.length : Int) (wrap64 (x20_2 + 1)) a0_0 a0_1) = some (r1, r2) := by first | (rw [hy143]; with_reducible exact H) | (have H2_ := (Option.bind_some _ _).symm.trans H; rw [hy143]; with_reducible exact H2_) | (have H2_ := (Option.bind_some _ _).symm.trans H; with_reducible exact H2_) | with_reducible exact H | (rw [hy143]; exact H) | exact H
           have Ny143 := Aside0.mk hy143
           clear hy143
           have H' := Aside0.mk H
           clear H
           have hnb120 := NB121_124.out
           have hnc120 := NB124_121.out
           have hnb121 := NB121_126.out
           have hnc121 := NB126_121.out
           have hcz122_0 := zc BK121.out 0
           have hcz122_1 := zc BK121.out 1
           have hfz122_0 := blk_frozen BK121.out 0
           have hfz122_1 := blk_frozen BK121.out 1
           have hnb123 := NB124_126.out
           have hnc123 := NB126_124.out
           have hcz124_0 := zc BK124.out 0
           have hcz124_1 := zc BK124.out 1
           have hcz124_2 := zc BK124.out 2
           have hcz124_3 := zc BK124.out 3
           have hcz124_4 := zc BK124.out 4
           have hfz124_0 := blk_frozen BK124.out 0
           have hfz124_1 := blk_frozen BK124.out 1
           have hfz124_2 := blk_frozen BK124.out 2
           have hfz124_3 := blk_frozen BK124.out 3
           have hfz124_4 := blk_frozen BK124.out 4
           go_wp2_with (first | ((with_reducible refine gate_callee (f := 86) rfl ?_); refine zgo (some 34) Try.func86 #[.agg #[.bool a0_0, .int .i64 a0_1], .int .i64 ((rd_T31 l1 x20_2).f0)] ?_; (with_reducible refine (word_Bytes.calls a0_0 a0_1 ((rd_T31 l1 x20_2).f0) t142 _ A102.out).mono ?_); rintro e w125 ⟨rfl, hb⟩; refine ⟨_, rfl, ?_⟩; have n0_ := Aside0.mk (Kd.R_below (by (with_reducible repeat (first | apply Kd.R_alloc | apply Kd.R_drewN | apply Kd.R_drew)); exact HO_4.out) hb); have n1_ := Aside0.mk (zbb BK121.out hb); have n2_ := Aside0.mk (zbb BK124.out hb); have n3_ := Aside0.mk (zbb BK126.out hb); have n4_ := Aside0.mk (below_step (zw3 HB.out GE121.out GE124.out GE126.out) hb); clear HO_4 BK121 BK124 BK126 HB; have HO_4 := n0_; have BK121 := n1_; have BK124 := n2_; have BK126 := n3_; have HB := n4_; clear n0_ n1_ n2_ n3_ n4_; (try clear hb); (try clear hb2); (try clear hk); (try clear hi); have hcz126_0 := zc BK126.out 0; have hcz126_1 := zc BK126.out 1; have hcz126_2 := zc BK126.out 2; have hfz126_0 := blk_frozen BK126.out 0; have hfz126_1 := blk_frozen BK126.out 1; have hfz126_2 := blk_frozen BK126.out 2) | ((with_reducible refine gate_builtin (b := .append) (xs := #[.tmp 82, .tmp 84]) rfl ?_); (try (refine gate_guard (by rfl) ?_; dsimp only)); at_builtin; refine Kd.R_append k103 (w0 := w) w.heap.size rfl (.tmp 82) (.tmp 84) 91 103 (.agg #[(.int .i64 0), (.int .i64 0), (.int .i64 0)]) 24 rfl Try.underlying91 info103 rfl (by decide) (by omega) u4 x4_2 (⟨t142, t142, 1⟩ : S103) [.int .i64 t142, .int .i64 t142, .int .i64 1] (fun k_ => k_ ≠ gb126) (fun _ => False) rfl (by first | (go_simp; done) | (go_simp; rfl)) ?aP (fun _ hk => hk.elim) ?aF ?aO ?aB ?aS ?aL ?_; (case aP => exact k103_mkM _ _ _ (⟨t142, t142, 1⟩ : S103)); (case aB => exact (zw3 HB.out GE121.out GE124.out GE126.out)); (case aF => exact (fun k_ hk => (by first | exact Kd.freshB (g := gb126) (o := .cells #[.int .i64 t142, .int .i64 t142, .int .i64 1] 103 (0, 0)) (by (with_reducible repeat (first | refine blk_drewN ?_ _ | refine blk_drew ?_ | refine blk_alloc ?_ _)); refine blk_put (cs := #[.int .i64 t142, .int .i64 t142, .int .i64 0]) ?_ 2 _ rfl; (with_reducible repeat (first | refine blk_drewN ?_ _ | refine blk_drew ?_ | refine blk_alloc ?_ _)); refine blk_put (cs := #[.int .i64 t142, .int .i64 0, .int .i64 0]) ?_ 1 _ rfl; (with_reducible repeat (first | refine blk_drewN ?_ _ | refine blk_drew ?_ | refine blk_alloc ?_ _)); refine blk_put (cs := #[.int .i64 0, .int .i64 0, .int .i64 0]) ?_ 0 _ rfl; (with_reducible repeat (first | refine blk_drewN ?_ _ | refine blk_drew ?_ | refine blk_alloc ?_ _)); exact BK126.out) k_ hk | exact Kd.freshB BK126.out k_ hk))); (case aO => exact (by (with_reducible repeat (first | apply Kd.R_alloc | apply Kd.R_drewN | apply Kd.R_drew)); exact Kd.R_mono (Kd.R_far (p := ⟨gb126, 2, none⟩) (Kd.R_far (p := ⟨gb126, 1, none⟩) (Kd.R_far (p := ⟨gb126, 0, none⟩) (Kd.R_mono HO_4.out (fun k_ hk => (⟨hk, hk⟩ : _ ∧ k_ ≠ gb126))) (fun _ hk => hk.2) (.int .i64 t142)) (fun _ hk => hk.2) (.int .i64 t142)) (fun _ hk => hk.2) (.int .i64 1)) (fun _ hk => hk.1))); (case aS => exact (below_size (zw3 HB.out GE121.out GE124.out GE126.out))); (case aL => have := LMc119.out; omega); intro v144 w127 ho hb hg hat; rw [← Ny143.out] at ho; have n0_ := Aside0.mk (blk_grown (g := gb121) (o := .cells #[.bool a0_0, .int .i64 a0_1] 29 (0, 0)) (zf1 BK121.out NB121_126.out) hg (Kd.R_ne HO_4.out BK121.out (by decide))); have n1_ := Aside0.mk (blk_grown (g := gb124) (o := .cells #[.int .i64 ((rd_T31 l1 x20_2).f0), .int .i64 ((rd_T31 l1 x20_2).f1), .int .i64 ((rd_T31 l1 x20_2).f2), .slice A123_3 ((rd_T31 l1 x20_2).f3).length c123_3, .slice A123_4 ((rd_T31 l1 x20_2).f4).length c123_4] 31 (0, 0)) (zf1 BK124.out NB124_126.out) hg (Kd.R_ne HO_4.out BK124.out (by decide))); have n2_ := Aside0.mk (blk_grown (g := gb126) (o := .cells #[.int .i64 t142, .int .i64 t142, .int .i64 1] 103 (0, 0)) (by (with_reducible repeat (first | refine blk_drewN ?_ _ | refine blk_drew ?_ | refine blk_alloc ?_ _)); refine blk_put (cs := #[.int .i64 t142, .int .i64 t142, .int .i64 0]) ?_ 2 _ rfl; (with_reducible repeat (first | refine blk_drewN ?_ _ | refine blk_drew ?_ | refine blk_alloc ?_ _)); refine blk_put (cs := #[.int .i64 t142, .int .i64 0, .int .i64 0]) ?_ 1 _ rfl; (with_reducible repeat (first | refine blk_drewN ?_ _ | refine blk_drew ?_ | refine blk_alloc ?_ _)); refine blk_put (cs := #[.int .i64 0, .int .i64 0, .int .i64 0]) ?_ 0 _ rfl; (with_reducible repeat (first | refine blk_drewN ?_ _ | refine blk_drew ?_ | refine blk_alloc ?_ _)); exact BK126.out) hg (Kd.R_away HO_4.out (fun _ hk => hk))); have n3_ := Aside0.mk (hb); have HO145 := Aside0.mk (ho); clear BK121 BK124 BK126 HB HO_4; have BK121 := n0_; have BK124 := n1_; have BK126 := n2_; have HB := n3_; clear n0_ n1_ n2_ n3_; clear ho hb hg hat))
           go_roundg kj65
           case measure => have := HJ2.out; have := HK2.out; have := HJ65.out; omega
           case rel => exact ⟨(y143), (wrap64 (x20_2 + 1)), (zr), H', ⟨by have := HJ2.out; have := HK2.out; have := HJ65.out; omega⟩, ⟨by (with_reducible repeat (first | apply Kd.R_alloc | apply Kd.R_drewN | apply Kd.R_drew)); exact Kd.R_mono HO145.out (fun _ hk => trivial)⟩, ⟨zb BK121.out⟩, ⟨zw3 HB.out GE121.out GE124.out GE126.out⟩⟩
          subst c75
          have H1 : ((lay_offsets.f kj65 ((rd_T31 l1 x20_2).f0) ((rd_T31 l1 x20_2).f1) ((rd_T31 l1 x20_2).f2) ((rd_T31 l1 x20_2).f3) ((rd_T31 l1 x20_2).f4) x4_2).bind fun bt133 => (if bt133.2.1 > 32 then (some (([] : List (S103)), false)) else (if bt133.2.2.2 > 64 then (some (([] : List (S103)), false)) else (if x4_2.length < 5864062014805 then (lay_places.l0 kj65 (x4_2 ++ [(⟨bt133.2.1, bt133.2.2.1, bt133.2.2.2⟩ : S103)]) l1 (l1.length : Int) (wrap64 (x20_2 + 1)) a0_0 a0_1) else (none))))) = some (r1, r2) := by rw [if_pos rfl] at H; exact H
          clear H
          have H := H1
          clear H1
          replace H := Option.bind_eq_some_iff.mp H
          obtain ⟨⟨t133, t136, t137, t138⟩, A760, H⟩ := H
          replace H : (if t136 > 32 then (some (([] : List (S103)), false)) else (if t138 > 64 then (some (([] : List (S103)), false)) else (if x4_2.length < 5864062014805 then (lay_places.l0 kj65 (x4_2 ++ [(⟨t136, t137, t138⟩ : S103)]) l1 (l1.length : Int) (wrap64 (x20_2 + 1)) a0_0 a0_1) else (none)))) = some (r1, r2) := H
          have A76 := Aside0.mk A760
          clear A760
          by_cases c77 : t136 > 32
          ·rw [if_pos c77] at H
           have c77b0 : decide (32 < t136) = true := decide_eq_true c77
           clear c77
           simp only [Option.some.injEq, Prod.mk.injEq] at H
           obtain ⟨rfl, rfl⟩ := H
           have hnb78 := NB124_121.out
           have hnc78 := NB121_124.out
           have hnb79 := NB124_126.out
           have hnc79 := NB126_124.out
           have hcz80_0 := zc BK124.out 0
           have hcz80_1 := zc BK124.out 1
           have hcz80_2 := zc BK124.out 2
           have hcz80_3 := zc BK124.out 3
           have hcz80_4 := zc BK124.out 4
           have hfz80_0 := blk_frozen BK124.out 0
           have hfz80_1 := blk_frozen BK124.out 1
           have hfz80_2 := blk_frozen BK124.out 2
           have hfz80_3 := blk_frozen BK124.out 3
           have hfz80_4 := blk_frozen BK124.out 4
           obtain ⟨Ao81, co81, eo81⟩ := Kd.R_slice HO_4.out
           subst eo81
           go_wp2_with (first | ((with_reducible refine gate_callee (f := 59) rfl ?_); refine zgo (some 71) Try.func59 #[.agg #[.int .i64 ((rd_T31 l1 x20_2).f0), .int .i64 ((rd_T31 l1 x20_2).f1), .int .i64 ((rd_T31 l1 x20_2).f2), .slice A123_3 ((rd_T31 l1 x20_2).f3).length c123_3, .slice A123_4 ((rd_T31 l1 x20_2).f4).length c123_4], .slice Ao81 x4_2.length co81] ?_; (with_reducible refine (lay_offsets.calls kj65 ((rd_T31 l1 x20_2).f0) ((rd_T31 l1 x20_2).f1) ((rd_T31 l1 x20_2).f2) _ _ ((rd_T31 l1 x20_2).f3) _ _ ((rd_T31 l1 x20_2).f4) _ _ x4_2 t133 t136 t137 t138 _ ?side1 ?side2 ?side3 ?side4 ?side5 ?side6 A76.out).mono ?_); (case side1 => repeat (first | exact (Kd.C_below HR123_3.out HB.out) | (with_reducible refine Kd.C_alloc ?_ _) | (with_reducible refine Kd.C_drewN ?_ _) | (with_reducible refine Kd.C_drew ?_))); (case side2 => exact HC123_3.out); (case side3 => repeat (first | exact (Kd.C_below HR123_4.out HB.out) | (with_reducible refine Kd.C_alloc ?_ _) | (with_reducible refine Kd.C_drewN ?_ _) | (with_reducible refine Kd.C_drew ?_))); (case side4 => exact HC123_4.out); (case side5 => repeat (first | exact (Kd.R_reads' HO_4.out).2.2 | (with_reducible refine Kd.C_alloc ?_ _) | (with_reducible refine Kd.C_drewN ?_ _) | (with_reducible refine Kd.C_drew ?_))); (case side6 => exact (Kd.R_reads' HO_4.out).2.1); rintro e w82 ⟨v134, rfl, ho0, hb⟩; refine ⟨_, rfl, ?_⟩; have n0_ := Aside0.mk (Kd.R_below (by (with_reducible repeat (first | apply Kd.R_alloc | apply Kd.R_drewN | apply Kd.R_drew)); exact HO_4.out) hb); have HO135 := Aside0.mk (Kd.R_lower ho0 (below_size (zw3 HB.out GE121.out GE124.out GE126.out))); have n2_ := Aside0.mk (zbb BK121.out hb); have n3_ := Aside0.mk (zbb BK124.out hb); have n4_ := Aside0.mk (zbb BK126.out hb); have n5_ := Aside0.mk (below_step (zw3 HB.out GE121.out GE124.out GE126.out) hb); clear HO_4 BK121 BK124 BK126 HB; have HO_4 := n0_; have BK121 := n2_; have BK124 := n3_; have BK126 := n4_; have HB := n5_; clear n0_ n2_ n3_ n4_ n5_; (try clear hb); (try clear hb2); (try clear hk); (try clear hi); (try clear ho0); have hnb83 := NB126_121.out; have hnc83 := NB121_126.out; have hcz84_0 := zc BK126.out 0; have hcz84_1 := zc BK126.out 1; have hcz84_2 := zc BK126.out 2; have hfz84_0 := blk_frozen BK126.out 0; have hfz84_1 := blk_frozen BK126.out 1; have hfz84_2 := blk_frozen BK126.out 2))
           go_ret2
           exact ⟨_, ze, by first | exact Kd.R_nil _ _ _ _ _ | exact Kd.N_nil _ _ _ _ _ | exact Kd.V_nil _ _ _ _ _ | exact Kd.Q_nil _ _ _ _ _ | exact Kd.S_nil _ _ _ _ _, zw3 HB.out GE121.out GE124.out GE126.out⟩
          rw [if_neg c77] at H
          have c77b0 : decide (32 < t136) = false := decide_eq_false c77
          clear c77
          by_cases c85 : t138 > 64
          ·rw [if_pos c85] at H
           have c85b0 : decide (64 < t138) = true := decide_eq_true c85
           clear c85
           simp only [Option.some.injEq, Prod.mk.injEq] at H
           obtain ⟨rfl, rfl⟩ := H
           have hnb86 := NB124_121.out
           have hnc86 := NB121_124.out
           have hnb87 := NB124_126.out
           have hnc87 := NB126_124.out
           have hcz88_0 := zc BK124.out 0
           have hcz88_1 := zc BK124.out 1
           have hcz88_2 := zc BK124.out 2
           have hcz88_3 := zc BK124.out 3
           have hcz88_4 := zc BK124.out 4
           have hfz88_0 := blk_frozen BK124.out 0
           have hfz88_1 := blk_frozen BK124.out 1
           have hfz88_2 := blk_frozen BK124.out 2
           have hfz88_3 := blk_frozen BK124.out 3
           have hfz88_4 := blk_frozen BK124.out 4
           obtain ⟨Ao89, co89, eo89⟩ := Kd.R_slice HO_4.out
           subst eo89
           go_wp2_with (first | ((with_reducible refine gate_callee (f := 59) rfl ?_); refine zgo (some 71) Try.func59 #[.agg #[.int .i64 ((rd_T31 l1 x20_2).f0), .int .i64 ((rd_T31 l1 x20_2).f1), .int .i64 ((rd_T31 l1 x20_2).f2), .slice A123_3 ((rd_T31 l1 x20_2).f3).length c123_3, .slice A123_4 ((rd_T31 l1 x20_2).f4).length c123_4], .slice Ao89 x4_2.length co89] ?_; (with_reducible refine (lay_offsets.calls kj65 ((rd_T31 l1 x20_2).f0) ((rd_T31 l1 x20_2).f1) ((rd_T31 l1 x20_2).f2) _ _ ((rd_T31 l1 x20_2).f3) _ _ ((rd_T31 l1 x20_2).f4) _ _ x4_2 t133 t136 t137 t138 _ ?side1 ?side2 ?side3 ?side4 ?side5 ?side6 A76.out).mono ?_); (case side1 => repeat (first | exact (Kd.C_below HR123_3.out HB.out) | (with_reducible refine Kd.C_alloc ?_ _) | (with_reducible refine Kd.C_drewN ?_ _) | (with_reducible refine Kd.C_drew ?_))); (case side2 => exact HC123_3.out); (case side3 => repeat (first | exact (Kd.C_below HR123_4.out HB.out) | (with_reducible refine Kd.C_alloc ?_ _) | (with_reducible refine Kd.C_drewN ?_ _) | (with_reducible refine Kd.C_drew ?_))); (case side4 => exact HC123_4.out); (case side5 => repeat (first | exact (Kd.R_reads' HO_4.out).2.2 | (with_reducible refine Kd.C_alloc ?_ _) | (with_reducible refine Kd.C_drewN ?_ _) | (with_reducible refine Kd.C_drew ?_))); (case side6 => exact (Kd.R_reads' HO_4.out).2.1); rintro e w90 ⟨v134, rfl, ho0, hb⟩; refine ⟨_, rfl, ?_⟩; have n0_ := Aside0.mk (Kd.R_below (by (with_reducible repeat (first | apply Kd.R_alloc | apply Kd.R_drewN | apply Kd.R_drew)); exact HO_4.out) hb); have HO135 := Aside0.mk (Kd.R_lower ho0 (below_size (zw3 HB.out GE121.out GE124.out GE126.out))); have n2_ := Aside0.mk (zbb BK121.out hb); have n3_ := Aside0.mk (zbb BK124.out hb); have n4_ := Aside0.mk (zbb BK126.out hb); have n5_ := Aside0.mk (below_step (zw3 HB.out GE121.out GE124.out GE126.out) hb); clear HO_4 BK121 BK124 BK126 HB; have HO_4 := n0_; have BK121 := n2_; have BK124 := n3_; have BK126 := n4_; have HB := n5_; clear n0_ n2_ n3_ n4_ n5_; (try clear hb); (try clear hb2); (try clear hk); (try clear hi); (try clear ho0); have hnb91 := NB126_121.out; have hnc91 := NB121_126.out; have hcz92_0 := zc BK126.out 0; have hcz92_1 := zc BK126.out 1; have hcz92_2 := zc BK126.out 2; have hfz92_0 := blk_frozen BK126.out 0; have hfz92_1 := blk_frozen BK126.out 1; have hfz92_2 := blk_frozen BK126.out 2))
           go_ret2
           exact ⟨_, ze, by first | exact Kd.R_nil _ _ _ _ _ | exact Kd.N_nil _ _ _ _ _ | exact Kd.V_nil _ _ _ _ _ | exact Kd.Q_nil _ _ _ _ _ | exact Kd.S_nil _ _ _ _ _, zw3 HB.out GE121.out GE124.out GE126.out⟩
          rw [if_neg c85] at H
          have c85b0 : decide (64 < t138) = false := decide_eq_false c85
          clear c85
          by_cases c93 : x4_2.length < 5864062014805
          rotate_left
          ·rw [if_neg c93] at H
           exact absurd H (by simp)
          rw [if_pos c93] at H
          have LMc93 := Aside0.mk c93
          clear c93
          obtain ⟨y139, hy139⟩ : ∃ y_ : List (S103), y_ = (x4_2 ++ [(⟨t136, t137, t138⟩ : S103)]) := ⟨_, rfl⟩
          replace H : (lay_places.l0 kj65 y139 l1 (l1.length : Int) (wrap64 (x20_2 + 1)) a0_0 a0_1) = some (r1, r2) := by first | (rw [hy139]; with_reducible exact H) | (have H2_ := (Option.bind_some _ _).symm.trans H; rw [hy139]; with_reducible exact H2_) | (have H2_ := (Option.bind_some _ _).symm.trans H; with_reducible exact H2_) | with_reducible exact H | (rw [hy139]; exact H) | exact H
          have Ny139 := Aside0.mk hy139
          clear hy139
          have H' := Aside0.mk H
          clear H
          have hnb94 := NB124_121.out
          have hnc94 := NB121_124.out
          have hnb95 := NB124_126.out
          have hnc95 := NB126_124.out
          have hcz96_0 := zc BK124.out 0
          have hcz96_1 := zc BK124.out 1
          have hcz96_2 := zc BK124.out 2
          have hcz96_3 := zc BK124.out 3
          have hcz96_4 := zc BK124.out 4
          have hfz96_0 := blk_frozen BK124.out 0
          have hfz96_1 := blk_frozen BK124.out 1
          have hfz96_2 := blk_frozen BK124.out 2
          have hfz96_3 := blk_frozen BK124.out 3
          have hfz96_4 := blk_frozen BK124.out 4
          obtain ⟨Ao97, co97, eo97⟩ := Kd.R_slice HO_4.out
          subst eo97
          go_wp2_with (first | ((with_reducible refine gate_callee (f := 59) rfl ?_); refine zgo (some 71) Try.func59 #[.agg #[.int .i64 ((rd_T31 l1 x20_2).f0), .int .i64 ((rd_T31 l1 x20_2).f1), .int .i64 ((rd_T31 l1 x20_2).f2), .slice A123_3 ((rd_T31 l1 x20_2).f3).length c123_3, .slice A123_4 ((rd_T31 l1 x20_2).f4).length c123_4], .slice Ao97 x4_2.length co97] ?_; (with_reducible refine (lay_offsets.calls kj65 ((rd_T31 l1 x20_2).f0) ((rd_T31 l1 x20_2).f1) ((rd_T31 l1 x20_2).f2) _ _ ((rd_T31 l1 x20_2).f3) _ _ ((rd_T31 l1 x20_2).f4) _ _ x4_2 t133 t136 t137 t138 _ ?side1 ?side2 ?side3 ?side4 ?side5 ?side6 A76.out).mono ?_); (case side1 => repeat (first | exact (Kd.C_below HR123_3.out HB.out) | (with_reducible refine Kd.C_alloc ?_ _) | (with_reducible refine Kd.C_drewN ?_ _) | (with_reducible refine Kd.C_drew ?_))); (case side2 => exact HC123_3.out); (case side3 => repeat (first | exact (Kd.C_below HR123_4.out HB.out) | (with_reducible refine Kd.C_alloc ?_ _) | (with_reducible refine Kd.C_drewN ?_ _) | (with_reducible refine Kd.C_drew ?_))); (case side4 => exact HC123_4.out); (case side5 => repeat (first | exact (Kd.R_reads' HO_4.out).2.2 | (with_reducible refine Kd.C_alloc ?_ _) | (with_reducible refine Kd.C_drewN ?_ _) | (with_reducible refine Kd.C_drew ?_))); (case side6 => exact (Kd.R_reads' HO_4.out).2.1); rintro e w98 ⟨v134, rfl, ho0, hb⟩; refine ⟨_, rfl, ?_⟩; have n0_ := Aside0.mk (Kd.R_below (by (with_reducible repeat (first | apply Kd.R_alloc | apply Kd.R_drewN | apply Kd.R_drew)); exact HO_4.out) hb); have HO135 := Aside0.mk (Kd.R_lower ho0 (below_size (zw3 HB.out GE121.out GE124.out GE126.out))); have n2_ := Aside0.mk (zbb BK121.out hb); have n3_ := Aside0.mk (zbb BK124.out hb); have n4_ := Aside0.mk (zbb BK126.out hb); have n5_ := Aside0.mk (below_step (zw3 HB.out GE121.out GE124.out GE126.out) hb); clear HO_4 BK121 BK124 BK126 HB; have HO_4 := n0_; have BK121 := n2_; have BK124 := n3_; have BK126 := n4_; have HB := n5_; clear n0_ n2_ n3_ n4_ n5_; (try clear hb); (try clear hb2); (try clear hk); (try clear hi); (try clear ho0); have hnb99 := NB126_121.out; have hnc99 := NB121_126.out; have hcz100_0 := zc BK126.out 0; have hcz100_1 := zc BK126.out 1; have hcz100_2 := zc BK126.out 2; have hfz100_0 := blk_frozen BK126.out 0; have hfz100_1 := blk_frozen BK126.out 1; have hfz100_2 := blk_frozen BK126.out 2) | ((with_reducible refine gate_builtin (b := .append) (xs := #[.tmp 82, .tmp 84]) rfl ?_); (try (refine gate_guard (by rfl) ?_; dsimp only)); at_builtin; refine Kd.R_append k103 (w0 := w) w.heap.size rfl (.tmp 82) (.tmp 84) 91 103 (.agg #[(.int .i64 0), (.int .i64 0), (.int .i64 0)]) 24 rfl Try.underlying91 info103 rfl (by decide) (by omega) (.slice Ao97 x4_2.length co97) x4_2 (⟨t136, t137, t138⟩ : S103) [.int .i64 t136, .int .i64 t137, .int .i64 t138] (fun k_ => k_ ≠ gb126) (fun _ => False) rfl (by first | (go_simp; done) | (go_simp; rfl)) ?aP (fun _ hk => hk.elim) ?aF ?aO ?aB ?aS ?aL ?_; (case aP => exact k103_mkM _ _ _ (⟨t136, t137, t138⟩ : S103)); (case aB => exact (zw3 HB.out GE121.out GE124.out GE126.out)); (case aF => exact (fun k_ hk => (by first | exact Kd.freshB (g := gb126) (o := .cells #[.int .i64 t136, .int .i64 t137, .int .i64 t138] 103 (0, 0)) (by (with_reducible repeat (first | refine blk_drewN ?_ _ | refine blk_drew ?_ | refine blk_alloc ?_ _)); refine blk_put (cs := #[.int .i64 t136, .int .i64 t137, .int .i64 0]) ?_ 2 _ rfl; (with_reducible repeat (first | refine blk_drewN ?_ _ | refine blk_drew ?_ | refine blk_alloc ?_ _)); refine blk_put (cs := #[.int .i64 t136, .int .i64 0, .int .i64 0]) ?_ 1 _ rfl; (with_reducible repeat (first | refine blk_drewN ?_ _ | refine blk_drew ?_ | refine blk_alloc ?_ _)); refine blk_put (cs := #[.int .i64 0, .int .i64 0, .int .i64 0]) ?_ 0 _ rfl; (with_reducible repeat (first | refine blk_drewN ?_ _ | refine blk_drew ?_ | refine blk_alloc ?_ _)); exact BK126.out) k_ hk | exact Kd.freshB BK126.out k_ hk))); (case aO => exact (by (with_reducible repeat (first | apply Kd.R_alloc | apply Kd.R_drewN | apply Kd.R_drew)); exact Kd.R_mono (Kd.R_far (p := ⟨gb126, 2, none⟩) (Kd.R_far (p := ⟨gb126, 1, none⟩) (Kd.R_far (p := ⟨gb126, 0, none⟩) (Kd.R_mono HO_4.out (fun k_ hk => (⟨hk, hk⟩ : _ ∧ k_ ≠ gb126))) (fun _ hk => hk.2) (.int .i64 t136)) (fun _ hk => hk.2) (.int .i64 t137)) (fun _ hk => hk.2) (.int .i64 t138)) (fun _ hk => hk.1))); (case aS => exact (below_size (zw3 HB.out GE121.out GE124.out GE126.out))); (case aL => have := LMc93.out; omega); intro v140 w101 ho hb hg hat; rw [← Ny139.out] at ho; have n0_ := Aside0.mk (blk_grown (g := gb121) (o := .cells #[.bool a0_0, .int .i64 a0_1] 29 (0, 0)) (zf1 BK121.out NB121_126.out) hg (Kd.R_ne HO_4.out BK121.out (by decide))); have n1_ := Aside0.mk (blk_grown (g := gb124) (o := .cells #[.int .i64 ((rd_T31 l1 x20_2).f0), .int .i64 ((rd_T31 l1 x20_2).f1), .int .i64 ((rd_T31 l1 x20_2).f2), .slice A123_3 ((rd_T31 l1 x20_2).f3).length c123_3, .slice A123_4 ((rd_T31 l1 x20_2).f4).length c123_4] 31 (0, 0)) (zf1 BK124.out NB124_126.out) hg (Kd.R_ne HO_4.out BK124.out (by decide))); have n2_ := Aside0.mk (blk_grown (g := gb126) (o := .cells #[.int .i64 t136, .int .i64 t137, .int .i64 t138] 103 (0, 0)) (by (with_reducible repeat (first | refine blk_drewN ?_ _ | refine blk_drew ?_ | refine blk_alloc ?_ _)); refine blk_put (cs := #[.int .i64 t136, .int .i64 t137, .int .i64 0]) ?_ 2 _ rfl; (with_reducible repeat (first | refine blk_drewN ?_ _ | refine blk_drew ?_ | refine blk_alloc ?_ _)); refine blk_put (cs := #[.int .i64 t136, .int .i64 0, .int .i64 0]) ?_ 1 _ rfl; (with_reducible repeat (first | refine blk_drewN ?_ _ | refine blk_drew ?_ | refine blk_alloc ?_ _)); refine blk_put (cs := #[.int .i64 0, .int .i64 0, .int .i64 0]) ?_ 0 _ rfl; (with_reducible repeat (first | refine blk_drewN ?_ _ | refine blk_drew ?_ | refine blk_alloc ?_ _)); exact BK126.out) hg (Kd.R_away HO_4.out (fun _ hk => hk))); have n3_ := Aside0.mk (Kd.R_over' (by (with_reducible repeat (first | apply Kd.R_alloc | apply Kd.R_drewN | apply Kd.R_drew)); exact (Kd.R_mono (Kd.R_far (p := ⟨gb126, 2, none⟩) (Kd.R_far (p := ⟨gb126, 1, none⟩) (Kd.R_far (p := ⟨gb126, 0, none⟩) (Kd.R_types HO135.out BK126.out (by decide)) (fun _ hk => hk.2) (.int .i64 t136)) (fun _ hk => hk.2) (.int .i64 t137)) (fun _ hk => hk.2) (.int .i64 t138)) (fun _ h_ => h_.1))) (Kd.R_typed (by (with_reducible repeat (first | apply Kd.R_alloc | apply Kd.R_drewN | apply Kd.R_drew)); exact (Kd.R_mono (Kd.R_far (p := ⟨gb126, 2, none⟩) (Kd.R_far (p := ⟨gb126, 1, none⟩) (Kd.R_far (p := ⟨gb126, 0, none⟩) (Kd.R_mono HO_4.out (fun k_ hk => (⟨hk, hk⟩ : _ ∧ k_ ≠ gb126))) (fun _ hk => hk.2) (.int .i64 t136)) (fun _ hk => hk.2) (.int .i64 t137)) (fun _ hk => hk.2) (.int .i64 t138)) (fun _ h_ => h_.1)))) (by decide) hg); have n4_ := Aside0.mk (hb); have HO141 := Aside0.mk (ho); clear BK121 BK124 BK126 HO135 HB HO_4; have BK121 := n0_; have BK124 := n1_; have BK126 := n2_; have HO135 := n3_; have HB := n4_; clear n0_ n1_ n2_ n3_ n4_; clear ho hb hg hat))
          go_roundg kj65
          case measure => have := HJ2.out; have := HK2.out; have := HJ65.out; omega
          case rel => exact ⟨(y139), (wrap64 (x20_2 + 1)), (zr), H', ⟨by have := HJ2.out; have := HK2.out; have := HJ65.out; omega⟩, ⟨by (with_reducible repeat (first | apply Kd.R_alloc | apply Kd.R_drewN | apply Kd.R_drew)); exact Kd.R_mono HO141.out (fun _ hk => trivial)⟩, ⟨zb BK121.out⟩, ⟨zw3 HB.out GE121.out GE124.out GE126.out⟩⟩
       rw [if_pos c17] at H
       have c17b0 : (((rd_T31 l1 x20_2).f0) == 8) = true := beq_iff_eq.mpr c17
       have c17b1 : (((rd_T31 l1 x20_2).f0) != 8) = false := bne_eq_false_iff_eq.mpr c17
       clear c17
       by_cases c18 : 0 ≤ ((rd_T31 l1 x20_2).f2)
       rotate_left
       ·rw [if_neg c18] at H
        exact absurd H (by simp)
       rw [if_pos c18] at H
       have c18b0 : decide (0 ≤ ((rd_T31 l1 x20_2).f2)) = true := decide_eq_true c18
       clear c18
       by_cases c19 : ((rd_T31 l1 x20_2).f2) < (x4_2.length : Int)
       rotate_left
       ·rw [if_neg c19] at H
        exact absurd H (by simp)
       rw [if_pos c19] at H
       have c19b0 : decide (((rd_T31 l1 x20_2).f2) < (x4_2.length : Int)) = true := decide_eq_true c19
       clear c19
       by_cases c20 : (wrap64 (((rd_T31 l1 x20_2).f1) * ((rd_T103 x4_2 ((rd_T31 l1 x20_2).f2)).f0))) > 32
       ·rw [if_pos c20] at H
        have c20b0 : decide (32 < (wrap64 (((rd_T31 l1 x20_2).f1) * ((rd_T103 x4_2 ((rd_T31 l1 x20_2).f2)).f0)))) = true := decide_eq_true c20
        clear c20
        simp only [Option.some.injEq, Prod.mk.injEq] at H
        obtain ⟨rfl, rfl⟩ := H
        have p123 : 0 ≤ (x20_2 : Int) := zdec
        have q123 : x20_2 < (l1.length : Int) := zdec
        obtain ⟨ad123, A123_3, c123_3, A123_4, c123_4, e123, hx123_0, hx123_1, hx123_2, hx123_3, hx123_4, hl123_3, hi123_3, hl123_4, hi123_4⟩ := at_T31 HR1.out x20_2 p123 q123
        cases e123
        replace hx123_0 := zh HB.out hx123_0
        replace hx123_1 := zh HB.out hx123_1
        replace hx123_2 := zh HB.out hx123_2
        replace hx123_3 := zh HB.out hx123_3
        replace hx123_4 := zh HB.out hx123_4
        have HR123_3 := Aside0.mk hi123_3
        have HC123_3 := Aside0.mk hl123_3
        clear hi123_3 hl123_3
        have HR123_4 := Aside0.mk hi123_4
        have HC123_4 := Aside0.mk hl123_4
        clear hi123_4 hl123_4
        replace p123 := eq_true p123
        replace q123 := eq_true q123
        try go_wp2_with (first | ((with_reducible refine gate_dst (N := 7) rfl ?_); (try (refine gate_guard (by rfl) ?_; dsimp only)); refine zbox (N := 7) (cs := #[.int .i64 0, .int .i64 0, .int .i64 0, .slice none 0 0, .slice none 0 0]) (t := 31) ?_; intro gb124 hg w21 hbox hb; have n0_ := Aside0.mk (Kd.R_below (by (with_reducible repeat (first | apply Kd.R_alloc | apply Kd.R_drewN | apply Kd.R_drew)); exact HO_4.out) hb); have n1_ := Aside0.mk (zbb BK121.out hb); have n2_ := Aside0.mk (below_step (zw1 HB.out GE121.out) hb); have BK124 := Aside0.mk (hbox); have GW124 := Aside0.mk (zg hg (below_size (zw1 HB.out GE121.out))); have GE124 := GW124; have NB121_124 := Aside0.mk (zlt hg BK121.out); have NB124_121 := Aside0.mk (zgt hg BK121.out); clear HO_4 BK121 HB; have HO_4 := n0_; have BK121 := n1_; have HB := n2_; clear n0_ n1_ n2_; clear hb hbox hg; have hnb22 := NB124_121.out; have hnc22 := NB121_124.out; have hcz23_0 := zc BK124.out 0; have hcz23_1 := zc BK124.out 1; have hcz23_2 := zc BK124.out 2; have hcz23_3 := zc BK124.out 3; have hcz23_4 := zc BK124.out 4; have hfz23_0 := blk_frozen BK124.out 0; have hfz23_1 := blk_frozen BK124.out 1; have hfz23_2 := blk_frozen BK124.out 2; have hfz23_3 := blk_frozen BK124.out 3; have hfz23_4 := blk_frozen BK124.out 4) | ((with_reducible refine gate_callee (f := 85) rfl ?_); refine zgo (some 27) Try.func85 #[.agg #[.int .i64 ((rd_T31 l1 x20_2).f0), .int .i64 ((rd_T31 l1 x20_2).f1), .int .i64 ((rd_T31 l1 x20_2).f2), .slice A123_3 ((rd_T31 l1 x20_2).f3).length c123_3, .slice A123_4 ((rd_T31 l1 x20_2).f4).length c123_4], .int .i64 x20_2] ?_; (with_reducible refine (lay_form.calls k2 ((rd_T31 l1 x20_2).f0) ((rd_T31 l1 x20_2).f1) ((rd_T31 l1 x20_2).f2) _ _ ((rd_T31 l1 x20_2).f3) _ _ ((rd_T31 l1 x20_2).f4) x20_2 true _ ?side1 ?side2 ?side3 ?side4 A15.out).mono ?_); (case side1 => exact Kd.C_below HR123_3.out (zw2 HB.out GE121.out GE124.out)); (case side2 => exact HC123_3.out); (case side3 => exact Kd.C_below HR123_4.out (zw2 HB.out GE121.out GE124.out)); (case side4 => exact HC123_4.out); rintro e w24 ⟨rfl, hb⟩; refine ⟨_, rfl, ?_⟩; have n0_ := Aside0.mk (Kd.R_below (by (with_reducible repeat (first | apply Kd.R_alloc | apply Kd.R_drewN | apply Kd.R_drew)); exact (Kd.R_mono (Kd.R_far (p := ⟨gb124, 4, none⟩) (Kd.R_far (p := ⟨gb124, 3, none⟩) (Kd.R_far (p := ⟨gb124, 2, none⟩) (Kd.R_far (p := ⟨gb124, 1, none⟩) (Kd.R_far (p := ⟨gb124, 0, none⟩) (Kd.R_types HO_4.out BK124.out (by decide)) (fun _ hk => hk.2) (.int .i64 ((rd_T31 l1 x20_2).f0))) (fun _ hk => hk.2) (.int .i64 ((rd_T31 l1 x20_2).f1))) (fun _ hk => hk.2) (.int .i64 ((rd_T31 l1 x20_2).f2))) (fun _ hk => hk.2) (.slice A123_3 ((rd_T31 l1 x20_2).f3).length c123_3)) (fun _ hk => hk.2) (.slice A123_4 ((rd_T31 l1 x20_2).f4).length c123_4)) (fun _ h_ => h_.1))) hb); have n1_ := Aside0.mk (blk_below (g := gb121) (o := .cells #[.bool a0_0, .int .i64 a0_1] 29 (0, 0)) (zf1 BK121.out NB121_124.out) hb); have n2_ := Aside0.mk (blk_below (g := gb124) (o := .cells #[.int .i64 ((rd_T31 l1 x20_2).f0), .int .i64 ((rd_T31 l1 x20_2).f1), .int .i64 ((rd_T31 l1 x20_2).f2), .slice A123_3 ((rd_T31 l1 x20_2).f3).length c123_3, .slice A123_4 ((rd_T31 l1 x20_2).f4).length c123_4] 31 (0, 0)) (by (with_reducible repeat (first | refine blk_drewN ?_ _ | refine blk_drew ?_ | refine blk_alloc ?_ _)); refine blk_put (cs := #[.int .i64 ((rd_T31 l1 x20_2).f0), .int .i64 ((rd_T31 l1 x20_2).f1), .int .i64 ((rd_T31 l1 x20_2).f2), .slice A123_3 ((rd_T31 l1 x20_2).f3).length c123_3, .slice none 0 0]) ?_ 4 _ rfl; (with_reducible repeat (first | refine blk_drewN ?_ _ | refine blk_drew ?_ | refine blk_alloc ?_ _)); refine blk_put (cs := #[.int .i64 ((rd_T31 l1 x20_2).f0), .int .i64 ((rd_T31 l1 x20_2).f1), .int .i64 ((rd_T31 l1 x20_2).f2), .slice none 0 0, .slice none 0 0]) ?_ 3 _ rfl; (with_reducible repeat (first | refine blk_drewN ?_ _ | refine blk_drew ?_ | refine blk_alloc ?_ _)); refine blk_put (cs := #[.int .i64 ((rd_T31 l1 x20_2).f0), .int .i64 ((rd_T31 l1 x20_2).f1), .int .i64 0, .slice none 0 0, .slice none 0 0]) ?_ 2 _ rfl; (with_reducible repeat (first | refine blk_drewN ?_ _ | refine blk_drew ?_ | refine blk_alloc ?_ _)); refine blk_put (cs := #[.int .i64 ((rd_T31 l1 x20_2).f0), .int .i64 0, .int .i64 0, .slice none 0 0, .slice none 0 0]) ?_ 1 _ rfl; (with_reducible repeat (first | refine blk_drewN ?_ _ | refine blk_drew ?_ | refine blk_alloc ?_ _)); refine blk_put (cs := #[.int .i64 0, .int .i64 0, .int .i64 0, .slice none 0 0, .slice none 0 0]) ?_ 0 _ rfl; (with_reducible repeat (first | refine blk_drewN ?_ _ | refine blk_drew ?_ | refine blk_alloc ?_ _)); exact BK124.out) hb); have n3_ := Aside0.mk (below_step (zw2 HB.out GE121.out GE124.out) hb); clear HO_4 BK121 BK124 HB; have HO_4 := n0_; have BK121 := n1_; have BK124 := n2_; have HB := n3_; clear n0_ n1_ n2_ n3_; (try clear hb); (try clear hb2); (try clear hk); (try clear hi)) | ((with_reducible refine gate_dst (N := 8) rfl ?_); (try (refine gate_guard (by rfl) ?_; dsimp only)); refine zbox (N := 8) (cs := #[.int .i64 0, .int .i64 0, .int .i64 0]) (t := 103) ?_; intro gb126 hg w25 hbox hb; have n0_ := Aside0.mk (Kd.R_below (Kd.R_elderB (by (with_reducible repeat (first | apply Kd.R_alloc | apply Kd.R_drewN | apply Kd.R_drew)); exact HO_4.out) gb126 (Nat.le_of_eq hg.symm)) hb); have n1_ := Aside0.mk (zbb BK121.out hb); have n2_ := Aside0.mk (zbb BK124.out hb); have n3_ := Aside0.mk (below_step (zw2 HB.out GE121.out GE124.out) hb); have BK126 := Aside0.mk (hbox); have GW126 := Aside0.mk (zg hg (below_size (zw2 HB.out GE121.out GE124.out))); have GE126 := GW126; have NB121_126 := Aside0.mk (zlt hg BK121.out); have NB126_121 := Aside0.mk (zgt hg BK121.out); have NB124_126 := Aside0.mk (zlt hg BK124.out); have NB126_124 := Aside0.mk (zgt hg BK124.out); clear HO_4 BK121 BK124 HB; have HO_4 := n0_; have BK121 := n1_; have BK124 := n2_; have HB := n3_; clear n0_ n1_ n2_ n3_; clear hb hbox hg; have hnb26 := NB124_126.out; have hnc26 := NB126_124.out; have hcz27_0 := zc BK124.out 0; have hcz27_1 := zc BK124.out 1; have hcz27_2 := zc BK124.out 2; have hcz27_3 := zc BK124.out 3; have hcz27_4 := zc BK124.out 4; have hfz27_0 := blk_frozen BK124.out 0; have hfz27_1 := blk_frozen BK124.out 1; have hfz27_2 := blk_frozen BK124.out 2; have hfz27_3 := blk_frozen BK124.out 3; have hfz27_4 := blk_frozen BK124.out 4))
        have n0_ := Aside0.mk (Kd.R_drew HO_4.out)
        have n1_ := Aside0.mk (blk_drew BK121.out)
        have n2_ := Aside0.mk (blk_drew BK124.out)
        have n3_ := Aside0.mk (blk_drew BK126.out)
        have n4_ := Aside0.mk (below_drew1 HB.out)
        clear HO_4
        clear BK121
        clear BK124
        clear BK126
        clear HB
        have HO_4 := n0_
        have BK121 := n1_
        have BK124 := n2_
        have BK126 := n3_
        have HB := n4_
        clear n0_ n1_ n2_ n3_ n4_
        obtain ⟨Ao29, co29, eo29⟩ := Kd.R_slice HO_4.out
        (first | subst eo29 | (injection eo29 with f1_ f2_ f3_; have f4_ := f1_.symm; have f5_ := f3_.symm; clear f1_ f2_ f3_; subst f4_; subst f5_))
        have p127 : 0 ≤ (((rd_T31 l1 x20_2).f2) : Int) := zdec
        have q127 : ((rd_T31 l1 x20_2).f2) < (x4_2.length : Int) := zdec
        obtain ⟨ad127, e127, hx127_0, hx127_1, hx127_2⟩ := at_T103 (Kd.R_reads' HO_4.out).2.2 ((rd_T31 l1 x20_2).f2) p127 q127
        cases e127
        replace p127 := eq_true p127
        replace q127 := eq_true q127
        have p128 : 0 ≤ (((rd_T31 l1 x20_2).f2) : Int) := zdec
        have q128 : ((rd_T31 l1 x20_2).f2) < (x4_2.length : Int) := zdec
        obtain ⟨ad128, e128, hx128_0, hx128_1, hx128_2⟩ := at_T103 (Kd.R_reads' HO_4.out).2.2 ((rd_T31 l1 x20_2).f2) p128 q128
        obtain rfl : ad127 = ad128 := (by injection e128)
        replace p128 := eq_true p128
        replace q128 := eq_true q128
        have p129 : 0 ≤ (((rd_T31 l1 x20_2).f2) : Int) := zdec
        have q129 : ((rd_T31 l1 x20_2).f2) < (x4_2.length : Int) := zdec
        obtain ⟨ad129, e129, hx129_0, hx129_1, hx129_2⟩ := at_T103 (Kd.R_reads' HO_4.out).2.2 ((rd_T31 l1 x20_2).f2) p129 q129
        obtain rfl : ad127 = ad129 := (by injection e129)
        replace p129 := eq_true p129
        replace q129 := eq_true q129
        refine start_ (n := 26) (S := fun w' => w'.cell? ⟨gb124, 0, none⟩ = some (.int .i64 ((rd_T31 l1 x20_2).f0)) ∧ w'.cell? ⟨gb124, 1, none⟩ = some (.int .i64 ((rd_T31 l1 x20_2).f1)) ∧ w'.cell? ⟨gb124, 2, none⟩ = some (.int .i64 ((rd_T31 l1 x20_2).f2)) ∧ w'.cell? ⟨gb124, 3, none⟩ = some (.slice A123_3 ((rd_T31 l1 x20_2).f3).length c123_3) ∧ w'.cell? ⟨gb124, 4, none⟩ = some (.slice A123_4 ((rd_T31 l1 x20_2).f4).length c123_4) ∧ w'.cell? (ad127.add ((((rd_T31 l1 x20_2).f2)).toNat * 3)) = some (.int .i64 ((rd_T103 x4_2 ((rd_T31 l1 x20_2).f2)).f0)) ∧ w'.cell? ⟨(ad127.add ((((rd_T31 l1 x20_2).f2)).toNat * 3)).block, (ad127.add ((((rd_T31 l1 x20_2).f2)).toNat * 3)).off + 1, none⟩ = some (.int .i64 ((rd_T103 x4_2 ((rd_T31 l1 x20_2).f2)).f1)) ∧ w'.cell? ⟨(ad127.add ((((rd_T31 l1 x20_2).f2)).toNat * 3)).block, (ad127.add ((((rd_T31 l1 x20_2).f2)).toNat * 3)).off + 2, none⟩ = some (.int .i64 ((rd_T103 x4_2 ((rd_T31 l1 x20_2).f2)).f2)) ∧ w'.cell? (ad127.add ((((rd_T31 l1 x20_2).f2)).toNat * 3)) = some (.int .i64 ((rd_T103 x4_2 ((rd_T31 l1 x20_2).f2)).f0)) ∧ w'.cell? ⟨(ad127.add ((((rd_T31 l1 x20_2).f2)).toNat * 3)).block, (ad127.add ((((rd_T31 l1 x20_2).f2)).toNat * 3)).off + 1, none⟩ = some (.int .i64 ((rd_T103 x4_2 ((rd_T31 l1 x20_2).f2)).f1)) ∧ w'.cell? ⟨(ad127.add ((((rd_T31 l1 x20_2).f2)).toNat * 3)).block, (ad127.add ((((rd_T31 l1 x20_2).f2)).toNat * 3)).off + 2, none⟩ = some (.int .i64 ((rd_T103 x4_2 ((rd_T31 l1 x20_2).f2)).f2)) ∧ w'.cell? (ad127.add ((((rd_T31 l1 x20_2).f2)).toNat * 3)) = some (.int .i64 ((rd_T103 x4_2 ((rd_T31 l1 x20_2).f2)).f0)) ∧ w'.cell? ⟨(ad127.add ((((rd_T31 l1 x20_2).f2)).toNat * 3)).block, (ad127.add ((((rd_T31 l1 x20_2).f2)).toNat * 3)).off + 1, none⟩ = some (.int .i64 ((rd_T103 x4_2 ((rd_T31 l1 x20_2).f2)).f1)) ∧ w'.cell? ⟨(ad127.add ((((rd_T31 l1 x20_2).f2)).toNat * 3)).block, (ad127.add ((((rd_T31 l1 x20_2).f2)).toNat * 3)).off + 2, none⟩ = some (.int .i64 ((rd_T103 x4_2 ((rd_T31 l1 x20_2).f2)).f2))) (ds := []) #[false,false,false,false,false,false,false,false,false,false,false,false,false,false,false,false,false,false,false,false,false,false,false,false,false,false] (by kernel_rfl) rfl rfl ⟨(blk_cell BK124.out 0).trans rfl, (blk_cell BK124.out 1).trans rfl, (blk_cell BK124.out 2).trans rfl, (blk_cell BK124.out 3).trans rfl, (blk_cell BK124.out 4).trans rfl, hx127_0, hx127_1, hx127_2, hx128_0, hx128_1, hx128_2, hx129_0, hx129_1, hx129_2⟩ (fun hHeld => ?_); refine with_tabW lay_places.tab13 lay_places.bits13 (fun HT_ HW_ => ?_)
        generalize w25.drew = w28 at HO_4 BK121 BK124 BK126 HB hx127_0 hx127_1 hx127_2 hx128_0 hx128_1 hx128_2 hx129_0 hx129_1 hx129_2 hHeld ⊢
        refine zq 0 (some 40) HT_ ?_; refine zq 2 (some 42) HT_ ?_; refine zq 3 (some 43) HT_ ?_; refine zq 9 (some 49) HT_ ?_; refine zq 10 (some 50) HT_ ?_; refine zq 15 (some 55) HT_ ?_; refine zq 17 (some 57) HT_ ?_; refine zq 18 (some 58) HT_ ?_; refine zt 1 (some 41) HT_ HW_ hHeld ?_; refine zt 4 (some 44) HT_ HW_ hHeld ?_; refine zq 5 (some 45) HT_ ?_; refine zq 6 (some 46) HT_ ?_; refine zt 7 (some 47) HT_ HW_ hHeld ?_; refine zq 8 (some 48) HT_ ?_; refine zt 11 (some 51) HT_ HW_ hHeld ?_; refine zq 12 (some 52) HT_ ?_; refine zq 13 (some 53) HT_ ?_; refine zt 14 (some 54) HT_ HW_ hHeld ?_; refine zt 16 (some 56) HT_ HW_ hHeld ?_; refine zt 19 (some 59) HT_ HW_ hHeld ?_; refine zq 20 (some 60) HT_ ?_; refine zq 21 (some 61) HT_ ?_; refine zt 22 (some 62) HT_ HW_ hHeld ?_; refine zq 23 (some 63) HT_ ?_; refine zq 24 (some 64) HT_ ?_
        refine one_ (i := 25) (N := none) #[true,true,true,true,true,true,true,true,true,true,true,true,true,true,true,true,true,true,true,true,true,true,true,true,true,true] rfl rfl (one_of HT_.out (by kernel_rfl)) (by decide) (fun K hK => ?_)
        have hs30 : w28.cell? ⟨gb126, 0, none⟩ = some (.int .i64 0) := (blk_cell BK126.out 0).trans rfl
        have hfs30 := blk_frozen BK126.out 0
        have hns30_0 := NB121_126.out
        have hns30_1 := NB124_126.out
        have hms30_0 := NB126_121.out
        have hms30_1 := NB126_124.out
        have hs31 : w28.cell? ⟨gb126, 1, none⟩ = some (.int .i64 0) := (blk_cell BK126.out 1).trans rfl
        have hfs31 := blk_frozen BK126.out 1
        have hns31_0 := NB121_126.out
        have hns31_1 := NB124_126.out
        have hms31_0 := NB126_121.out
        have hms31_1 := NB126_124.out
        have hs32 : w28.cell? ⟨gb126, 2, none⟩ = some (.int .i64 0) := (blk_cell BK126.out 2).trans rfl
        have hfs32 := blk_frozen BK126.out 2
        have hns32_0 := NB121_126.out
        have hns32_1 := NB124_126.out
        have hms32_0 := NB126_121.out
        have hms32_1 := NB126_124.out
        refine skip_ (w1 := ?_) (by rfl) rfl ?_ ?_
        rotate_left
        ·go_simp
         rfl
        refine hK.out _ _ ⟨((cell_far (p := ⟨gb126, _, none⟩) NB124_126.out _).trans (((cell_far (p := ⟨gb126, _, none⟩) NB124_126.out _).trans (((cell_far (p := ⟨gb126, _, none⟩) NB124_126.out _).trans (hHeld.1)))))), ((cell_far (p := ⟨gb126, _, none⟩) NB124_126.out _).trans (((cell_far (p := ⟨gb126, _, none⟩) NB124_126.out _).trans (((cell_far (p := ⟨gb126, _, none⟩) NB124_126.out _).trans (hHeld.2.1)))))), ((cell_far (p := ⟨gb126, _, none⟩) NB124_126.out _).trans (((cell_far (p := ⟨gb126, _, none⟩) NB124_126.out _).trans (((cell_far (p := ⟨gb126, _, none⟩) NB124_126.out _).trans (hHeld.2.2.1)))))), ((cell_far (p := ⟨gb126, _, none⟩) NB124_126.out _).trans (((cell_far (p := ⟨gb126, _, none⟩) NB124_126.out _).trans (((cell_far (p := ⟨gb126, _, none⟩) NB124_126.out _).trans (hHeld.2.2.2.1)))))), ((cell_far (p := ⟨gb126, _, none⟩) NB124_126.out _).trans (((cell_far (p := ⟨gb126, _, none⟩) NB124_126.out _).trans (((cell_far (p := ⟨gb126, _, none⟩) NB124_126.out _).trans (hHeld.2.2.2.2.1)))))), ((cell_far (p := ⟨gb126, _, none⟩) (by first | exact Kd.own_blk (Kd.R_away HO_4.out (fun _ hk => hk.2)) | (rw [add_block]; exact Kd.own_blk (Kd.R_away HO_4.out (fun _ hk => hk.2))) | (show (Addr.add _ _).block ≠ _; rw [add_block]; exact Kd.own_blk (Kd.R_away HO_4.out (fun _ hk => hk.2))) | (dsimp only; exact Kd.own_blk (Kd.R_away HO_4.out (fun _ hk => hk.2)))) _).trans (((cell_far (p := ⟨gb126, _, none⟩) (by first | exact Kd.own_blk (Kd.R_away HO_4.out (fun _ hk => hk.2)) | (rw [add_block]; exact Kd.own_blk (Kd.R_away HO_4.out (fun _ hk => hk.2))) | (show (Addr.add _ _).block ≠ _; rw [add_block]; exact Kd.own_blk (Kd.R_away HO_4.out (fun _ hk => hk.2))) | (dsimp only; exact Kd.own_blk (Kd.R_away HO_4.out (fun _ hk => hk.2)))) _).trans (((cell_far (p := ⟨gb126, _, none⟩) (by first | exact Kd.own_blk (Kd.R_away HO_4.out (fun _ hk => hk.2)) | (rw [add_block]; exact Kd.own_blk (Kd.R_away HO_4.out (fun _ hk => hk.2))) | (show (Addr.add _ _).block ≠ _; rw [add_block]; exact Kd.own_blk (Kd.R_away HO_4.out (fun _ hk => hk.2))) | (dsimp only; exact Kd.own_blk (Kd.R_away HO_4.out (fun _ hk => hk.2)))) _).trans (hHeld.2.2.2.2.2.1)))))), ((cell_far (p := ⟨gb126, _, none⟩) (by first | exact Kd.own_blk (Kd.R_away HO_4.out (fun _ hk => hk.2)) | (rw [add_block]; exact Kd.own_blk (Kd.R_away HO_4.out (fun _ hk => hk.2))) | (show (Addr.add _ _).block ≠ _; rw [add_block]; exact Kd.own_blk (Kd.R_away HO_4.out (fun _ hk => hk.2))) | (dsimp only; exact Kd.own_blk (Kd.R_away HO_4.out (fun _ hk => hk.2)))) _).trans (((cell_far (p := ⟨gb126, _, none⟩) (by first | exact Kd.own_blk (Kd.R_away HO_4.out (fun _ hk => hk.2)) | (rw [add_block]; exact Kd.own_blk (Kd.R_away HO_4.out (fun _ hk => hk.2))) | (show (Addr.add _ _).block ≠ _; rw [add_block]; exact Kd.own_blk (Kd.R_away HO_4.out (fun _ hk => hk.2))) | (dsimp only; exact Kd.own_blk (Kd.R_away HO_4.out (fun _ hk => hk.2)))) _).trans (((cell_far (p := ⟨gb126, _, none⟩) (by first | exact Kd.own_blk (Kd.R_away HO_4.out (fun _ hk => hk.2)) | (rw [add_block]; exact Kd.own_blk (Kd.R_away HO_4.out (fun _ hk => hk.2))) | (show (Addr.add _ _).block ≠ _; rw [add_block]; exact Kd.own_blk (Kd.R_away HO_4.out (fun _ hk => hk.2))) | (dsimp only; exact Kd.own_blk (Kd.R_away HO_4.out (fun _ hk => hk.2)))) _).trans (hHeld.2.2.2.2.2.2.1)))))), ((cell_far (p := ⟨gb126, _, none⟩) (by first | exact Kd.own_blk (Kd.R_away HO_4.out (fun _ hk => hk.2)) | (rw [add_block]; exact Kd.own_blk (Kd.R_away HO_4.out (fun _ hk => hk.2))) | (show (Addr.add _ _).block ≠ _; rw [add_block]; exact Kd.own_blk (Kd.R_away HO_4.out (fun _ hk => hk.2))) | (dsimp only; exact Kd.own_blk (Kd.R_away HO_4.out (fun _ hk => hk.2)))) _).trans (((cell_far (p := ⟨gb126, _, none⟩) (by first | exact Kd.own_blk (Kd.R_away HO_4.out (fun _ hk => hk.2)) | (rw [add_block]; exact Kd.own_blk (Kd.R_away HO_4.out (fun _ hk => hk.2))) | (show (Addr.add _ _).block ≠ _; rw [add_block]; exact Kd.own_blk (Kd.R_away HO_4.out (fun _ hk => hk.2))) | (dsimp only; exact Kd.own_blk (Kd.R_away HO_4.out (fun _ hk => hk.2)))) _).trans (((cell_far (p := ⟨gb126, _, none⟩) (by first | exact Kd.own_blk (Kd.R_away HO_4.out (fun _ hk => hk.2)) | (rw [add_block]; exact Kd.own_blk (Kd.R_away HO_4.out (fun _ hk => hk.2))) | (show (Addr.add _ _).block ≠ _; rw [add_block]; exact Kd.own_blk (Kd.R_away HO_4.out (fun _ hk => hk.2))) | (dsimp only; exact Kd.own_blk (Kd.R_away HO_4.out (fun _ hk => hk.2)))) _).trans (hHeld.2.2.2.2.2.2.2.1)))))), ((cell_far (p := ⟨gb126, _, none⟩) (by first | exact Kd.own_blk (Kd.R_away HO_4.out (fun _ hk => hk.2)) | (rw [add_block]; exact Kd.own_blk (Kd.R_away HO_4.out (fun _ hk => hk.2))) | (show (Addr.add _ _).block ≠ _; rw [add_block]; exact Kd.own_blk (Kd.R_away HO_4.out (fun _ hk => hk.2))) | (dsimp only; exact Kd.own_blk (Kd.R_away HO_4.out (fun _ hk => hk.2)))) _).trans (((cell_far (p := ⟨gb126, _, none⟩) (by first | exact Kd.own_blk (Kd.R_away HO_4.out (fun _ hk => hk.2)) | (rw [add_block]; exact Kd.own_blk (Kd.R_away HO_4.out (fun _ hk => hk.2))) | (show (Addr.add _ _).block ≠ _; rw [add_block]; exact Kd.own_blk (Kd.R_away HO_4.out (fun _ hk => hk.2))) | (dsimp only; exact Kd.own_blk (Kd.R_away HO_4.out (fun _ hk => hk.2)))) _).trans (((cell_far (p := ⟨gb126, _, none⟩) (by first | exact Kd.own_blk (Kd.R_away HO_4.out (fun _ hk => hk.2)) | (rw [add_block]; exact Kd.own_blk (Kd.R_away HO_4.out (fun _ hk => hk.2))) | (show (Addr.add _ _).block ≠ _; rw [add_block]; exact Kd.own_blk (Kd.R_away HO_4.out (fun _ hk => hk.2))) | (dsimp only; exact Kd.own_blk (Kd.R_away HO_4.out (fun _ hk => hk.2)))) _).trans (hHeld.2.2.2.2.2.2.2.2.1)))))), ((cell_far (p := ⟨gb126, _, none⟩) (by first | exact Kd.own_blk (Kd.R_away HO_4.out (fun _ hk => hk.2)) | (rw [add_block]; exact Kd.own_blk (Kd.R_away HO_4.out (fun _ hk => hk.2))) | (show (Addr.add _ _).block ≠ _; rw [add_block]; exact Kd.own_blk (Kd.R_away HO_4.out (fun _ hk => hk.2))) | (dsimp only; exact Kd.own_blk (Kd.R_away HO_4.out (fun _ hk => hk.2)))) _).trans (((cell_far (p := ⟨gb126, _, none⟩) (by first | exact Kd.own_blk (Kd.R_away HO_4.out (fun _ hk => hk.2)) | (rw [add_block]; exact Kd.own_blk (Kd.R_away HO_4.out (fun _ hk => hk.2))) | (show (Addr.add _ _).block ≠ _; rw [add_block]; exact Kd.own_blk (Kd.R_away HO_4.out (fun _ hk => hk.2))) | (dsimp only; exact Kd.own_blk (Kd.R_away HO_4.out (fun _ hk => hk.2)))) _).trans (((cell_far (p := ⟨gb126, _, none⟩) (by first | exact Kd.own_blk (Kd.R_away HO_4.out (fun _ hk => hk.2)) | (rw [add_block]; exact Kd.own_blk (Kd.R_away HO_4.out (fun _ hk => hk.2))) | (show (Addr.add _ _).block ≠ _; rw [add_block]; exact Kd.own_blk (Kd.R_away HO_4.out (fun _ hk => hk.2))) | (dsimp only; exact Kd.own_blk (Kd.R_away HO_4.out (fun _ hk => hk.2)))) _).trans (hHeld.2.2.2.2.2.2.2.2.2.1)))))), ((cell_far (p := ⟨gb126, _, none⟩) (by first | exact Kd.own_blk (Kd.R_away HO_4.out (fun _ hk => hk.2)) | (rw [add_block]; exact Kd.own_blk (Kd.R_away HO_4.out (fun _ hk => hk.2))) | (show (Addr.add _ _).block ≠ _; rw [add_block]; exact Kd.own_blk (Kd.R_away HO_4.out (fun _ hk => hk.2))) | (dsimp only; exact Kd.own_blk (Kd.R_away HO_4.out (fun _ hk => hk.2)))) _).trans (((cell_far (p := ⟨gb126, _, none⟩) (by first | exact Kd.own_blk (Kd.R_away HO_4.out (fun _ hk => hk.2)) | (rw [add_block]; exact Kd.own_blk (Kd.R_away HO_4.out (fun _ hk => hk.2))) | (show (Addr.add _ _).block ≠ _; rw [add_block]; exact Kd.own_blk (Kd.R_away HO_4.out (fun _ hk => hk.2))) | (dsimp only; exact Kd.own_blk (Kd.R_away HO_4.out (fun _ hk => hk.2)))) _).trans (((cell_far (p := ⟨gb126, _, none⟩) (by first | exact Kd.own_blk (Kd.R_away HO_4.out (fun _ hk => hk.2)) | (rw [add_block]; exact Kd.own_blk (Kd.R_away HO_4.out (fun _ hk => hk.2))) | (show (Addr.add _ _).block ≠ _; rw [add_block]; exact Kd.own_blk (Kd.R_away HO_4.out (fun _ hk => hk.2))) | (dsimp only; exact Kd.own_blk (Kd.R_away HO_4.out (fun _ hk => hk.2)))) _).trans (hHeld.2.2.2.2.2.2.2.2.2.2.1)))))), ((cell_far (p := ⟨gb126, _, none⟩) (by first | exact Kd.own_blk (Kd.R_away HO_4.out (fun _ hk => hk.2)) | (rw [add_block]; exact Kd.own_blk (Kd.R_away HO_4.out (fun _ hk => hk.2))) | (show (Addr.add _ _).block ≠ _; rw [add_block]; exact Kd.own_blk (Kd.R_away HO_4.out (fun _ hk => hk.2))) | (dsimp only; exact Kd.own_blk (Kd.R_away HO_4.out (fun _ hk => hk.2)))) _).trans (((cell_far (p := ⟨gb126, _, none⟩) (by first | exact Kd.own_blk (Kd.R_away HO_4.out (fun _ hk => hk.2)) | (rw [add_block]; exact Kd.own_blk (Kd.R_away HO_4.out (fun _ hk => hk.2))) | (show (Addr.add _ _).block ≠ _; rw [add_block]; exact Kd.own_blk (Kd.R_away HO_4.out (fun _ hk => hk.2))) | (dsimp only; exact Kd.own_blk (Kd.R_away HO_4.out (fun _ hk => hk.2)))) _).trans (((cell_far (p := ⟨gb126, _, none⟩) (by first | exact Kd.own_blk (Kd.R_away HO_4.out (fun _ hk => hk.2)) | (rw [add_block]; exact Kd.own_blk (Kd.R_away HO_4.out (fun _ hk => hk.2))) | (show (Addr.add _ _).block ≠ _; rw [add_block]; exact Kd.own_blk (Kd.R_away HO_4.out (fun _ hk => hk.2))) | (dsimp only; exact Kd.own_blk (Kd.R_away HO_4.out (fun _ hk => hk.2)))) _).trans (hHeld.2.2.2.2.2.2.2.2.2.2.2.1)))))), ((cell_far (p := ⟨gb126, _, none⟩) (by first | exact Kd.own_blk (Kd.R_away HO_4.out (fun _ hk => hk.2)) | (rw [add_block]; exact Kd.own_blk (Kd.R_away HO_4.out (fun _ hk => hk.2))) | (show (Addr.add _ _).block ≠ _; rw [add_block]; exact Kd.own_blk (Kd.R_away HO_4.out (fun _ hk => hk.2))) | (dsimp only; exact Kd.own_blk (Kd.R_away HO_4.out (fun _ hk => hk.2)))) _).trans (((cell_far (p := ⟨gb126, _, none⟩) (by first | exact Kd.own_blk (Kd.R_away HO_4.out (fun _ hk => hk.2)) | (rw [add_block]; exact Kd.own_blk (Kd.R_away HO_4.out (fun _ hk => hk.2))) | (show (Addr.add _ _).block ≠ _; rw [add_block]; exact Kd.own_blk (Kd.R_away HO_4.out (fun _ hk => hk.2))) | (dsimp only; exact Kd.own_blk (Kd.R_away HO_4.out (fun _ hk => hk.2)))) _).trans (((cell_far (p := ⟨gb126, _, none⟩) (by first | exact Kd.own_blk (Kd.R_away HO_4.out (fun _ hk => hk.2)) | (rw [add_block]; exact Kd.own_blk (Kd.R_away HO_4.out (fun _ hk => hk.2))) | (show (Addr.add _ _).block ≠ _; rw [add_block]; exact Kd.own_blk (Kd.R_away HO_4.out (fun _ hk => hk.2))) | (dsimp only; exact Kd.own_blk (Kd.R_away HO_4.out (fun _ hk => hk.2)))) _).trans (hHeld.2.2.2.2.2.2.2.2.2.2.2.2.1)))))), ((cell_far (p := ⟨gb126, _, none⟩) (by first | exact Kd.own_blk (Kd.R_away HO_4.out (fun _ hk => hk.2)) | (rw [add_block]; exact Kd.own_blk (Kd.R_away HO_4.out (fun _ hk => hk.2))) | (show (Addr.add _ _).block ≠ _; rw [add_block]; exact Kd.own_blk (Kd.R_away HO_4.out (fun _ hk => hk.2))) | (dsimp only; exact Kd.own_blk (Kd.R_away HO_4.out (fun _ hk => hk.2)))) _).trans (((cell_far (p := ⟨gb126, _, none⟩) (by first | exact Kd.own_blk (Kd.R_away HO_4.out (fun _ hk => hk.2)) | (rw [add_block]; exact Kd.own_blk (Kd.R_away HO_4.out (fun _ hk => hk.2))) | (show (Addr.add _ _).block ≠ _; rw [add_block]; exact Kd.own_blk (Kd.R_away HO_4.out (fun _ hk => hk.2))) | (dsimp only; exact Kd.own_blk (Kd.R_away HO_4.out (fun _ hk => hk.2)))) _).trans (((cell_far (p := ⟨gb126, _, none⟩) (by first | exact Kd.own_blk (Kd.R_away HO_4.out (fun _ hk => hk.2)) | (rw [add_block]; exact Kd.own_blk (Kd.R_away HO_4.out (fun _ hk => hk.2))) | (show (Addr.add _ _).block ≠ _; rw [add_block]; exact Kd.own_blk (Kd.R_away HO_4.out (fun _ hk => hk.2))) | (dsimp only; exact Kd.own_blk (Kd.R_away HO_4.out (fun _ hk => hk.2)))) _).trans (hHeld.2.2.2.2.2.2.2.2.2.2.2.2.2))))))⟩ (fun hHeld => ?_)
        clear hK K
        refine done_ (done_of HT_.out (by kernel_rfl)) ?_
        have hnb33 := NB126_121.out
        have hnc33 := NB121_126.out
        have hcz34_0 := zc BK126.out 0
        have hcz34_1 := zc BK126.out 1
        have hcz34_2 := zc BK126.out 2
        have hfz34_0 := blk_frozen BK126.out 0
        have hfz34_1 := blk_frozen BK126.out 1
        have hfz34_2 := blk_frozen BK126.out 2
        try go_wp2
        go_ret2
        exact ⟨_, ze, by first | exact Kd.R_nil _ _ _ _ _ | exact Kd.N_nil _ _ _ _ _ | exact Kd.V_nil _ _ _ _ _ | exact Kd.Q_nil _ _ _ _ _ | exact Kd.S_nil _ _ _ _ _, zw3 HB.out GE121.out GE124.out GE126.out⟩
       rw [if_neg c20] at H
       have c20b0 : decide (32 < (wrap64 (((rd_T31 l1 x20_2).f1) * ((rd_T103 x4_2 ((rd_T31 l1 x20_2).f2)).f0)))) = false := decide_eq_false c20
       clear c20
       by_cases c35 : (wrap64 (((rd_T31 l1 x20_2).f1) * ((rd_T103 x4_2 ((rd_T31 l1 x20_2).f2)).f2))) > 64
       ·rw [if_pos c35] at H
        have c35b0 : decide (64 < (wrap64 (((rd_T31 l1 x20_2).f1) * ((rd_T103 x4_2 ((rd_T31 l1 x20_2).f2)).f2)))) = true := decide_eq_true c35
        clear c35
        simp only [Option.some.injEq, Prod.mk.injEq] at H
        obtain ⟨rfl, rfl⟩ := H
        have p123 : 0 ≤ (x20_2 : Int) := zdec
        have q123 : x20_2 < (l1.length : Int) := zdec
        obtain ⟨ad123, A123_3, c123_3, A123_4, c123_4, e123, hx123_0, hx123_1, hx123_2, hx123_3, hx123_4, hl123_3, hi123_3, hl123_4, hi123_4⟩ := at_T31 HR1.out x20_2 p123 q123
        cases e123
        replace hx123_0 := zh HB.out hx123_0
        replace hx123_1 := zh HB.out hx123_1
        replace hx123_2 := zh HB.out hx123_2
        replace hx123_3 := zh HB.out hx123_3
        replace hx123_4 := zh HB.out hx123_4
        have HR123_3 := Aside0.mk hi123_3
        have HC123_3 := Aside0.mk hl123_3
        clear hi123_3 hl123_3
        have HR123_4 := Aside0.mk hi123_4
        have HC123_4 := Aside0.mk hl123_4
        clear hi123_4 hl123_4
        replace p123 := eq_true p123
        replace q123 := eq_true q123
        try go_wp2_with (first | ((with_reducible refine gate_dst (N := 7) rfl ?_); (try (refine gate_guard (by rfl) ?_; dsimp only)); refine zbox (N := 7) (cs := #[.int .i64 0, .int .i64 0, .int .i64 0, .slice none 0 0, .slice none 0 0]) (t := 31) ?_; intro gb124 hg w36 hbox hb; have n0_ := Aside0.mk (Kd.R_below (by (with_reducible repeat (first | apply Kd.R_alloc | apply Kd.R_drewN | apply Kd.R_drew)); exact HO_4.out) hb); have n1_ := Aside0.mk (zbb BK121.out hb); have n2_ := Aside0.mk (below_step (zw1 HB.out GE121.out) hb); have BK124 := Aside0.mk (hbox); have GW124 := Aside0.mk (zg hg (below_size (zw1 HB.out GE121.out))); have GE124 := GW124; have NB121_124 := Aside0.mk (zlt hg BK121.out); have NB124_121 := Aside0.mk (zgt hg BK121.out); clear HO_4 BK121 HB; have HO_4 := n0_; have BK121 := n1_; have HB := n2_; clear n0_ n1_ n2_; clear hb hbox hg; have hnb37 := NB124_121.out; have hnc37 := NB121_124.out; have hcz38_0 := zc BK124.out 0; have hcz38_1 := zc BK124.out 1; have hcz38_2 := zc BK124.out 2; have hcz38_3 := zc BK124.out 3; have hcz38_4 := zc BK124.out 4; have hfz38_0 := blk_frozen BK124.out 0; have hfz38_1 := blk_frozen BK124.out 1; have hfz38_2 := blk_frozen BK124.out 2; have hfz38_3 := blk_frozen BK124.out 3; have hfz38_4 := blk_frozen BK124.out 4) | ((with_reducible refine gate_callee (f := 85) rfl ?_); refine zgo (some 27) Try.func85 #[.agg #[.int .i64 ((rd_T31 l1 x20_2).f0), .int .i64 ((rd_T31 l1 x20_2).f1), .int .i64 ((rd_T31 l1 x20_2).f2), .slice A123_3 ((rd_T31 l1 x20_2).f3).length c123_3, .slice A123_4 ((rd_T31 l1 x20_2).f4).length c123_4], .int .i64 x20_2] ?_; (with_reducible refine (lay_form.calls k2 ((rd_T31 l1 x20_2).f0) ((rd_T31 l1 x20_2).f1) ((rd_T31 l1 x20_2).f2) _ _ ((rd_T31 l1 x20_2).f3) _ _ ((rd_T31 l1 x20_2).f4) x20_2 true _ ?side1 ?side2 ?side3 ?side4 A15.out).mono ?_); (case side1 => exact Kd.C_below HR123_3.out (zw2 HB.out GE121.out GE124.out)); (case side2 => exact HC123_3.out); (case side3 => exact Kd.C_below HR123_4.out (zw2 HB.out GE121.out GE124.out)); (case side4 => exact HC123_4.out); rintro e w39 ⟨rfl, hb⟩; refine ⟨_, rfl, ?_⟩; have n0_ := Aside0.mk (Kd.R_below (by (with_reducible repeat (first | apply Kd.R_alloc | apply Kd.R_drewN | apply Kd.R_drew)); exact (Kd.R_mono (Kd.R_far (p := ⟨gb124, 4, none⟩) (Kd.R_far (p := ⟨gb124, 3, none⟩) (Kd.R_far (p := ⟨gb124, 2, none⟩) (Kd.R_far (p := ⟨gb124, 1, none⟩) (Kd.R_far (p := ⟨gb124, 0, none⟩) (Kd.R_types HO_4.out BK124.out (by decide)) (fun _ hk => hk.2) (.int .i64 ((rd_T31 l1 x20_2).f0))) (fun _ hk => hk.2) (.int .i64 ((rd_T31 l1 x20_2).f1))) (fun _ hk => hk.2) (.int .i64 ((rd_T31 l1 x20_2).f2))) (fun _ hk => hk.2) (.slice A123_3 ((rd_T31 l1 x20_2).f3).length c123_3)) (fun _ hk => hk.2) (.slice A123_4 ((rd_T31 l1 x20_2).f4).length c123_4)) (fun _ h_ => h_.1))) hb); have n1_ := Aside0.mk (blk_below (g := gb121) (o := .cells #[.bool a0_0, .int .i64 a0_1] 29 (0, 0)) (zf1 BK121.out NB121_124.out) hb); have n2_ := Aside0.mk (blk_below (g := gb124) (o := .cells #[.int .i64 ((rd_T31 l1 x20_2).f0), .int .i64 ((rd_T31 l1 x20_2).f1), .int .i64 ((rd_T31 l1 x20_2).f2), .slice A123_3 ((rd_T31 l1 x20_2).f3).length c123_3, .slice A123_4 ((rd_T31 l1 x20_2).f4).length c123_4] 31 (0, 0)) (by (with_reducible repeat (first | refine blk_drewN ?_ _ | refine blk_drew ?_ | refine blk_alloc ?_ _)); refine blk_put (cs := #[.int .i64 ((rd_T31 l1 x20_2).f0), .int .i64 ((rd_T31 l1 x20_2).f1), .int .i64 ((rd_T31 l1 x20_2).f2), .slice A123_3 ((rd_T31 l1 x20_2).f3).length c123_3, .slice none 0 0]) ?_ 4 _ rfl; (with_reducible repeat (first | refine blk_drewN ?_ _ | refine blk_drew ?_ | refine blk_alloc ?_ _)); refine blk_put (cs := #[.int .i64 ((rd_T31 l1 x20_2).f0), .int .i64 ((rd_T31 l1 x20_2).f1), .int .i64 ((rd_T31 l1 x20_2).f2), .slice none 0 0, .slice none 0 0]) ?_ 3 _ rfl; (with_reducible repeat (first | refine blk_drewN ?_ _ | refine blk_drew ?_ | refine blk_alloc ?_ _)); refine blk_put (cs := #[.int .i64 ((rd_T31 l1 x20_2).f0), .int .i64 ((rd_T31 l1 x20_2).f1), .int .i64 0, .slice none 0 0, .slice none 0 0]) ?_ 2 _ rfl; (with_reducible repeat (first | refine blk_drewN ?_ _ | refine blk_drew ?_ | refine blk_alloc ?_ _)); refine blk_put (cs := #[.int .i64 ((rd_T31 l1 x20_2).f0), .int .i64 0, .int .i64 0, .slice none 0 0, .slice none 0 0]) ?_ 1 _ rfl; (with_reducible repeat (first | refine blk_drewN ?_ _ | refine blk_drew ?_ | refine blk_alloc ?_ _)); refine blk_put (cs := #[.int .i64 0, .int .i64 0, .int .i64 0, .slice none 0 0, .slice none 0 0]) ?_ 0 _ rfl; (with_reducible repeat (first | refine blk_drewN ?_ _ | refine blk_drew ?_ | refine blk_alloc ?_ _)); exact BK124.out) hb); have n3_ := Aside0.mk (below_step (zw2 HB.out GE121.out GE124.out) hb); clear HO_4 BK121 BK124 HB; have HO_4 := n0_; have BK121 := n1_; have BK124 := n2_; have HB := n3_; clear n0_ n1_ n2_ n3_; (try clear hb); (try clear hb2); (try clear hk); (try clear hi)) | ((with_reducible refine gate_dst (N := 8) rfl ?_); (try (refine gate_guard (by rfl) ?_; dsimp only)); refine zbox (N := 8) (cs := #[.int .i64 0, .int .i64 0, .int .i64 0]) (t := 103) ?_; intro gb126 hg w40 hbox hb; have n0_ := Aside0.mk (Kd.R_below (Kd.R_elderB (by (with_reducible repeat (first | apply Kd.R_alloc | apply Kd.R_drewN | apply Kd.R_drew)); exact HO_4.out) gb126 (Nat.le_of_eq hg.symm)) hb); have n1_ := Aside0.mk (zbb BK121.out hb); have n2_ := Aside0.mk (zbb BK124.out hb); have n3_ := Aside0.mk (below_step (zw2 HB.out GE121.out GE124.out) hb); have BK126 := Aside0.mk (hbox); have GW126 := Aside0.mk (zg hg (below_size (zw2 HB.out GE121.out GE124.out))); have GE126 := GW126; have NB121_126 := Aside0.mk (zlt hg BK121.out); have NB126_121 := Aside0.mk (zgt hg BK121.out); have NB124_126 := Aside0.mk (zlt hg BK124.out); have NB126_124 := Aside0.mk (zgt hg BK124.out); clear HO_4 BK121 BK124 HB; have HO_4 := n0_; have BK121 := n1_; have BK124 := n2_; have HB := n3_; clear n0_ n1_ n2_ n3_; clear hb hbox hg; have hnb41 := NB124_126.out; have hnc41 := NB126_124.out; have hcz42_0 := zc BK124.out 0; have hcz42_1 := zc BK124.out 1; have hcz42_2 := zc BK124.out 2; have hcz42_3 := zc BK124.out 3; have hcz42_4 := zc BK124.out 4; have hfz42_0 := blk_frozen BK124.out 0; have hfz42_1 := blk_frozen BK124.out 1; have hfz42_2 := blk_frozen BK124.out 2; have hfz42_3 := blk_frozen BK124.out 3; have hfz42_4 := blk_frozen BK124.out 4))
        have n0_ := Aside0.mk (Kd.R_drew HO_4.out)
        have n1_ := Aside0.mk (blk_drew BK121.out)
        have n2_ := Aside0.mk (blk_drew BK124.out)
        have n3_ := Aside0.mk (blk_drew BK126.out)
        have n4_ := Aside0.mk (below_drew1 HB.out)
        clear HO_4
        clear BK121
        clear BK124
        clear BK126
        clear HB
        have HO_4 := n0_
        have BK121 := n1_
        have BK124 := n2_
        have BK126 := n3_
        have HB := n4_
        clear n0_ n1_ n2_ n3_ n4_
        obtain ⟨Ao44, co44, eo44⟩ := Kd.R_slice HO_4.out
        (first | subst eo44 | (injection eo44 with f1_ f2_ f3_; have f4_ := f1_.symm; have f5_ := f3_.symm; clear f1_ f2_ f3_; subst f4_; subst f5_))
        have p127 : 0 ≤ (((rd_T31 l1 x20_2).f2) : Int) := zdec
        have q127 : ((rd_T31 l1 x20_2).f2) < (x4_2.length : Int) := zdec
        obtain ⟨ad127, e127, hx127_0, hx127_1, hx127_2⟩ := at_T103 (Kd.R_reads' HO_4.out).2.2 ((rd_T31 l1 x20_2).f2) p127 q127
        cases e127
        replace p127 := eq_true p127
        replace q127 := eq_true q127
        have p128 : 0 ≤ (((rd_T31 l1 x20_2).f2) : Int) := zdec
        have q128 : ((rd_T31 l1 x20_2).f2) < (x4_2.length : Int) := zdec
        obtain ⟨ad128, e128, hx128_0, hx128_1, hx128_2⟩ := at_T103 (Kd.R_reads' HO_4.out).2.2 ((rd_T31 l1 x20_2).f2) p128 q128
        obtain rfl : ad127 = ad128 := (by injection e128)
        replace p128 := eq_true p128
        replace q128 := eq_true q128
        have p129 : 0 ≤ (((rd_T31 l1 x20_2).f2) : Int) := zdec
        have q129 : ((rd_T31 l1 x20_2).f2) < (x4_2.length : Int) := zdec
        obtain ⟨ad129, e129, hx129_0, hx129_1, hx129_2⟩ := at_T103 (Kd.R_reads' HO_4.out).2.2 ((rd_T31 l1 x20_2).f2) p129 q129
        obtain rfl : ad127 = ad129 := (by injection e129)
        replace p129 := eq_true p129
        replace q129 := eq_true q129
        refine start_ (n := 26) (S := fun w' => w'.cell? ⟨gb124, 0, none⟩ = some (.int .i64 ((rd_T31 l1 x20_2).f0)) ∧ w'.cell? ⟨gb124, 1, none⟩ = some (.int .i64 ((rd_T31 l1 x20_2).f1)) ∧ w'.cell? ⟨gb124, 2, none⟩ = some (.int .i64 ((rd_T31 l1 x20_2).f2)) ∧ w'.cell? ⟨gb124, 3, none⟩ = some (.slice A123_3 ((rd_T31 l1 x20_2).f3).length c123_3) ∧ w'.cell? ⟨gb124, 4, none⟩ = some (.slice A123_4 ((rd_T31 l1 x20_2).f4).length c123_4) ∧ w'.cell? (ad127.add ((((rd_T31 l1 x20_2).f2)).toNat * 3)) = some (.int .i64 ((rd_T103 x4_2 ((rd_T31 l1 x20_2).f2)).f0)) ∧ w'.cell? ⟨(ad127.add ((((rd_T31 l1 x20_2).f2)).toNat * 3)).block, (ad127.add ((((rd_T31 l1 x20_2).f2)).toNat * 3)).off + 1, none⟩ = some (.int .i64 ((rd_T103 x4_2 ((rd_T31 l1 x20_2).f2)).f1)) ∧ w'.cell? ⟨(ad127.add ((((rd_T31 l1 x20_2).f2)).toNat * 3)).block, (ad127.add ((((rd_T31 l1 x20_2).f2)).toNat * 3)).off + 2, none⟩ = some (.int .i64 ((rd_T103 x4_2 ((rd_T31 l1 x20_2).f2)).f2)) ∧ w'.cell? (ad127.add ((((rd_T31 l1 x20_2).f2)).toNat * 3)) = some (.int .i64 ((rd_T103 x4_2 ((rd_T31 l1 x20_2).f2)).f0)) ∧ w'.cell? ⟨(ad127.add ((((rd_T31 l1 x20_2).f2)).toNat * 3)).block, (ad127.add ((((rd_T31 l1 x20_2).f2)).toNat * 3)).off + 1, none⟩ = some (.int .i64 ((rd_T103 x4_2 ((rd_T31 l1 x20_2).f2)).f1)) ∧ w'.cell? ⟨(ad127.add ((((rd_T31 l1 x20_2).f2)).toNat * 3)).block, (ad127.add ((((rd_T31 l1 x20_2).f2)).toNat * 3)).off + 2, none⟩ = some (.int .i64 ((rd_T103 x4_2 ((rd_T31 l1 x20_2).f2)).f2)) ∧ w'.cell? (ad127.add ((((rd_T31 l1 x20_2).f2)).toNat * 3)) = some (.int .i64 ((rd_T103 x4_2 ((rd_T31 l1 x20_2).f2)).f0)) ∧ w'.cell? ⟨(ad127.add ((((rd_T31 l1 x20_2).f2)).toNat * 3)).block, (ad127.add ((((rd_T31 l1 x20_2).f2)).toNat * 3)).off + 1, none⟩ = some (.int .i64 ((rd_T103 x4_2 ((rd_T31 l1 x20_2).f2)).f1)) ∧ w'.cell? ⟨(ad127.add ((((rd_T31 l1 x20_2).f2)).toNat * 3)).block, (ad127.add ((((rd_T31 l1 x20_2).f2)).toNat * 3)).off + 2, none⟩ = some (.int .i64 ((rd_T103 x4_2 ((rd_T31 l1 x20_2).f2)).f2))) (ds := []) #[false,false,false,false,false,false,false,false,false,false,false,false,false,false,false,false,false,false,false,false,false,false,false,false,false,false] (by kernel_rfl) rfl rfl ⟨(blk_cell BK124.out 0).trans rfl, (blk_cell BK124.out 1).trans rfl, (blk_cell BK124.out 2).trans rfl, (blk_cell BK124.out 3).trans rfl, (blk_cell BK124.out 4).trans rfl, hx127_0, hx127_1, hx127_2, hx128_0, hx128_1, hx128_2, hx129_0, hx129_1, hx129_2⟩ (fun hHeld => ?_); refine with_tabW lay_places.tab13 lay_places.bits13 (fun HT_ HW_ => ?_)
        generalize w40.drew = w43 at HO_4 BK121 BK124 BK126 HB hx127_0 hx127_1 hx127_2 hx128_0 hx128_1 hx128_2 hx129_0 hx129_1 hx129_2 hHeld ⊢
        refine zq 0 (some 40) HT_ ?_; refine zq 2 (some 42) HT_ ?_; refine zq 3 (some 43) HT_ ?_; refine zq 9 (some 49) HT_ ?_; refine zq 10 (some 50) HT_ ?_; refine zq 15 (some 55) HT_ ?_; refine zq 17 (some 57) HT_ ?_; refine zq 18 (some 58) HT_ ?_; refine zt 1 (some 41) HT_ HW_ hHeld ?_; refine zt 4 (some 44) HT_ HW_ hHeld ?_; refine zq 5 (some 45) HT_ ?_; refine zq 6 (some 46) HT_ ?_; refine zt 7 (some 47) HT_ HW_ hHeld ?_; refine zq 8 (some 48) HT_ ?_; refine zt 11 (some 51) HT_ HW_ hHeld ?_; refine zq 12 (some 52) HT_ ?_; refine zq 13 (some 53) HT_ ?_; refine zt 14 (some 54) HT_ HW_ hHeld ?_; refine zt 16 (some 56) HT_ HW_ hHeld ?_; refine zt 19 (some 59) HT_ HW_ hHeld ?_; refine zq 20 (some 60) HT_ ?_; refine zq 21 (some 61) HT_ ?_; refine zt 22 (some 62) HT_ HW_ hHeld ?_; refine zq 23 (some 63) HT_ ?_; refine zq 24 (some 64) HT_ ?_
        refine one_ (i := 25) (N := none) #[true,true,true,true,true,true,true,true,true,true,true,true,true,true,true,true,true,true,true,true,true,true,true,true,true,true] rfl rfl (one_of HT_.out (by kernel_rfl)) (by decide) (fun K hK => ?_)
        have hs45 : w43.cell? ⟨gb126, 0, none⟩ = some (.int .i64 0) := (blk_cell BK126.out 0).trans rfl
        have hfs45 := blk_frozen BK126.out 0
        have hns45_0 := NB121_126.out
        have hns45_1 := NB124_126.out
        have hms45_0 := NB126_121.out
        have hms45_1 := NB126_124.out
        have hs46 : w43.cell? ⟨gb126, 1, none⟩ = some (.int .i64 0) := (blk_cell BK126.out 1).trans rfl
        have hfs46 := blk_frozen BK126.out 1
        have hns46_0 := NB121_126.out
        have hns46_1 := NB124_126.out
        have hms46_0 := NB126_121.out
        have hms46_1 := NB126_124.out
        have hs47 : w43.cell? ⟨gb126, 2, none⟩ = some (.int .i64 0) := (blk_cell BK126.out 2).trans rfl
        have hfs47 := blk_frozen BK126.out 2
        have hns47_0 := NB121_126.out
        have hns47_1 := NB124_126.out
        have hms47_0 := NB126_121.out
        have hms47_1 := NB126_124.out
        refine skip_ (w1 := ?_) (by rfl) rfl ?_ ?_
        rotate_left
        ·go_simp
         rfl
        refine hK.out _ _ ⟨((cell_far (p := ⟨gb126, _, none⟩) NB124_126.out _).trans (((cell_far (p := ⟨gb126, _, none⟩) NB124_126.out _).trans (((cell_far (p := ⟨gb126, _, none⟩) NB124_126.out _).trans (hHeld.1)))))), ((cell_far (p := ⟨gb126, _, none⟩) NB124_126.out _).trans (((cell_far (p := ⟨gb126, _, none⟩) NB124_126.out _).trans (((cell_far (p := ⟨gb126, _, none⟩) NB124_126.out _).trans (hHeld.2.1)))))), ((cell_far (p := ⟨gb126, _, none⟩) NB124_126.out _).trans (((cell_far (p := ⟨gb126, _, none⟩) NB124_126.out _).trans (((cell_far (p := ⟨gb126, _, none⟩) NB124_126.out _).trans (hHeld.2.2.1)))))), ((cell_far (p := ⟨gb126, _, none⟩) NB124_126.out _).trans (((cell_far (p := ⟨gb126, _, none⟩) NB124_126.out _).trans (((cell_far (p := ⟨gb126, _, none⟩) NB124_126.out _).trans (hHeld.2.2.2.1)))))), ((cell_far (p := ⟨gb126, _, none⟩) NB124_126.out _).trans (((cell_far (p := ⟨gb126, _, none⟩) NB124_126.out _).trans (((cell_far (p := ⟨gb126, _, none⟩) NB124_126.out _).trans (hHeld.2.2.2.2.1)))))), ((cell_far (p := ⟨gb126, _, none⟩) (by first | exact Kd.own_blk (Kd.R_away HO_4.out (fun _ hk => hk.2)) | (rw [add_block]; exact Kd.own_blk (Kd.R_away HO_4.out (fun _ hk => hk.2))) | (show (Addr.add _ _).block ≠ _; rw [add_block]; exact Kd.own_blk (Kd.R_away HO_4.out (fun _ hk => hk.2))) | (dsimp only; exact Kd.own_blk (Kd.R_away HO_4.out (fun _ hk => hk.2)))) _).trans (((cell_far (p := ⟨gb126, _, none⟩) (by first | exact Kd.own_blk (Kd.R_away HO_4.out (fun _ hk => hk.2)) | (rw [add_block]; exact Kd.own_blk (Kd.R_away HO_4.out (fun _ hk => hk.2))) | (show (Addr.add _ _).block ≠ _; rw [add_block]; exact Kd.own_blk (Kd.R_away HO_4.out (fun _ hk => hk.2))) | (dsimp only; exact Kd.own_blk (Kd.R_away HO_4.out (fun _ hk => hk.2)))) _).trans (((cell_far (p := ⟨gb126, _, none⟩) (by first | exact Kd.own_blk (Kd.R_away HO_4.out (fun _ hk => hk.2)) | (rw [add_block]; exact Kd.own_blk (Kd.R_away HO_4.out (fun _ hk => hk.2))) | (show (Addr.add _ _).block ≠ _; rw [add_block]; exact Kd.own_blk (Kd.R_away HO_4.out (fun _ hk => hk.2))) | (dsimp only; exact Kd.own_blk (Kd.R_away HO_4.out (fun _ hk => hk.2)))) _).trans (hHeld.2.2.2.2.2.1)))))), ((cell_far (p := ⟨gb126, _, none⟩) (by first | exact Kd.own_blk (Kd.R_away HO_4.out (fun _ hk => hk.2)) | (rw [add_block]; exact Kd.own_blk (Kd.R_away HO_4.out (fun _ hk => hk.2))) | (show (Addr.add _ _).block ≠ _; rw [add_block]; exact Kd.own_blk (Kd.R_away HO_4.out (fun _ hk => hk.2))) | (dsimp only; exact Kd.own_blk (Kd.R_away HO_4.out (fun _ hk => hk.2)))) _).trans (((cell_far (p := ⟨gb126, _, none⟩) (by first | exact Kd.own_blk (Kd.R_away HO_4.out (fun _ hk => hk.2)) | (rw [add_block]; exact Kd.own_blk (Kd.R_away HO_4.out (fun _ hk => hk.2))) | (show (Addr.add _ _).block ≠ _; rw [add_block]; exact Kd.own_blk (Kd.R_away HO_4.out (fun _ hk => hk.2))) | (dsimp only; exact Kd.own_blk (Kd.R_away HO_4.out (fun _ hk => hk.2)))) _).trans (((cell_far (p := ⟨gb126, _, none⟩) (by first | exact Kd.own_blk (Kd.R_away HO_4.out (fun _ hk => hk.2)) | (rw [add_block]; exact Kd.own_blk (Kd.R_away HO_4.out (fun _ hk => hk.2))) | (show (Addr.add _ _).block ≠ _; rw [add_block]; exact Kd.own_blk (Kd.R_away HO_4.out (fun _ hk => hk.2))) | (dsimp only; exact Kd.own_blk (Kd.R_away HO_4.out (fun _ hk => hk.2)))) _).trans (hHeld.2.2.2.2.2.2.1)))))), ((cell_far (p := ⟨gb126, _, none⟩) (by first | exact Kd.own_blk (Kd.R_away HO_4.out (fun _ hk => hk.2)) | (rw [add_block]; exact Kd.own_blk (Kd.R_away HO_4.out (fun _ hk => hk.2))) | (show (Addr.add _ _).block ≠ _; rw [add_block]; exact Kd.own_blk (Kd.R_away HO_4.out (fun _ hk => hk.2))) | (dsimp only; exact Kd.own_blk (Kd.R_away HO_4.out (fun _ hk => hk.2)))) _).trans (((cell_far (p := ⟨gb126, _, none⟩) (by first | exact Kd.own_blk (Kd.R_away HO_4.out (fun _ hk => hk.2)) | (rw [add_block]; exact Kd.own_blk (Kd.R_away HO_4.out (fun _ hk => hk.2))) | (show (Addr.add _ _).block ≠ _; rw [add_block]; exact Kd.own_blk (Kd.R_away HO_4.out (fun _ hk => hk.2))) | (dsimp only; exact Kd.own_blk (Kd.R_away HO_4.out (fun _ hk => hk.2)))) _).trans (((cell_far (p := ⟨gb126, _, none⟩) (by first | exact Kd.own_blk (Kd.R_away HO_4.out (fun _ hk => hk.2)) | (rw [add_block]; exact Kd.own_blk (Kd.R_away HO_4.out (fun _ hk => hk.2))) | (show (Addr.add _ _).block ≠ _; rw [add_block]; exact Kd.own_blk (Kd.R_away HO_4.out (fun _ hk => hk.2))) | (dsimp only; exact Kd.own_blk (Kd.R_away HO_4.out (fun _ hk => hk.2)))) _).trans (hHeld.2.2.2.2.2.2.2.1)))))), ((cell_far (p := ⟨gb126, _, none⟩) (by first | exact Kd.own_blk (Kd.R_away HO_4.out (fun _ hk => hk.2)) | (rw [add_block]; exact Kd.own_blk (Kd.R_away HO_4.out (fun _ hk => hk.2))) | (show (Addr.add _ _).block ≠ _; rw [add_block]; exact Kd.own_blk (Kd.R_away HO_4.out (fun _ hk => hk.2))) | (dsimp only; exact Kd.own_blk (Kd.R_away HO_4.out (fun _ hk => hk.2)))) _).trans (((cell_far (p := ⟨gb126, _, none⟩) (by first | exact Kd.own_blk (Kd.R_away HO_4.out (fun _ hk => hk.2)) | (rw [add_block]; exact Kd.own_blk (Kd.R_away HO_4.out (fun _ hk => hk.2))) | (show (Addr.add _ _).block ≠ _; rw [add_block]; exact Kd.own_blk (Kd.R_away HO_4.out (fun _ hk => hk.2))) | (dsimp only; exact Kd.own_blk (Kd.R_away HO_4.out (fun _ hk => hk.2)))) _).trans (((cell_far (p := ⟨gb126, _, none⟩) (by first | exact Kd.own_blk (Kd.R_away HO_4.out (fun _ hk => hk.2)) | (rw [add_block]; exact Kd.own_blk (Kd.R_away HO_4.out (fun _ hk => hk.2))) | (show (Addr.add _ _).block ≠ _; rw [add_block]; exact Kd.own_blk (Kd.R_away HO_4.out (fun _ hk => hk.2))) | (dsimp only; exact Kd.own_blk (Kd.R_away HO_4.out (fun _ hk => hk.2)))) _).trans (hHeld.2.2.2.2.2.2.2.2.1)))))), ((cell_far (p := ⟨gb126, _, none⟩) (by first | exact Kd.own_blk (Kd.R_away HO_4.out (fun _ hk => hk.2)) | (rw [add_block]; exact Kd.own_blk (Kd.R_away HO_4.out (fun _ hk => hk.2))) | (show (Addr.add _ _).block ≠ _; rw [add_block]; exact Kd.own_blk (Kd.R_away HO_4.out (fun _ hk => hk.2))) | (dsimp only; exact Kd.own_blk (Kd.R_away HO_4.out (fun _ hk => hk.2)))) _).trans (((cell_far (p := ⟨gb126, _, none⟩) (by first | exact Kd.own_blk (Kd.R_away HO_4.out (fun _ hk => hk.2)) | (rw [add_block]; exact Kd.own_blk (Kd.R_away HO_4.out (fun _ hk => hk.2))) | (show (Addr.add _ _).block ≠ _; rw [add_block]; exact Kd.own_blk (Kd.R_away HO_4.out (fun _ hk => hk.2))) | (dsimp only; exact Kd.own_blk (Kd.R_away HO_4.out (fun _ hk => hk.2)))) _).trans (((cell_far (p := ⟨gb126, _, none⟩) (by first | exact Kd.own_blk (Kd.R_away HO_4.out (fun _ hk => hk.2)) | (rw [add_block]; exact Kd.own_blk (Kd.R_away HO_4.out (fun _ hk => hk.2))) | (show (Addr.add _ _).block ≠ _; rw [add_block]; exact Kd.own_blk (Kd.R_away HO_4.out (fun _ hk => hk.2))) | (dsimp only; exact Kd.own_blk (Kd.R_away HO_4.out (fun _ hk => hk.2)))) _).trans (hHeld.2.2.2.2.2.2.2.2.2.1)))))), ((cell_far (p := ⟨gb126, _, none⟩) (by first | exact Kd.own_blk (Kd.R_away HO_4.out (fun _ hk => hk.2)) | (rw [add_block]; exact Kd.own_blk (Kd.R_away HO_4.out (fun _ hk => hk.2))) | (show (Addr.add _ _).block ≠ _; rw [add_block]; exact Kd.own_blk (Kd.R_away HO_4.out (fun _ hk => hk.2))) | (dsimp only; exact Kd.own_blk (Kd.R_away HO_4.out (fun _ hk => hk.2)))) _).trans (((cell_far (p := ⟨gb126, _, none⟩) (by first | exact Kd.own_blk (Kd.R_away HO_4.out (fun _ hk => hk.2)) | (rw [add_block]; exact Kd.own_blk (Kd.R_away HO_4.out (fun _ hk => hk.2))) | (show (Addr.add _ _).block ≠ _; rw [add_block]; exact Kd.own_blk (Kd.R_away HO_4.out (fun _ hk => hk.2))) | (dsimp only; exact Kd.own_blk (Kd.R_away HO_4.out (fun _ hk => hk.2)))) _).trans (((cell_far (p := ⟨gb126, _, none⟩) (by first | exact Kd.own_blk (Kd.R_away HO_4.out (fun _ hk => hk.2)) | (rw [add_block]; exact Kd.own_blk (Kd.R_away HO_4.out (fun _ hk => hk.2))) | (show (Addr.add _ _).block ≠ _; rw [add_block]; exact Kd.own_blk (Kd.R_away HO_4.out (fun _ hk => hk.2))) | (dsimp only; exact Kd.own_blk (Kd.R_away HO_4.out (fun _ hk => hk.2)))) _).trans (hHeld.2.2.2.2.2.2.2.2.2.2.1)))))), ((cell_far (p := ⟨gb126, _, none⟩) (by first | exact Kd.own_blk (Kd.R_away HO_4.out (fun _ hk => hk.2)) | (rw [add_block]; exact Kd.own_blk (Kd.R_away HO_4.out (fun _ hk => hk.2))) | (show (Addr.add _ _).block ≠ _; rw [add_block]; exact Kd.own_blk (Kd.R_away HO_4.out (fun _ hk => hk.2))) | (dsimp only; exact Kd.own_blk (Kd.R_away HO_4.out (fun _ hk => hk.2)))) _).trans (((cell_far (p := ⟨gb126, _, none⟩) (by first | exact Kd.own_blk (Kd.R_away HO_4.out (fun _ hk => hk.2)) | (rw [add_block]; exact Kd.own_blk (Kd.R_away HO_4.out (fun _ hk => hk.2))) | (show (Addr.add _ _).block ≠ _; rw [add_block]; exact Kd.own_blk (Kd.R_away HO_4.out (fun _ hk => hk.2))) | (dsimp only; exact Kd.own_blk (Kd.R_away HO_4.out (fun _ hk => hk.2)))) _).trans (((cell_far (p := ⟨gb126, _, none⟩) (by first | exact Kd.own_blk (Kd.R_away HO_4.out (fun _ hk => hk.2)) | (rw [add_block]; exact Kd.own_blk (Kd.R_away HO_4.out (fun _ hk => hk.2))) | (show (Addr.add _ _).block ≠ _; rw [add_block]; exact Kd.own_blk (Kd.R_away HO_4.out (fun _ hk => hk.2))) | (dsimp only; exact Kd.own_blk (Kd.R_away HO_4.out (fun _ hk => hk.2)))) _).trans (hHeld.2.2.2.2.2.2.2.2.2.2.2.1)))))), ((cell_far (p := ⟨gb126, _, none⟩) (by first | exact Kd.own_blk (Kd.R_away HO_4.out (fun _ hk => hk.2)) | (rw [add_block]; exact Kd.own_blk (Kd.R_away HO_4.out (fun _ hk => hk.2))) | (show (Addr.add _ _).block ≠ _; rw [add_block]; exact Kd.own_blk (Kd.R_away HO_4.out (fun _ hk => hk.2))) | (dsimp only; exact Kd.own_blk (Kd.R_away HO_4.out (fun _ hk => hk.2)))) _).trans (((cell_far (p := ⟨gb126, _, none⟩) (by first | exact Kd.own_blk (Kd.R_away HO_4.out (fun _ hk => hk.2)) | (rw [add_block]; exact Kd.own_blk (Kd.R_away HO_4.out (fun _ hk => hk.2))) | (show (Addr.add _ _).block ≠ _; rw [add_block]; exact Kd.own_blk (Kd.R_away HO_4.out (fun _ hk => hk.2))) | (dsimp only; exact Kd.own_blk (Kd.R_away HO_4.out (fun _ hk => hk.2)))) _).trans (((cell_far (p := ⟨gb126, _, none⟩) (by first | exact Kd.own_blk (Kd.R_away HO_4.out (fun _ hk => hk.2)) | (rw [add_block]; exact Kd.own_blk (Kd.R_away HO_4.out (fun _ hk => hk.2))) | (show (Addr.add _ _).block ≠ _; rw [add_block]; exact Kd.own_blk (Kd.R_away HO_4.out (fun _ hk => hk.2))) | (dsimp only; exact Kd.own_blk (Kd.R_away HO_4.out (fun _ hk => hk.2)))) _).trans (hHeld.2.2.2.2.2.2.2.2.2.2.2.2.1)))))), ((cell_far (p := ⟨gb126, _, none⟩) (by first | exact Kd.own_blk (Kd.R_away HO_4.out (fun _ hk => hk.2)) | (rw [add_block]; exact Kd.own_blk (Kd.R_away HO_4.out (fun _ hk => hk.2))) | (show (Addr.add _ _).block ≠ _; rw [add_block]; exact Kd.own_blk (Kd.R_away HO_4.out (fun _ hk => hk.2))) | (dsimp only; exact Kd.own_blk (Kd.R_away HO_4.out (fun _ hk => hk.2)))) _).trans (((cell_far (p := ⟨gb126, _, none⟩) (by first | exact Kd.own_blk (Kd.R_away HO_4.out (fun _ hk => hk.2)) | (rw [add_block]; exact Kd.own_blk (Kd.R_away HO_4.out (fun _ hk => hk.2))) | (show (Addr.add _ _).block ≠ _; rw [add_block]; exact Kd.own_blk (Kd.R_away HO_4.out (fun _ hk => hk.2))) | (dsimp only; exact Kd.own_blk (Kd.R_away HO_4.out (fun _ hk => hk.2)))) _).trans (((cell_far (p := ⟨gb126, _, none⟩) (by first | exact Kd.own_blk (Kd.R_away HO_4.out (fun _ hk => hk.2)) | (rw [add_block]; exact Kd.own_blk (Kd.R_away HO_4.out (fun _ hk => hk.2))) | (show (Addr.add _ _).block ≠ _; rw [add_block]; exact Kd.own_blk (Kd.R_away HO_4.out (fun _ hk => hk.2))) | (dsimp only; exact Kd.own_blk (Kd.R_away HO_4.out (fun _ hk => hk.2)))) _).trans (hHeld.2.2.2.2.2.2.2.2.2.2.2.2.2))))))⟩ (fun hHeld => ?_)
        clear hK K
        refine done_ (done_of HT_.out (by kernel_rfl)) ?_
        have hnb48 := NB126_121.out
        have hnc48 := NB121_126.out
        have hcz49_0 := zc BK126.out 0
        have hcz49_1 := zc BK126.out 1
        have hcz49_2 := zc BK126.out 2
        have hfz49_0 := blk_frozen BK126.out 0
        have hfz49_1 := blk_frozen BK126.out 1
        have hfz49_2 := blk_frozen BK126.out 2
        try go_wp2
        go_ret2
        exact ⟨_, ze, by first | exact Kd.R_nil _ _ _ _ _ | exact Kd.N_nil _ _ _ _ _ | exact Kd.V_nil _ _ _ _ _ | exact Kd.Q_nil _ _ _ _ _ | exact Kd.S_nil _ _ _ _ _, zw3 HB.out GE121.out GE124.out GE126.out⟩
       rw [if_neg c35] at H
       have c35b0 : decide (64 < (wrap64 (((rd_T31 l1 x20_2).f1) * ((rd_T103 x4_2 ((rd_T31 l1 x20_2).f2)).f2)))) = false := decide_eq_false c35
       clear c35
       by_cases c50 : x4_2.length < 5864062014805
       rotate_left
       ·rw [if_neg c50] at H
        exact absurd H (by simp)
       rw [if_pos c50] at H
       have LMc50 := Aside0.mk c50
       clear c50
       obtain ⟨y130, hy130⟩ : ∃ y_ : List (S103), y_ = (x4_2 ++ [(⟨wrap64 (((rd_T31 l1 x20_2).f1) * ((rd_T103 x4_2 ((rd_T31 l1 x20_2).f2)).f0)), (rd_T103 x4_2 ((rd_T31 l1 x20_2).f2)).f1, wrap64 (((rd_T31 l1 x20_2).f1) * ((rd_T103 x4_2 ((rd_T31 l1 x20_2).f2)).f2))⟩ : S103)]) := ⟨_, rfl⟩
       replace H : (lay_places.l0 k2 y130 l1 (l1.length : Int) (wrap64 (x20_2 + 1)) a0_0 a0_1) = some (r1, r2) := by first | (rw [hy130]; with_reducible exact H) | (have H2_ := (Option.bind_some _ _).symm.trans H; rw [hy130]; with_reducible exact H2_) | (have H2_ := (Option.bind_some _ _).symm.trans H; with_reducible exact H2_) | with_reducible exact H | (rw [hy130]; exact H) | exact H
       have Ny130 := Aside0.mk hy130
       clear hy130
       have H' := Aside0.mk H
       clear H
       have p123 : 0 ≤ (x20_2 : Int) := zdec
       have q123 : x20_2 < (l1.length : Int) := zdec
       obtain ⟨ad123, A123_3, c123_3, A123_4, c123_4, e123, hx123_0, hx123_1, hx123_2, hx123_3, hx123_4, hl123_3, hi123_3, hl123_4, hi123_4⟩ := at_T31 HR1.out x20_2 p123 q123
       cases e123
       replace hx123_0 := zh HB.out hx123_0
       replace hx123_1 := zh HB.out hx123_1
       replace hx123_2 := zh HB.out hx123_2
       replace hx123_3 := zh HB.out hx123_3
       replace hx123_4 := zh HB.out hx123_4
       have HR123_3 := Aside0.mk hi123_3
       have HC123_3 := Aside0.mk hl123_3
       clear hi123_3 hl123_3
       have HR123_4 := Aside0.mk hi123_4
       have HC123_4 := Aside0.mk hl123_4
       clear hi123_4 hl123_4
       replace p123 := eq_true p123
       replace q123 := eq_true q123
       try go_wp2_with (first | ((with_reducible refine gate_dst (N := 7) rfl ?_); (try (refine gate_guard (by rfl) ?_; dsimp only)); refine zbox (N := 7) (cs := #[.int .i64 0, .int .i64 0, .int .i64 0, .slice none 0 0, .slice none 0 0]) (t := 31) ?_; intro gb124 hg w51 hbox hb; have n0_ := Aside0.mk (Kd.R_below (by (with_reducible repeat (first | apply Kd.R_alloc | apply Kd.R_drewN | apply Kd.R_drew)); exact HO_4.out) hb); have n1_ := Aside0.mk (zbb BK121.out hb); have n2_ := Aside0.mk (below_step (zw1 HB.out GE121.out) hb); have BK124 := Aside0.mk (hbox); have GW124 := Aside0.mk (zg hg (below_size (zw1 HB.out GE121.out))); have GE124 := GW124; have NB121_124 := Aside0.mk (zlt hg BK121.out); have NB124_121 := Aside0.mk (zgt hg BK121.out); clear HO_4 BK121 HB; have HO_4 := n0_; have BK121 := n1_; have HB := n2_; clear n0_ n1_ n2_; clear hb hbox hg; have hnb52 := NB124_121.out; have hnc52 := NB121_124.out; have hcz53_0 := zc BK124.out 0; have hcz53_1 := zc BK124.out 1; have hcz53_2 := zc BK124.out 2; have hcz53_3 := zc BK124.out 3; have hcz53_4 := zc BK124.out 4; have hfz53_0 := blk_frozen BK124.out 0; have hfz53_1 := blk_frozen BK124.out 1; have hfz53_2 := blk_frozen BK124.out 2; have hfz53_3 := blk_frozen BK124.out 3; have hfz53_4 := blk_frozen BK124.out 4) | ((with_reducible refine gate_callee (f := 85) rfl ?_); refine zgo (some 27) Try.func85 #[.agg #[.int .i64 ((rd_T31 l1 x20_2).f0), .int .i64 ((rd_T31 l1 x20_2).f1), .int .i64 ((rd_T31 l1 x20_2).f2), .slice A123_3 ((rd_T31 l1 x20_2).f3).length c123_3, .slice A123_4 ((rd_T31 l1 x20_2).f4).length c123_4], .int .i64 x20_2] ?_; (with_reducible refine (lay_form.calls k2 ((rd_T31 l1 x20_2).f0) ((rd_T31 l1 x20_2).f1) ((rd_T31 l1 x20_2).f2) _ _ ((rd_T31 l1 x20_2).f3) _ _ ((rd_T31 l1 x20_2).f4) x20_2 true _ ?side1 ?side2 ?side3 ?side4 A15.out).mono ?_); (case side1 => exact Kd.C_below HR123_3.out (zw2 HB.out GE121.out GE124.out)); (case side2 => exact HC123_3.out); (case side3 => exact Kd.C_below HR123_4.out (zw2 HB.out GE121.out GE124.out)); (case side4 => exact HC123_4.out); rintro e w54 ⟨rfl, hb⟩; refine ⟨_, rfl, ?_⟩; have n0_ := Aside0.mk (Kd.R_below (by (with_reducible repeat (first | apply Kd.R_alloc | apply Kd.R_drewN | apply Kd.R_drew)); exact (Kd.R_mono (Kd.R_far (p := ⟨gb124, 4, none⟩) (Kd.R_far (p := ⟨gb124, 3, none⟩) (Kd.R_far (p := ⟨gb124, 2, none⟩) (Kd.R_far (p := ⟨gb124, 1, none⟩) (Kd.R_far (p := ⟨gb124, 0, none⟩) (Kd.R_types HO_4.out BK124.out (by decide)) (fun _ hk => hk.2) (.int .i64 ((rd_T31 l1 x20_2).f0))) (fun _ hk => hk.2) (.int .i64 ((rd_T31 l1 x20_2).f1))) (fun _ hk => hk.2) (.int .i64 ((rd_T31 l1 x20_2).f2))) (fun _ hk => hk.2) (.slice A123_3 ((rd_T31 l1 x20_2).f3).length c123_3)) (fun _ hk => hk.2) (.slice A123_4 ((rd_T31 l1 x20_2).f4).length c123_4)) (fun _ h_ => h_.1))) hb); have n1_ := Aside0.mk (blk_below (g := gb121) (o := .cells #[.bool a0_0, .int .i64 a0_1] 29 (0, 0)) (zf1 BK121.out NB121_124.out) hb); have n2_ := Aside0.mk (blk_below (g := gb124) (o := .cells #[.int .i64 ((rd_T31 l1 x20_2).f0), .int .i64 ((rd_T31 l1 x20_2).f1), .int .i64 ((rd_T31 l1 x20_2).f2), .slice A123_3 ((rd_T31 l1 x20_2).f3).length c123_3, .slice A123_4 ((rd_T31 l1 x20_2).f4).length c123_4] 31 (0, 0)) (by (with_reducible repeat (first | refine blk_drewN ?_ _ | refine blk_drew ?_ | refine blk_alloc ?_ _)); refine blk_put (cs := #[.int .i64 ((rd_T31 l1 x20_2).f0), .int .i64 ((rd_T31 l1 x20_2).f1), .int .i64 ((rd_T31 l1 x20_2).f2), .slice A123_3 ((rd_T31 l1 x20_2).f3).length c123_3, .slice none 0 0]) ?_ 4 _ rfl; (with_reducible repeat (first | refine blk_drewN ?_ _ | refine blk_drew ?_ | refine blk_alloc ?_ _)); refine blk_put (cs := #[.int .i64 ((rd_T31 l1 x20_2).f0), .int .i64 ((rd_T31 l1 x20_2).f1), .int .i64 ((rd_T31 l1 x20_2).f2), .slice none 0 0, .slice none 0 0]) ?_ 3 _ rfl; (with_reducible repeat (first | refine blk_drewN ?_ _ | refine blk_drew ?_ | refine blk_alloc ?_ _)); refine blk_put (cs := #[.int .i64 ((rd_T31 l1 x20_2).f0), .int .i64 ((rd_T31 l1 x20_2).f1), .int .i64 0, .slice none 0 0, .slice none 0 0]) ?_ 2 _ rfl; (with_reducible repeat (first | refine blk_drewN ?_ _ | refine blk_drew ?_ | refine blk_alloc ?_ _)); refine blk_put (cs := #[.int .i64 ((rd_T31 l1 x20_2).f0), .int .i64 0, .int .i64 0, .slice none 0 0, .slice none 0 0]) ?_ 1 _ rfl; (with_reducible repeat (first | refine blk_drewN ?_ _ | refine blk_drew ?_ | refine blk_alloc ?_ _)); refine blk_put (cs := #[.int .i64 0, .int .i64 0, .int .i64 0, .slice none 0 0, .slice none 0 0]) ?_ 0 _ rfl; (with_reducible repeat (first | refine blk_drewN ?_ _ | refine blk_drew ?_ | refine blk_alloc ?_ _)); exact BK124.out) hb); have n3_ := Aside0.mk (below_step (zw2 HB.out GE121.out GE124.out) hb); clear HO_4 BK121 BK124 HB; have HO_4 := n0_; have BK121 := n1_; have BK124 := n2_; have HB := n3_; clear n0_ n1_ n2_ n3_; (try clear hb); (try clear hb2); (try clear hk); (try clear hi)) | ((with_reducible refine gate_dst (N := 8) rfl ?_); (try (refine gate_guard (by rfl) ?_; dsimp only)); refine zbox (N := 8) (cs := #[.int .i64 0, .int .i64 0, .int .i64 0]) (t := 103) ?_; intro gb126 hg w55 hbox hb; have n0_ := Aside0.mk (Kd.R_below (Kd.R_elderB (by (with_reducible repeat (first | apply Kd.R_alloc | apply Kd.R_drewN | apply Kd.R_drew)); exact HO_4.out) gb126 (Nat.le_of_eq hg.symm)) hb); have n1_ := Aside0.mk (zbb BK121.out hb); have n2_ := Aside0.mk (zbb BK124.out hb); have n3_ := Aside0.mk (below_step (zw2 HB.out GE121.out GE124.out) hb); have BK126 := Aside0.mk (hbox); have GW126 := Aside0.mk (zg hg (below_size (zw2 HB.out GE121.out GE124.out))); have GE126 := GW126; have NB121_126 := Aside0.mk (zlt hg BK121.out); have NB126_121 := Aside0.mk (zgt hg BK121.out); have NB124_126 := Aside0.mk (zlt hg BK124.out); have NB126_124 := Aside0.mk (zgt hg BK124.out); clear HO_4 BK121 BK124 HB; have HO_4 := n0_; have BK121 := n1_; have BK124 := n2_; have HB := n3_; clear n0_ n1_ n2_ n3_; clear hb hbox hg; have hnb56 := NB124_126.out; have hnc56 := NB126_124.out; have hcz57_0 := zc BK124.out 0; have hcz57_1 := zc BK124.out 1; have hcz57_2 := zc BK124.out 2; have hcz57_3 := zc BK124.out 3; have hcz57_4 := zc BK124.out 4; have hfz57_0 := blk_frozen BK124.out 0; have hfz57_1 := blk_frozen BK124.out 1; have hfz57_2 := blk_frozen BK124.out 2; have hfz57_3 := blk_frozen BK124.out 3; have hfz57_4 := blk_frozen BK124.out 4))
       have n0_ := Aside0.mk (Kd.R_drew HO_4.out)
       have n1_ := Aside0.mk (blk_drew BK121.out)
       have n2_ := Aside0.mk (blk_drew BK124.out)
       have n3_ := Aside0.mk (blk_drew BK126.out)
       have n4_ := Aside0.mk (below_drew1 HB.out)
       clear HO_4
       clear BK121
       clear BK124
       clear BK126
       clear HB
       have HO_4 := n0_
       have BK121 := n1_
       have BK124 := n2_
       have BK126 := n3_
       have HB := n4_
       clear n0_ n1_ n2_ n3_ n4_
       obtain ⟨Ao59, co59, eo59⟩ := Kd.R_slice HO_4.out
       (first | subst eo59 | (injection eo59 with f1_ f2_ f3_; have f4_ := f1_.symm; have f5_ := f3_.symm; clear f1_ f2_ f3_; subst f4_; subst f5_))
       have p127 : 0 ≤ (((rd_T31 l1 x20_2).f2) : Int) := zdec
       have q127 : ((rd_T31 l1 x20_2).f2) < (x4_2.length : Int) := zdec
       obtain ⟨ad127, e127, hx127_0, hx127_1, hx127_2⟩ := at_T103 (Kd.R_reads' HO_4.out).2.2 ((rd_T31 l1 x20_2).f2) p127 q127
       cases e127
       replace p127 := eq_true p127
       replace q127 := eq_true q127
       have p128 : 0 ≤ (((rd_T31 l1 x20_2).f2) : Int) := zdec
       have q128 : ((rd_T31 l1 x20_2).f2) < (x4_2.length : Int) := zdec
       obtain ⟨ad128, e128, hx128_0, hx128_1, hx128_2⟩ := at_T103 (Kd.R_reads' HO_4.out).2.2 ((rd_T31 l1 x20_2).f2) p128 q128
       obtain rfl : ad127 = ad128 := (by injection e128)
       replace p128 := eq_true p128
       replace q128 := eq_true q128
       have p129 : 0 ≤ (((rd_T31 l1 x20_2).f2) : Int) := zdec
       have q129 : ((rd_T31 l1 x20_2).f2) < (x4_2.length : Int) := zdec
       obtain ⟨ad129, e129, hx129_0, hx129_1, hx129_2⟩ := at_T103 (Kd.R_reads' HO_4.out).2.2 ((rd_T31 l1 x20_2).f2) p129 q129
       obtain rfl : ad127 = ad129 := (by injection e129)
       replace p129 := eq_true p129
       replace q129 := eq_true q129
       refine start_ (n := 26) (S := fun w' => w'.cell? ⟨gb124, 0, none⟩ = some (.int .i64 ((rd_T31 l1 x20_2).f0)) ∧ w'.cell? ⟨gb124, 1, none⟩ = some (.int .i64 ((rd_T31 l1 x20_2).f1)) ∧ w'.cell? ⟨gb124, 2, none⟩ = some (.int .i64 ((rd_T31 l1 x20_2).f2)) ∧ w'.cell? ⟨gb124, 3, none⟩ = some (.slice A123_3 ((rd_T31 l1 x20_2).f3).length c123_3) ∧ w'.cell? ⟨gb124, 4, none⟩ = some (.slice A123_4 ((rd_T31 l1 x20_2).f4).length c123_4) ∧ w'.cell? (ad127.add ((((rd_T31 l1 x20_2).f2)).toNat * 3)) = some (.int .i64 ((rd_T103 x4_2 ((rd_T31 l1 x20_2).f2)).f0)) ∧ w'.cell? ⟨(ad127.add ((((rd_T31 l1 x20_2).f2)).toNat * 3)).block, (ad127.add ((((rd_T31 l1 x20_2).f2)).toNat * 3)).off + 1, none⟩ = some (.int .i64 ((rd_T103 x4_2 ((rd_T31 l1 x20_2).f2)).f1)) ∧ w'.cell? ⟨(ad127.add ((((rd_T31 l1 x20_2).f2)).toNat * 3)).block, (ad127.add ((((rd_T31 l1 x20_2).f2)).toNat * 3)).off + 2, none⟩ = some (.int .i64 ((rd_T103 x4_2 ((rd_T31 l1 x20_2).f2)).f2)) ∧ w'.cell? (ad127.add ((((rd_T31 l1 x20_2).f2)).toNat * 3)) = some (.int .i64 ((rd_T103 x4_2 ((rd_T31 l1 x20_2).f2)).f0)) ∧ w'.cell? ⟨(ad127.add ((((rd_T31 l1 x20_2).f2)).toNat * 3)).block, (ad127.add ((((rd_T31 l1 x20_2).f2)).toNat * 3)).off + 1, none⟩ = some (.int .i64 ((rd_T103 x4_2 ((rd_T31 l1 x20_2).f2)).f1)) ∧ w'.cell? ⟨(ad127.add ((((rd_T31 l1 x20_2).f2)).toNat * 3)).block, (ad127.add ((((rd_T31 l1 x20_2).f2)).toNat * 3)).off + 2, none⟩ = some (.int .i64 ((rd_T103 x4_2 ((rd_T31 l1 x20_2).f2)).f2)) ∧ w'.cell? (ad127.add ((((rd_T31 l1 x20_2).f2)).toNat * 3)) = some (.int .i64 ((rd_T103 x4_2 ((rd_T31 l1 x20_2).f2)).f0)) ∧ w'.cell? ⟨(ad127.add ((((rd_T31 l1 x20_2).f2)).toNat * 3)).block, (ad127.add ((((rd_T31 l1 x20_2).f2)).toNat * 3)).off + 1, none⟩ = some (.int .i64 ((rd_T103 x4_2 ((rd_T31 l1 x20_2).f2)).f1)) ∧ w'.cell? ⟨(ad127.add ((((rd_T31 l1 x20_2).f2)).toNat * 3)).block, (ad127.add ((((rd_T31 l1 x20_2).f2)).toNat * 3)).off + 2, none⟩ = some (.int .i64 ((rd_T103 x4_2 ((rd_T31 l1 x20_2).f2)).f2))) (ds := []) #[false,false,false,false,false,false,false,false,false,false,false,false,false,false,false,false,false,false,false,false,false,false,false,false,false,false] (by kernel_rfl) rfl rfl ⟨(blk_cell BK124.out 0).trans rfl, (blk_cell BK124.out 1).trans rfl, (blk_cell BK124.out 2).trans rfl, (blk_cell BK124.out 3).trans rfl, (blk_cell BK124.out 4).trans rfl, hx127_0, hx127_1, hx127_2, hx128_0, hx128_1, hx128_2, hx129_0, hx129_1, hx129_2⟩ (fun hHeld => ?_); refine with_tabW lay_places.tab13 lay_places.bits13 (fun HT_ HW_ => ?_)
       generalize w55.drew = w58 at HO_4 BK121 BK124 BK126 HB hx127_0 hx127_1 hx127_2 hx128_0 hx128_1 hx128_2 hx129_0 hx129_1 hx129_2 hHeld ⊢
       refine zq 0 (some 40) HT_ ?_; refine zq 2 (some 42) HT_ ?_; refine zq 3 (some 43) HT_ ?_; refine zq 9 (some 49) HT_ ?_; refine zq 10 (some 50) HT_ ?_; refine zq 15 (some 55) HT_ ?_; refine zq 17 (some 57) HT_ ?_; refine zq 18 (some 58) HT_ ?_; refine zt 1 (some 41) HT_ HW_ hHeld ?_; refine zt 4 (some 44) HT_ HW_ hHeld ?_; refine zq 5 (some 45) HT_ ?_; refine zq 6 (some 46) HT_ ?_; refine zt 7 (some 47) HT_ HW_ hHeld ?_; refine zq 8 (some 48) HT_ ?_; refine zt 11 (some 51) HT_ HW_ hHeld ?_; refine zq 12 (some 52) HT_ ?_; refine zq 13 (some 53) HT_ ?_; refine zt 14 (some 54) HT_ HW_ hHeld ?_; refine zt 16 (some 56) HT_ HW_ hHeld ?_; refine zt 19 (some 59) HT_ HW_ hHeld ?_; refine zq 20 (some 60) HT_ ?_; refine zq 21 (some 61) HT_ ?_; refine zt 22 (some 62) HT_ HW_ hHeld ?_; refine zq 23 (some 63) HT_ ?_; refine zq 24 (some 64) HT_ ?_
       refine one_ (i := 25) (N := none) #[true,true,true,true,true,true,true,true,true,true,true,true,true,true,true,true,true,true,true,true,true,true,true,true,true,true] rfl rfl (one_of HT_.out (by kernel_rfl)) (by decide) (fun K hK => ?_)
       have hs60 : w58.cell? ⟨gb126, 0, none⟩ = some (.int .i64 0) := (blk_cell BK126.out 0).trans rfl
       have hfs60 := blk_frozen BK126.out 0
       have hns60_0 := NB121_126.out
       have hns60_1 := NB124_126.out
       have hms60_0 := NB126_121.out
       have hms60_1 := NB126_124.out
       have hs61 : w58.cell? ⟨gb126, 1, none⟩ = some (.int .i64 0) := (blk_cell BK126.out 1).trans rfl
       have hfs61 := blk_frozen BK126.out 1
       have hns61_0 := NB121_126.out
       have hns61_1 := NB124_126.out
       have hms61_0 := NB126_121.out
       have hms61_1 := NB126_124.out
       have hs62 : w58.cell? ⟨gb126, 2, none⟩ = some (.int .i64 0) := (blk_cell BK126.out 2).trans rfl
       have hfs62 := blk_frozen BK126.out 2
       have hns62_0 := NB121_126.out
       have hns62_1 := NB124_126.out
       have hms62_0 := NB126_121.out
       have hms62_1 := NB126_124.out
       refine skip_ (w1 := ?_) (by rfl) rfl ?_ ?_
       rotate_left
       ·go_simp
        rfl
       refine hK.out _ _ ⟨((cell_far (p := ⟨gb126, _, none⟩) NB124_126.out _).trans (((cell_far (p := ⟨gb126, _, none⟩) NB124_126.out _).trans (((cell_far (p := ⟨gb126, _, none⟩) NB124_126.out _).trans (hHeld.1)))))), ((cell_far (p := ⟨gb126, _, none⟩) NB124_126.out _).trans (((cell_far (p := ⟨gb126, _, none⟩) NB124_126.out _).trans (((cell_far (p := ⟨gb126, _, none⟩) NB124_126.out _).trans (hHeld.2.1)))))), ((cell_far (p := ⟨gb126, _, none⟩) NB124_126.out _).trans (((cell_far (p := ⟨gb126, _, none⟩) NB124_126.out _).trans (((cell_far (p := ⟨gb126, _, none⟩) NB124_126.out _).trans (hHeld.2.2.1)))))), ((cell_far (p := ⟨gb126, _, none⟩) NB124_126.out _).trans (((cell_far (p := ⟨gb126, _, none⟩) NB124_126.out _).trans (((cell_far (p := ⟨gb126, _, none⟩) NB124_126.out _).trans (hHeld.2.2.2.1)))))), ((cell_far (p := ⟨gb126, _, none⟩) NB124_126.out _).trans (((cell_far (p := ⟨gb126, _, none⟩) NB124_126.out _).trans (((cell_far (p := ⟨gb126, _, none⟩) NB124_126.out _).trans (hHeld.2.2.2.2.1)))))), ((cell_far (p := ⟨gb126, _, none⟩) (by first | exact Kd.own_blk (Kd.R_away HO_4.out (fun _ hk => hk.2)) | (rw [add_block]; exact Kd.own_blk (Kd.R_away HO_4.out (fun _ hk => hk.2))) | (show (Addr.add _ _).block ≠ _; rw [add_block]; exact Kd.own_blk (Kd.R_away HO_4.out (fun _ hk => hk.2))) | (dsimp only; exact Kd.own_blk (Kd.R_away HO_4.out (fun _ hk => hk.2)))) _).trans (((cell_far (p := ⟨gb126, _, none⟩) (by first | exact Kd.own_blk (Kd.R_away HO_4.out (fun _ hk => hk.2)) | (rw [add_block]; exact Kd.own_blk (Kd.R_away HO_4.out (fun _ hk => hk.2))) | (show (Addr.add _ _).block ≠ _; rw [add_block]; exact Kd.own_blk (Kd.R_away HO_4.out (fun _ hk => hk.2))) | (dsimp only; exact Kd.own_blk (Kd.R_away HO_4.out (fun _ hk => hk.2)))) _).trans (((cell_far (p := ⟨gb126, _, none⟩) (by first | exact Kd.own_blk (Kd.R_away HO_4.out (fun _ hk => hk.2)) | (rw [add_block]; exact Kd.own_blk (Kd.R_away HO_4.out (fun _ hk => hk.2))) | (show (Addr.add _ _).block ≠ _; rw [add_block]; exact Kd.own_blk (Kd.R_away HO_4.out (fun _ hk => hk.2))) | (dsimp only; exact Kd.own_blk (Kd.R_away HO_4.out (fun _ hk => hk.2)))) _).trans (hHeld.2.2.2.2.2.1)))))), ((cell_far (p := ⟨gb126, _, none⟩) (by first | exact Kd.own_blk (Kd.R_away HO_4.out (fun _ hk => hk.2)) | (rw [add_block]; exact Kd.own_blk (Kd.R_away HO_4.out (fun _ hk => hk.2))) | (show (Addr.add _ _).block ≠ _; rw [add_block]; exact Kd.own_blk (Kd.R_away HO_4.out (fun _ hk => hk.2))) | (dsimp only; exact Kd.own_blk (Kd.R_away HO_4.out (fun _ hk => hk.2)))) _).trans (((cell_far (p := ⟨gb126, _, none⟩) (by first | exact Kd.own_blk (Kd.R_away HO_4.out (fun _ hk => hk.2)) | (rw [add_block]; exact Kd.own_blk (Kd.R_away HO_4.out (fun _ hk => hk.2))) | (show (Addr.add _ _).block ≠ _; rw [add_block]; exact Kd.own_blk (Kd.R_away HO_4.out (fun _ hk => hk.2))) | (dsimp only; exact Kd.own_blk (Kd.R_away HO_4.out (fun _ hk => hk.2)))) _).trans (((cell_far (p := ⟨gb126, _, none⟩) (by first | exact Kd.own_blk (Kd.R_away HO_4.out (fun _ hk => hk.2)) | (rw [add_block]; exact Kd.own_blk (Kd.R_away HO_4.out (fun _ hk => hk.2))) | (show (Addr.add _ _).block ≠ _; rw [add_block]; exact Kd.own_blk (Kd.R_away HO_4.out (fun _ hk => hk.2))) | (dsimp only; exact Kd.own_blk (Kd.R_away HO_4.out (fun _ hk => hk.2)))) _).trans (hHeld.2.2.2.2.2.2.1)))))), ((cell_far (p := ⟨gb126, _, none⟩) (by first | exact Kd.own_blk (Kd.R_away HO_4.out (fun _ hk => hk.2)) | (rw [add_block]; exact Kd.own_blk (Kd.R_away HO_4.out (fun _ hk => hk.2))) | (show (Addr.add _ _).block ≠ _; rw [add_block]; exact Kd.own_blk (Kd.R_away HO_4.out (fun _ hk => hk.2))) | (dsimp only; exact Kd.own_blk (Kd.R_away HO_4.out (fun _ hk => hk.2)))) _).trans (((cell_far (p := ⟨gb126, _, none⟩) (by first | exact Kd.own_blk (Kd.R_away HO_4.out (fun _ hk => hk.2)) | (rw [add_block]; exact Kd.own_blk (Kd.R_away HO_4.out (fun _ hk => hk.2))) | (show (Addr.add _ _).block ≠ _; rw [add_block]; exact Kd.own_blk (Kd.R_away HO_4.out (fun _ hk => hk.2))) | (dsimp only; exact Kd.own_blk (Kd.R_away HO_4.out (fun _ hk => hk.2)))) _).trans (((cell_far (p := ⟨gb126, _, none⟩) (by first | exact Kd.own_blk (Kd.R_away HO_4.out (fun _ hk => hk.2)) | (rw [add_block]; exact Kd.own_blk (Kd.R_away HO_4.out (fun _ hk => hk.2))) | (show (Addr.add _ _).block ≠ _; rw [add_block]; exact Kd.own_blk (Kd.R_away HO_4.out (fun _ hk => hk.2))) | (dsimp only; exact Kd.own_blk (Kd.R_away HO_4.out (fun _ hk => hk.2)))) _).trans (hHeld.2.2.2.2.2.2.2.1)))))), ((cell_far (p := ⟨gb126, _, none⟩) (by first | exact Kd.own_blk (Kd.R_away HO_4.out (fun _ hk => hk.2)) | (rw [add_block]; exact Kd.own_blk (Kd.R_away HO_4.out (fun _ hk => hk.2))) | (show (Addr.add _ _).block ≠ _; rw [add_block]; exact Kd.own_blk (Kd.R_away HO_4.out (fun _ hk => hk.2))) | (dsimp only; exact Kd.own_blk (Kd.R_away HO_4.out (fun _ hk => hk.2)))) _).trans (((cell_far (p := ⟨gb126, _, none⟩) (by first | exact Kd.own_blk (Kd.R_away HO_4.out (fun _ hk => hk.2)) | (rw [add_block]; exact Kd.own_blk (Kd.R_away HO_4.out (fun _ hk => hk.2))) | (show (Addr.add _ _).block ≠ _; rw [add_block]; exact Kd.own_blk (Kd.R_away HO_4.out (fun _ hk => hk.2))) | (dsimp only; exact Kd.own_blk (Kd.R_away HO_4.out (fun _ hk => hk.2)))) _).trans (((cell_far (p := ⟨gb126, _, none⟩) (by first | exact Kd.own_blk (Kd.R_away HO_4.out (fun _ hk => hk.2)) | (rw [add_block]; exact Kd.own_blk (Kd.R_away HO_4.out (fun _ hk => hk.2))) | (show (Addr.add _ _).block ≠ _; rw [add_block]; exact Kd.own_blk (Kd.R_away HO_4.out (fun _ hk => hk.2))) | (dsimp only; exact Kd.own_blk (Kd.R_away HO_4.out (fun _ hk => hk.2)))) _).trans (hHeld.2.2.2.2.2.2.2.2.1)))))), ((cell_far (p := ⟨gb126, _, none⟩) (by first | exact Kd.own_blk (Kd.R_away HO_4.out (fun _ hk => hk.2)) | (rw [add_block]; exact Kd.own_blk (Kd.R_away HO_4.out (fun _ hk => hk.2))) | (show (Addr.add _ _).block ≠ _; rw [add_block]; exact Kd.own_blk (Kd.R_away HO_4.out (fun _ hk => hk.2))) | (dsimp only; exact Kd.own_blk (Kd.R_away HO_4.out (fun _ hk => hk.2)))) _).trans (((cell_far (p := ⟨gb126, _, none⟩) (by first | exact Kd.own_blk (Kd.R_away HO_4.out (fun _ hk => hk.2)) | (rw [add_block]; exact Kd.own_blk (Kd.R_away HO_4.out (fun _ hk => hk.2))) | (show (Addr.add _ _).block ≠ _; rw [add_block]; exact Kd.own_blk (Kd.R_away HO_4.out (fun _ hk => hk.2))) | (dsimp only; exact Kd.own_blk (Kd.R_away HO_4.out (fun _ hk => hk.2)))) _).trans (((cell_far (p := ⟨gb126, _, none⟩) (by first | exact Kd.own_blk (Kd.R_away HO_4.out (fun _ hk => hk.2)) | (rw [add_block]; exact Kd.own_blk (Kd.R_away HO_4.out (fun _ hk => hk.2))) | (show (Addr.add _ _).block ≠ _; rw [add_block]; exact Kd.own_blk (Kd.R_away HO_4.out (fun _ hk => hk.2))) | (dsimp only; exact Kd.own_blk (Kd.R_away HO_4.out (fun _ hk => hk.2)))) _).trans (hHeld.2.2.2.2.2.2.2.2.2.1)))))), ((cell_far (p := ⟨gb126, _, none⟩) (by first | exact Kd.own_blk (Kd.R_away HO_4.out (fun _ hk => hk.2)) | (rw [add_block]; exact Kd.own_blk (Kd.R_away HO_4.out (fun _ hk => hk.2))) | (show (Addr.add _ _).block ≠ _; rw [add_block]; exact Kd.own_blk (Kd.R_away HO_4.out (fun _ hk => hk.2))) | (dsimp only; exact Kd.own_blk (Kd.R_away HO_4.out (fun _ hk => hk.2)))) _).trans (((cell_far (p := ⟨gb126, _, none⟩) (by first | exact Kd.own_blk (Kd.R_away HO_4.out (fun _ hk => hk.2)) | (rw [add_block]; exact Kd.own_blk (Kd.R_away HO_4.out (fun _ hk => hk.2))) | (show (Addr.add _ _).block ≠ _; rw [add_block]; exact Kd.own_blk (Kd.R_away HO_4.out (fun _ hk => hk.2))) | (dsimp only; exact Kd.own_blk (Kd.R_away HO_4.out (fun _ hk => hk.2)))) _).trans (((cell_far (p := ⟨gb126, _, none⟩) (by first | exact Kd.own_blk (Kd.R_away HO_4.out (fun _ hk => hk.2)) | (rw [add_block]; exact Kd.own_blk (Kd.R_away HO_4.out (fun _ hk => hk.2))) | (show (Addr.add _ _).block ≠ _; rw [add_block]; exact Kd.own_blk (Kd.R_away HO_4.out (fun _ hk => hk.2))) | (dsimp only; exact Kd.own_blk (Kd.R_away HO_4.out (fun _ hk => hk.2)))) _).trans (hHeld.2.2.2.2.2.2.2.2.2.2.1)))))), ((cell_far (p := ⟨gb126, _, none⟩) (by first | exact Kd.own_blk (Kd.R_away HO_4.out (fun _ hk => hk.2)) | (rw [add_block]; exact Kd.own_blk (Kd.R_away HO_4.out (fun _ hk => hk.2))) | (show (Addr.add _ _).block ≠ _; rw [add_block]; exact Kd.own_blk (Kd.R_away HO_4.out (fun _ hk => hk.2))) | (dsimp only; exact Kd.own_blk (Kd.R_away HO_4.out (fun _ hk => hk.2)))) _).trans (((cell_far (p := ⟨gb126, _, none⟩) (by first | exact Kd.own_blk (Kd.R_away HO_4.out (fun _ hk => hk.2)) | (rw [add_block]; exact Kd.own_blk (Kd.R_away HO_4.out (fun _ hk => hk.2))) | (show (Addr.add _ _).block ≠ _; rw [add_block]; exact Kd.own_blk (Kd.R_away HO_4.out (fun _ hk => hk.2))) | (dsimp only; exact Kd.own_blk (Kd.R_away HO_4.out (fun _ hk => hk.2)))) _).trans (((cell_far (p := ⟨gb126, _, none⟩) (by first | exact Kd.own_blk (Kd.R_away HO_4.out (fun _ hk => hk.2)) | (rw [add_block]; exact Kd.own_blk (Kd.R_away HO_4.out (fun _ hk => hk.2))) | (show (Addr.add _ _).block ≠ _; rw [add_block]; exact Kd.own_blk (Kd.R_away HO_4.out (fun _ hk => hk.2))) | (dsimp only; exact Kd.own_blk (Kd.R_away HO_4.out (fun _ hk => hk.2)))) _).trans (hHeld.2.2.2.2.2.2.2.2.2.2.2.1)))))), ((cell_far (p := ⟨gb126, _, none⟩) (by first | exact Kd.own_blk (Kd.R_away HO_4.out (fun _ hk => hk.2)) | (rw [add_block]; exact Kd.own_blk (Kd.R_away HO_4.out (fun _ hk => hk.2))) | (show (Addr.add _ _).block ≠ _; rw [add_block]; exact Kd.own_blk (Kd.R_away HO_4.out (fun _ hk => hk.2))) | (dsimp only; exact Kd.own_blk (Kd.R_away HO_4.out (fun _ hk => hk.2)))) _).trans (((cell_far (p := ⟨gb126, _, none⟩) (by first | exact Kd.own_blk (Kd.R_away HO_4.out (fun _ hk => hk.2)) | (rw [add_block]; exact Kd.own_blk (Kd.R_away HO_4.out (fun _ hk => hk.2))) | (show (Addr.add _ _).block ≠ _; rw [add_block]; exact Kd.own_blk (Kd.R_away HO_4.out (fun _ hk => hk.2))) | (dsimp only; exact Kd.own_blk (Kd.R_away HO_4.out (fun _ hk => hk.2)))) _).trans (((cell_far (p := ⟨gb126, _, none⟩) (by first | exact Kd.own_blk (Kd.R_away HO_4.out (fun _ hk => hk.2)) | (rw [add_block]; exact Kd.own_blk (Kd.R_away HO_4.out (fun _ hk => hk.2))) | (show (Addr.add _ _).block ≠ _; rw [add_block]; exact Kd.own_blk (Kd.R_away HO_4.out (fun _ hk => hk.2))) | (dsimp only; exact Kd.own_blk (Kd.R_away HO_4.out (fun _ hk => hk.2)))) _).trans (hHeld.2.2.2.2.2.2.2.2.2.2.2.2.1)))))), ((cell_far (p := ⟨gb126, _, none⟩) (by first | exact Kd.own_blk (Kd.R_away HO_4.out (fun _ hk => hk.2)) | (rw [add_block]; exact Kd.own_blk (Kd.R_away HO_4.out (fun _ hk => hk.2))) | (show (Addr.add _ _).block ≠ _; rw [add_block]; exact Kd.own_blk (Kd.R_away HO_4.out (fun _ hk => hk.2))) | (dsimp only; exact Kd.own_blk (Kd.R_away HO_4.out (fun _ hk => hk.2)))) _).trans (((cell_far (p := ⟨gb126, _, none⟩) (by first | exact Kd.own_blk (Kd.R_away HO_4.out (fun _ hk => hk.2)) | (rw [add_block]; exact Kd.own_blk (Kd.R_away HO_4.out (fun _ hk => hk.2))) | (show (Addr.add _ _).block ≠ _; rw [add_block]; exact Kd.own_blk (Kd.R_away HO_4.out (fun _ hk => hk.2))) | (dsimp only; exact Kd.own_blk (Kd.R_away HO_4.out (fun _ hk => hk.2)))) _).trans (((cell_far (p := ⟨gb126, _, none⟩) (by first | exact Kd.own_blk (Kd.R_away HO_4.out (fun _ hk => hk.2)) | (rw [add_block]; exact Kd.own_blk (Kd.R_away HO_4.out (fun _ hk => hk.2))) | (show (Addr.add _ _).block ≠ _; rw [add_block]; exact Kd.own_blk (Kd.R_away HO_4.out (fun _ hk => hk.2))) | (dsimp only; exact Kd.own_blk (Kd.R_away HO_4.out (fun _ hk => hk.2)))) _).trans (hHeld.2.2.2.2.2.2.2.2.2.2.2.2.2))))))⟩ (fun hHeld => ?_)
       clear hK K
       refine done_ (done_of HT_.out (by kernel_rfl)) ?_
       have hnb63 := NB126_121.out
       have hnc63 := NB121_126.out
       have hcz64_0 := zc BK126.out 0
       have hcz64_1 := zc BK126.out 1
       have hcz64_2 := zc BK126.out 2
       have hfz64_0 := blk_frozen BK126.out 0
       have hfz64_1 := blk_frozen BK126.out 1
       have hfz64_2 := blk_frozen BK126.out 2
       try go_wp2_with (first | ((with_reducible refine gate_builtin (b := .append) (xs := #[.tmp 82, .tmp 84]) rfl ?_); (try (refine gate_guard (by rfl) ?_; dsimp only)); at_builtin; refine Kd.R_append k103 (w0 := w) w.heap.size rfl (.tmp 82) (.tmp 84) 91 103 (.agg #[(.int .i64 0), (.int .i64 0), (.int .i64 0)]) 24 rfl Try.underlying91 info103 rfl (by decide) (by omega) (.slice (some ad127) x4_2.length co59) x4_2 (⟨wrap64 (((rd_T31 l1 x20_2).f1) * ((rd_T103 x4_2 ((rd_T31 l1 x20_2).f2)).f0)), (rd_T103 x4_2 ((rd_T31 l1 x20_2).f2)).f1, wrap64 (((rd_T31 l1 x20_2).f1) * ((rd_T103 x4_2 ((rd_T31 l1 x20_2).f2)).f2))⟩ : S103) [.int .i64 (wrap64 (((rd_T31 l1 x20_2).f1) * ((rd_T103 x4_2 ((rd_T31 l1 x20_2).f2)).f0))), .int .i64 ((rd_T103 x4_2 ((rd_T31 l1 x20_2).f2)).f1), .int .i64 (wrap64 (((rd_T31 l1 x20_2).f1) * ((rd_T103 x4_2 ((rd_T31 l1 x20_2).f2)).f2)))] (fun k_ => k_ ≠ gb126) (fun _ => False) rfl (by first | (go_simp; done) | (go_simp; rfl)) ?aP (fun _ hk => hk.elim) ?aF ?aO ?aB ?aS ?aL ?_; (case aP => exact k103_mkM _ _ _ (⟨wrap64 (((rd_T31 l1 x20_2).f1) * ((rd_T103 x4_2 ((rd_T31 l1 x20_2).f2)).f0)), (rd_T103 x4_2 ((rd_T31 l1 x20_2).f2)).f1, wrap64 (((rd_T31 l1 x20_2).f1) * ((rd_T103 x4_2 ((rd_T31 l1 x20_2).f2)).f2))⟩ : S103)); (case aB => exact (zw3 HB.out GE121.out GE124.out GE126.out)); (case aF => exact (fun k_ hk => (by first | exact Kd.freshB (g := gb126) (o := .cells #[.int .i64 (wrap64 (((rd_T31 l1 x20_2).f1) * ((rd_T103 x4_2 ((rd_T31 l1 x20_2).f2)).f0))), .int .i64 ((rd_T103 x4_2 ((rd_T31 l1 x20_2).f2)).f1), .int .i64 (wrap64 (((rd_T31 l1 x20_2).f1) * ((rd_T103 x4_2 ((rd_T31 l1 x20_2).f2)).f2)))] 103 (0, 0)) (by (with_reducible repeat (first | refine blk_drewN ?_ _ | refine blk_drew ?_ | refine blk_alloc ?_ _)); refine blk_put (cs := #[.int .i64 (wrap64 (((rd_T31 l1 x20_2).f1) * ((rd_T103 x4_2 ((rd_T31 l1 x20_2).f2)).f0))), .int .i64 ((rd_T103 x4_2 ((rd_T31 l1 x20_2).f2)).f1), .int .i64 0]) ?_ 2 _ rfl; (with_reducible repeat (first | refine blk_drewN ?_ _ | refine blk_drew ?_ | refine blk_alloc ?_ _)); refine blk_put (cs := #[.int .i64 (wrap64 (((rd_T31 l1 x20_2).f1) * ((rd_T103 x4_2 ((rd_T31 l1 x20_2).f2)).f0))), .int .i64 0, .int .i64 0]) ?_ 1 _ rfl; (with_reducible repeat (first | refine blk_drewN ?_ _ | refine blk_drew ?_ | refine blk_alloc ?_ _)); refine blk_put (cs := #[.int .i64 0, .int .i64 0, .int .i64 0]) ?_ 0 _ rfl; (with_reducible repeat (first | refine blk_drewN ?_ _ | refine blk_drew ?_ | refine blk_alloc ?_ _)); exact BK126.out) k_ hk | exact Kd.freshB BK126.out k_ hk))); (case aO => exact (by (with_reducible repeat (first | apply Kd.R_alloc | apply Kd.R_drewN | apply Kd.R_drew)); exact Kd.R_mono (Kd.R_far (p := ⟨gb126, 2, none⟩) (Kd.R_far (p := ⟨gb126, 1, none⟩) (Kd.R_far (p := ⟨gb126, 0, none⟩) (Kd.R_mono HO_4.out (fun k_ hk => (⟨hk, hk.2⟩ : _ ∧ k_ ≠ gb126))) (fun _ hk => hk.2) (.int .i64 (wrap64 (((rd_T31 l1 x20_2).f1) * ((rd_T103 x4_2 ((rd_T31 l1 x20_2).f2)).f0))))) (fun _ hk => hk.2) (.int .i64 ((rd_T103 x4_2 ((rd_T31 l1 x20_2).f2)).f1))) (fun _ hk => hk.2) (.int .i64 (wrap64 (((rd_T31 l1 x20_2).f1) * ((rd_T103 x4_2 ((rd_T31 l1 x20_2).f2)).f2))))) (fun _ hk => hk.1.2))); (case aS => exact (below_size (zw3 HB.out GE121.out GE124.out GE126.out))); (case aL => have := LMc50.out; omega); intro v131 w65 ho hb hg hat; rw [← Ny130.out] at ho; have n0_ := Aside0.mk (blk_grown (g := gb121) (o := .cells #[.bool a0_0, .int .i64 a0_1] 29 (0, 0)) (zf1 BK121.out NB121_126.out) hg (Kd.R_ne HO_4.out BK121.out (by decide))); have n1_ := Aside0.mk (blk_grown (g := gb124) (o := .cells #[.int .i64 ((rd_T31 l1 x20_2).f0), .int .i64 ((rd_T31 l1 x20_2).f1), .int .i64 ((rd_T31 l1 x20_2).f2), .slice A123_3 ((rd_T31 l1 x20_2).f3).length c123_3, .slice A123_4 ((rd_T31 l1 x20_2).f4).length c123_4] 31 (0, 0)) (zf1 BK124.out NB124_126.out) hg (Kd.R_ne HO_4.out BK124.out (by decide))); have n2_ := Aside0.mk (blk_grown (g := gb126) (o := .cells #[.int .i64 (wrap64 (((rd_T31 l1 x20_2).f1) * ((rd_T103 x4_2 ((rd_T31 l1 x20_2).f2)).f0))), .int .i64 ((rd_T103 x4_2 ((rd_T31 l1 x20_2).f2)).f1), .int .i64 (wrap64 (((rd_T31 l1 x20_2).f1) * ((rd_T103 x4_2 ((rd_T31 l1 x20_2).f2)).f2)))] 103 (0, 0)) (by (with_reducible repeat (first | refine blk_drewN ?_ _ | refine blk_drew ?_ | refine blk_alloc ?_ _)); refine blk_put (cs := #[.int .i64 (wrap64 (((rd_T31 l1 x20_2).f1) * ((rd_T103 x4_2 ((rd_T31 l1 x20_2).f2)).f0))), .int .i64 ((rd_T103 x4_2 ((rd_T31 l1 x20_2).f2)).f1), .int .i64 0]) ?_ 2 _ rfl; (with_reducible repeat (first | refine blk_drewN ?_ _ | refine blk_drew ?_ | refine blk_alloc ?_ _)); refine blk_put (cs := #[.int .i64 (wrap64 (((rd_T31 l1 x20_2).f1) * ((rd_T103 x4_2 ((rd_T31 l1 x20_2).f2)).f0))), .int .i64 0, .int .i64 0]) ?_ 1 _ rfl; (with_reducible repeat (first | refine blk_drewN ?_ _ | refine blk_drew ?_ | refine blk_alloc ?_ _)); refine blk_put (cs := #[.int .i64 0, .int .i64 0, .int .i64 0]) ?_ 0 _ rfl; (with_reducible repeat (first | refine blk_drewN ?_ _ | refine blk_drew ?_ | refine blk_alloc ?_ _)); exact BK126.out) hg (Kd.R_away HO_4.out (fun _ hk => hk.2))); have n3_ := Aside0.mk (hb); have HO132 := Aside0.mk (ho); clear BK121 BK124 BK126 HB HO_4; have BK121 := n0_; have BK124 := n1_; have BK126 := n2_; have HB := n3_; clear n0_ n1_ n2_ n3_; clear ho hb hg hat))
       go_roundg k2
       case measure => have := HJ2.out; have := HK2.out; omega
       case rel => exact ⟨(y130), (wrap64 (x20_2 + 1)), (zr), H', ⟨by have := HJ2.out; have := HK2.out; omega⟩, ⟨by (with_reducible repeat (first | apply Kd.R_alloc | apply Kd.R_drewN | apply Kd.R_drew)); exact Kd.R_mono HO132.out (fun _ hk => trivial)⟩, ⟨zb BK121.out⟩, ⟨zw3 HB.out GE121.out GE124.out GE126.out⟩⟩
      ·rw [if_neg c12] at H
       have c12b0 : decide (x20_2 < (l1.length : Int)) = false := decide_eq_false c12
       clear c12
       simp only [Option.some.injEq, Prod.mk.injEq] at H
       obtain ⟨rfl, rfl⟩ := H
       go_wp2
       go_ret2
       exact ⟨_, ze, by (with_reducible repeat (first | apply Kd.R_alloc | apply Kd.R_drewN | apply Kd.R_drew)); exact HO_4.out, zw1 HB.out GE121.out⟩

end Go.Proofs.Ytjoplkillkhiaaa.L
