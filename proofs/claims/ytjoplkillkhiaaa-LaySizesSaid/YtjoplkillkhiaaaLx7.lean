-- Written by this session's own edition of the print.
import Derived.Test.YtjoplkillkhiaaaLx0
import Derived.Test.YtjoplkillkhiaaaLx5
import Derived.Test.YtjoplkillkhiaaaLx6
import Derived.Test.YtjoplkillkhiaaaUSq
import Derived.Test.YtjoplkillkhiaaaUSq2
import Derived.Test.YtjoplkillkhiaaaUSq3
namespace Go.Proofs.Ytjoplkillkhiaaa.L
open Go.RowKit Go.Proofs.Ytjoplkillkhiaaa.Fn Go.Proofs.YtjoplkillkhiaaaW.PrintWords Go.Proofs.YtjoplkillkhiaaaW.PrintLast Go.Proofs.YtjoplkillkhiaaaW.PrintMore
attribute [local go_sem] max2_int min2_int max_two min_two max_three min_three max_four min_four   -- for this text's walks alone
set_option linter.unusedVariables false
set_option linter.unusedSimpArgs false

/-! cellarref7_measure -/
mutual
def cellarref7_measure.j0 : Nat → Int → List Int → List Int → Bool → Bool → Int → Int → Int → Int → List ByteArray → List Int → Option (Int × Int × Bool)
 | 0, _, _, _, _, _, _, _, _, _, _, _ => none
 | k + 1, x2, x3, x4, x63, x252000, x252001, x254000, x254001, x254002, x254003, x254004 => if x63 = true then (if x254001 = 0 then (if x254002 = 0 then ((cellarref0_Between.f (x254004.length : Int) 1 6).bind fun t258 => (if t258 = true then (cellarref7_measure.j1 k x2 x3 x4 ((x254003.length : Int) != (x254004.length : Int)) x254000 x254001 x254002 x254003 x254004) else (cellarref7_measure.j1 k x2 x3 x4 true x254000 x254001 x254002 x254003 x254004))) else (cellarref7_measure.j1 k x2 x3 x4 true x254000 x254001 x254002 x254003 x254004)) else (cellarref7_measure.j1 k x2 x3 x4 true x254000 x254001 x254002 x254003 x254004)) else ((cellarref1_Kind.f x254000).bind fun t274 => (if t274 = true then (if x254001 = 0 then (if x254002 = 0 then (if (wrap64 ((x254003.length : Int) + (x254004.length : Int))) > 0 then (some (0, 0, false)) else ((cellarref1_Size.f k x252000 x252001 x254000).bind fun t275 => (some (t275, t275, true)))) else (some (0, 0, false))) else (some (0, 0, false))) else (some (0, 0, false))))
def cellarref7_measure.j1 : Nat → Int → List Int → List Int → Bool → Int → Int → Int → List ByteArray → List Int → Option (Int × Int × Bool)
 | 0, _, _, _, _, _, _, _, _, _ => none
 | k + 1, x2, x3, x4, x89, x254000, x254001, x254002, x254003, x254004 => if x89 = true then (some (0, 0, false)) else (cellarref7_measure.l0 k x2 x3 x4 0 0 1 0 x254000 x254001 x254002 x254003 x254004)
def cellarref7_measure.l0 : Nat → Int → List Int → List Int → Int → Int → Int → Int → Int → Int → Int → List ByteArray → List Int → Option (Int × Int × Bool)
 | 0, _, _, _, _, _, _, _, _, _, _, _, _ => none
 | k + 1, x2, x3, x4, x14, x15, x16, x17, x254000, x254001, x254002, x254003, x254004 => if x17 < (x254004.length : Int) then (if 0 ≤ x17 then ((cellarref0_Num.f (rd x254004 x17) (wrap64 (x2 - 1))).bind fun t262 => (if t262 = true then (if x17 < (x254003.length : Int) then ((cellarref7_name.f k (rdOf ByteArray.empty x254003 x17)).bind fun t264 => (if t264 = true then (if x17 ≤ (x254003.length : Int) then ((cellarref0_Has.f k (x254003.take (x17 : Int).toNat) (rdOf ByteArray.empty x254003 x17)).bind fun t267 => (if t267 = true then (some (0, 0, false)) else (if 0 ≤ (rd x254004 x17) then (if (rd x254004 x17) < (x4.length : Int) then ((cellarref7_up.f x14 (rd x4 (rd x254004 x17))).bind fun t270 => (if (rd x254004 x17) < (x3.length : Int) then (cellarref7_measure.l0 k x2 x3 x4 (wrap64 (t270 + (rd x3 (rd x254004 x17)))) (mx x15 (rd x3 (rd x254004 x17))) (mx x16 (rd x4 (rd x254004 x17))) (wrap64 (x17 + 1)) x254000 x254001 x254002 x254003 x254004) else (none))) else (none)) else (none)))) else (none)) else (some (0, 0, false)))) else (none)) else (some (0, 0, false)))) else (none)) else (if x254000 = 10 then ((cellarref7_up.f x15 x16).bind fun t259 => (some (t259, x16, true))) else ((cellarref7_up.f x14 x16).bind fun t260 => (some (t260, x16, true))))
end
def cellarref7_measure.f (k : Nat) (a0_0 : Bool) (a0_1 : Int) (l1 : List (S31)) (a2 : Int) (l3 : List Int) (l4 : List Int) : Option (Int × Int × Bool) := if 0 ≤ a2 then (if a2 < (l1.length : Int) then (if ((rd_T31 l1 a2).f0) = 8 then ((cellarref0_Between.f ((rd_T31 l1 a2).f1) 1 16).bind fun t254 => (if t254 = true then ((cellarref0_Num.f ((rd_T31 l1 a2).f2) (wrap64 (a2 - 1))).bind fun t255 => (if t255 = true then (if (wrap64 ((((rd_T31 l1 a2).f3).length : Int) + (((rd_T31 l1 a2).f4).length : Int))) > 0 then (some (0, 0, false)) else (if 0 ≤ ((rd_T31 l1 a2).f2) then (if ((rd_T31 l1 a2).f2) < (l3.length : Int) then (if ((rd_T31 l1 a2).f2) < (l4.length : Int) then (some (wrap64 (((rd_T31 l1 a2).f1) * (rd l3 ((rd_T31 l1 a2).f2))), rd l4 ((rd_T31 l1 a2).f2), true)) else (none)) else (none)) else (none))) else (some (0, 0, false)))) else (some (0, 0, false)))) else (if ((rd_T31 l1 a2).f0) = 9 then (cellarref7_measure.j0 k a2 l3 l4 (((rd_T31 l1 a2).f0) == 9) a0_0 a0_1 ((rd_T31 l1 a2).f0) ((rd_T31 l1 a2).f1) ((rd_T31 l1 a2).f2) ((rd_T31 l1 a2).f3) ((rd_T31 l1 a2).f4)) else (cellarref7_measure.j0 k a2 l3 l4 (((rd_T31 l1 a2).f0) == 10) a0_0 a0_1 ((rd_T31 l1 a2).f0) ((rd_T31 l1 a2).f1) ((rd_T31 l1 a2).f2) ((rd_T31 l1 a2).f3) ((rd_T31 l1 a2).f4)))) else (none)) else (none)
theorem cellarref7_measure.mono_l : ∀ k, (∀ y0 y1 y2 y3 y4 y5 y6 y7 y8 y9 y10, LeO (cellarref7_measure.j0 k y0 y1 y2 y3 y4 y5 y6 y7 y8 y9 y10) (cellarref7_measure.j0 (k + 1) y0 y1 y2 y3 y4 y5 y6 y7 y8 y9 y10)) ∧ (∀ y0 y1 y2 y3 y4 y5 y6 y7 y8, LeO (cellarref7_measure.j1 k y0 y1 y2 y3 y4 y5 y6 y7 y8) (cellarref7_measure.j1 (k + 1) y0 y1 y2 y3 y4 y5 y6 y7 y8)) ∧ (∀ y0 y1 y2 y3 y4 y5 y6 y7 y8 y9 y10 y11, LeO (cellarref7_measure.l0 k y0 y1 y2 y3 y4 y5 y6 y7 y8 y9 y10 y11) (cellarref7_measure.l0 (k + 1) y0 y1 y2 y3 y4 y5 y6 y7 y8 y9 y10 y11))
 | 0 => ⟨fun _ _ _ _ _ _ _ _ _ _ _ r h => by simp [cellarref7_measure.j0] at h, fun _ _ _ _ _ _ _ _ _ r h => by simp [cellarref7_measure.j1] at h, fun _ _ _ _ _ _ _ _ _ _ _ _ r h => by simp [cellarref7_measure.l0] at h⟩
 | k + 1 => by
  obtain ⟨ih0, ih1, ih2⟩ := cellarref7_measure.mono_l k
  refine ⟨?_, ?_, ?_⟩
  ·intro y0 y1 y2 y3 y4 y5 y6 y7 y8 y9 y10
   unfold cellarref7_measure.j0
   repeat' first
   | (with_reducible apply ih0)
   | (with_reducible apply ih1)
   | (with_reducible apply ih2)
   | (with_reducible apply cellarref0_Has.mono)
   | (with_reducible apply cellarref1_Size.mono)
   | (with_reducible apply cellarref7_name.mono)
   | (with_reducible apply LeO.refl)
   | (with_reducible apply LeO.none)
   | (with_reducible refine LeO.ite ?_ ?_)
   | (with_reducible refine LeO.bind ?_ (fun _ => ?_))
  ·intro y0 y1 y2 y3 y4 y5 y6 y7 y8
   unfold cellarref7_measure.j1
   repeat' first
   | (with_reducible apply ih0)
   | (with_reducible apply ih1)
   | (with_reducible apply ih2)
   | (with_reducible apply cellarref0_Has.mono)
   | (with_reducible apply cellarref1_Size.mono)
   | (with_reducible apply cellarref7_name.mono)
   | (with_reducible apply LeO.refl)
   | (with_reducible apply LeO.none)
   | (with_reducible refine LeO.ite ?_ ?_)
   | (with_reducible refine LeO.bind ?_ (fun _ => ?_))
  ·intro y0 y1 y2 y3 y4 y5 y6 y7 y8 y9 y10 y11
   unfold cellarref7_measure.l0
   repeat' first
   | (with_reducible apply ih0)
   | (with_reducible apply ih1)
   | (with_reducible apply ih2)
   | (with_reducible apply cellarref0_Has.mono)
   | (with_reducible apply cellarref1_Size.mono)
   | (with_reducible apply cellarref7_name.mono)
   | (with_reducible apply LeO.refl)
   | (with_reducible apply LeO.none)
   | (with_reducible refine LeO.ite ?_ ?_)
   | (with_reducible refine LeO.bind ?_ (fun _ => ?_))
theorem cellarref7_measure.mono : ∀ a0 a1 a2 a3 a4 a5 k, LeO (cellarref7_measure.f k a0 a1 a2 a3 a4 a5) (cellarref7_measure.f (k + 1) a0 a1 a2 a3 a4 a5) := by
 intro a0 a1 a2 a3 a4 a5 k
 obtain ⟨ih0, ih1, ih2⟩ := cellarref7_measure.mono_l k
 unfold cellarref7_measure.f
 repeat' first
   | (with_reducible apply ih0)
   | (with_reducible apply ih1)
   | (with_reducible apply ih2)
   | (with_reducible apply cellarref0_Has.mono)
   | (with_reducible apply cellarref1_Size.mono)
   | (with_reducible apply cellarref7_name.mono)
   | (with_reducible apply LeO.refl)
   | (with_reducible apply LeO.none)
   | (with_reducible refine LeO.ite ?_ ?_)
   | (with_reducible refine LeO.bind ?_ (fun _ => ?_))
def cellarref7_measure.T6 : Bool × List (List Nat × List Nat) := (true, [([], []), ([0], [0]), ([], []), ([], []), ([3], [3]), ([2, 4], [2, 4]), ([5], [5]), ([1, 6], [1, 6]), ([], []), ([], []), ([9], [9]), ([8, 10], [8, 10]), ([11], [11]), ([7, 0, 1, 2, 3, 4, 5, 6, 7], [7]), ([12, 13, 0, 1, 2, 3, 4, 5, 6, 7, 8, 9, 10, 11, 12, 13], [12]), ([14, 0, 1, 2, 3, 4, 5, 6, 7, 8, 9, 10, 11, 12, 13, 14], [])])
def cellarref7_measure.B6 : List Nat := [0, 1, 0, 0, 8, 28, 60, 127, 0, 0, 512, 1792, 3840, 255, 16383, 32767]
theorem cellarref7_measure.tab6 : rtab .any (opsOf Try.f55 6) = cellarref7_measure.T6 := by kernel_rfl
theorem cellarref7_measure.bits6 : waitsOk cellarref7_measure.T6.2 cellarref7_measure.B6 = true := by kernel_rfl
def cellarref7_measure.T15 : Bool × List (List Nat × List Nat) := (true, [([], []), ([0], [0]), ([], []), ([1, 2], [1, 2]), ([3], [3]), ([], []), ([5], [5]), ([4, 6], [4, 6]), ([7], [7]), ([8, 7], [8]), ([9], [9]), ([10, 9], [9, 10]), ([9], [9]), ([11, 12, 9], [9, 11, 12]), ([13, 9], [9, 13]), ([14, 9, 9], [9, 14]), ([15, 9], [9, 15]), ([9, 16], [9, 16]), ([17, 15], [17]), ([18], [18]), ([19, 18], [18, 19]), ([18], [18]), ([20, 21, 18], [18, 20, 21]), ([18], [18]), ([23, 18], [18, 23]), ([18], [18]), ([24, 25, 18], [18, 24, 25]), ([26, 18], [18, 26]), ([22, 27, 18, 18], [18, 22, 27]), ([18, 28], [18, 28])])
def cellarref7_measure.B15 : List Nat := [0, 1, 0, 7, 15, 0, 32, 127, 255, 511, 1023, 2047, 1023, 8191, 16383, 32767, 65535, 131071, 262143, 524287, 1048575, 524287, 4194303, 524287, 8912895, 524287, 59244543, 126353407, 268435455, 536870911]
theorem cellarref7_measure.tab15 : rtab .any (opsOf Try.f55 15) = cellarref7_measure.T15 := by kernel_rfl
theorem cellarref7_measure.bits15 : waitsOk cellarref7_measure.T15.2 cellarref7_measure.B15 = true := by kernel_rfl
def cellarref7_measure.T18 : Bool × List (List Nat × List Nat) := (true, [([], []), ([], []), ([], []), ([1, 2], [1, 2]), ([3], [3]), ([0, 4], [0, 4]), ([], []), ([], []), ([6, 7], [6, 7]), ([8], [8]), ([5, 9], [5, 9]), ([10, 5, 0, 1, 2, 3, 4, 5, 6, 7, 8, 9, 10], [0, 10])])
def cellarref7_measure.B18 : List Nat := [0, 0, 0, 6, 14, 31, 0, 0, 192, 448, 1023, 2047]
theorem cellarref7_measure.tab18 : rtab .any (opsOf Try.f55 18) = cellarref7_measure.T18 := by kernel_rfl
theorem cellarref7_measure.bits18 : waitsOk cellarref7_measure.T18.2 cellarref7_measure.B18 = true := by kernel_rfl
def cellarref7_measure.T19 : Bool × List (List Nat × List Nat) := (true, [([], []), ([], []), ([], []), ([1, 2], [1, 2]), ([3], [3]), ([0, 4], [0, 4]), ([], []), ([], []), ([], []), ([7, 8], [7, 8]), ([9], [9]), ([6, 10], [6, 10]), ([5, 0, 1, 2, 3, 4, 5], [0, 5]), ([11, 12, 0, 1, 2, 3, 4, 5, 6, 7, 8, 9, 10, 11, 12], [6, 11])])
def cellarref7_measure.B19 : List Nat := [0, 0, 0, 6, 14, 31, 0, 0, 0, 384, 896, 1984, 63, 8191]
theorem cellarref7_measure.tab19 : rtab .any (opsOf Try.f55 19) = cellarref7_measure.T19 := by kernel_rfl
theorem cellarref7_measure.bits19 : waitsOk cellarref7_measure.T19.2 cellarref7_measure.B19 = true := by kernel_rfl
set_option maxHeartbeats 8000000 in
set_option maxRecDepth 100000 in
theorem cellarref7_measure.calls (k : Nat) (a0_0 : Bool) (a0_1 : Int) (A1 : Option Addr) (c1 : Nat) (l1 : List (S31)) (a2 : Int) (A3 : Option Addr) (c3 : Nat) (l3 : List Int) (A4 : Option Addr) (c4 : Nat) (l4 : List Int) (r1 : Int) (r2 : Int) (r3 : Bool) (w : World) (hr1 : Kd.C k31 w A1 l1.length l1) (hc1 : l1.length ≤ c1) (hr3 : Kd.C (Kd.int .i64) w A3 l3.length l3) (hc3 : l3.length ≤ c3) (hr4 : Kd.C (Kd.int .i64) w A4 l4.length l4) (hc4 : l4.length ≤ c4) (h : cellarref7_measure.f k a0_0 a0_1 l1 a2 l3 l4 = some (r1, r2, r3)) :
  Calls Try.prog 55 #[.agg #[.bool a0_0, .int .i64 a0_1], .slice A1 l1.length c1, .int .i64 a2, .slice A3 l3.length c3, .slice A4 l4.length c4] w fun e w' => e = .returned (.tuple #[.int .i64 r1, .int .i64 r2, .bool r3]) ∧ Below w.heap.size w w' := by
 have hu29 := Try.underlying29
 have hu31 := Try.underlying31
 have HR1 := Aside0.mk hr1
 have HC1 := Aside0.mk hc1
 clear hr1 hc1
 have HR3 := Aside0.mk hr3
 have HC3 := Aside0.mk hc3
 clear hr3 hc3
 have HR4 := Aside0.mk hr4
 have HC4 := Aside0.mk hc4
 clear hr4 hc4
 have HB := Aside0.mk (Below.refl w.heap.size w)
 have H : (if 0 ≤ a2 then (if a2 < (l1.length : Int) then (if ((rd_T31 l1 a2).f0) = 8 then ((cellarref0_Between.f ((rd_T31 l1 a2).f1) 1 16).bind fun t254 => (if t254 = true then ((cellarref0_Num.f ((rd_T31 l1 a2).f2) (wrap64 (a2 - 1))).bind fun t255 => (if t255 = true then (if (wrap64 ((((rd_T31 l1 a2).f3).length : Int) + (((rd_T31 l1 a2).f4).length : Int))) > 0 then (some (0, 0, false)) else (if 0 ≤ ((rd_T31 l1 a2).f2) then (if ((rd_T31 l1 a2).f2) < (l3.length : Int) then (if ((rd_T31 l1 a2).f2) < (l4.length : Int) then (some (wrap64 (((rd_T31 l1 a2).f1) * (rd l3 ((rd_T31 l1 a2).f2))), rd l4 ((rd_T31 l1 a2).f2), true)) else (none)) else (none)) else (none))) else (some (0, 0, false)))) else (some (0, 0, false)))) else (if ((rd_T31 l1 a2).f0) = 9 then (cellarref7_measure.j0 k a2 l3 l4 (((rd_T31 l1 a2).f0) == 9) a0_0 a0_1 ((rd_T31 l1 a2).f0) ((rd_T31 l1 a2).f1) ((rd_T31 l1 a2).f2) ((rd_T31 l1 a2).f3) ((rd_T31 l1 a2).f4)) else (cellarref7_measure.j0 k a2 l3 l4 (((rd_T31 l1 a2).f0) == 10) a0_0 a0_1 ((rd_T31 l1 a2).f0) ((rd_T31 l1 a2).f1) ((rd_T31 l1 a2).f2) ((rd_T31 l1 a2).f3) ((rd_T31 l1 a2).f4)))) else (none)) else (none)) = some (r1, r2, r3) := h
 clear h
 by_cases c6 : 0 ≤ a2
 ·rw [if_pos c6] at H
  have c6b0 : decide (0 ≤ a2) = true := decide_eq_true c6
  clear c6
  by_cases c7 : a2 < (l1.length : Int)
  rotate_left
  ·rw [if_neg c7] at H
   exact absurd H (by simp)
  rw [if_pos c7] at H
  have c7b0 : decide (a2 < (l1.length : Int)) = true := decide_eq_true c7
  clear c7
  by_cases c8 : ((rd_T31 l1 a2).f0) = 8
  ·rw [if_pos c8] at H
   have c8b0 : (((rd_T31 l1 a2).f0) == 8) = true := beq_iff_eq.mpr c8
   have c8b1 : (((rd_T31 l1 a2).f0) != 8) = false := bne_eq_false_iff_eq.mpr c8
   clear c8
   replace H := Option.bind_eq_some_iff.mp H
   obtain ⟨t254, A90, H⟩ := H
   replace H : (if t254 = true then ((cellarref0_Num.f ((rd_T31 l1 a2).f2) (wrap64 (a2 - 1))).bind fun t255 => (if t255 = true then (if (wrap64 ((((rd_T31 l1 a2).f3).length : Int) + (((rd_T31 l1 a2).f4).length : Int))) > 0 then (some (0, 0, false)) else (if 0 ≤ ((rd_T31 l1 a2).f2) then (if ((rd_T31 l1 a2).f2) < (l3.length : Int) then (if ((rd_T31 l1 a2).f2) < (l4.length : Int) then (some (wrap64 (((rd_T31 l1 a2).f1) * (rd l3 ((rd_T31 l1 a2).f2))), rd l4 ((rd_T31 l1 a2).f2), true)) else (none)) else (none)) else (none))) else (some (0, 0, false)))) else (some (0, 0, false))) = some (r1, r2, r3) := H
   have A9 := Aside0.mk A90
   clear A90
   by_cases c10 : t254 = true
   rotate_left
   ·replace c10 := Bool.eq_false_iff.mpr c10
    subst c10
    have H1 : (some (0, 0, false)) = some (r1, r2, r3) := by rw [if_neg (show ¬ (false = true) by decide)] at H; exact H
    clear H
    have H := H1
    clear H1
    simp only [Option.some.injEq, Prod.mk.injEq] at H
    obtain ⟨rfl, rfl, rfl⟩ := H
    go_enter Try.func55, Try.ntmps55
    go_wp2_with (first | ((with_reducible refine gate_dst (N := 5) rfl ?_); (try (refine gate_guard (by rfl) ?_; dsimp only)); refine zbox (N := 5) (cs := #[.bool a0_0, .int .i64 a0_1]) (t := 29) ?_; intro gb251 hg w31 hbox hb; have n0_ := Aside0.mk (below_step (zw0 HB.out) hb); have BK251 := Aside0.mk (hbox); have GW251 := Aside0.mk (zg hg (below_size (zw0 HB.out))); have GE251 := GW251; clear HB; have HB := n0_; clear n0_; clear hb hbox hg; have p252 : 0 ≤ (a2 : Int) := zdec; have q252 : a2 < (l1.length : Int) := zdec; obtain ⟨ad252, A252_3, c252_3, A252_4, c252_4, e252, hx252_0, hx252_1, hx252_2, hx252_3, hx252_4, hl252_3, hi252_3, hl252_4, hi252_4⟩ := at_T31 HR1.out a2 p252 q252; cases e252; replace hx252_0 := zh HB.out hx252_0; replace hx252_1 := zh HB.out hx252_1; replace hx252_2 := zh HB.out hx252_2; replace hx252_3 := zh HB.out hx252_3; replace hx252_4 := zh HB.out hx252_4; have HR252_3 := Aside0.mk hi252_3; have HC252_3 := Aside0.mk hl252_3; clear hi252_3 hl252_3; have HR252_4 := Aside0.mk hi252_4; have HC252_4 := Aside0.mk hl252_4; clear hi252_4 hl252_4; replace p252 := eq_true p252; replace q252 := eq_true q252) | ((with_reducible refine gate_dst (N := 13) rfl ?_); (try (refine gate_guard (by rfl) ?_; dsimp only)); refine zbox (N := 13) (cs := #[.int .i64 0, .int .i64 0, .int .i64 0, .slice none 0 0, .slice none 0 0]) (t := 31) ?_; intro gb253 hg w32 hbox hb; have n0_ := Aside0.mk (zbb BK251.out hb); have n1_ := Aside0.mk (below_step (zw1 HB.out GE251.out) hb); have BK253 := Aside0.mk (hbox); have GW253 := Aside0.mk (zg hg (below_size (zw1 HB.out GE251.out))); have GE253 := GW253; have NB251_253 := Aside0.mk (zlt hg BK251.out); have NB253_251 := Aside0.mk (zgt hg BK251.out); clear BK251 HB; have BK251 := n0_; have HB := n1_; clear n0_ n1_; clear hb hbox hg; have hnb33 := NB253_251.out; have hnc33 := NB251_253.out; have hcz34_0 := zc BK253.out 0; have hcz34_1 := zc BK253.out 1; have hcz34_2 := zc BK253.out 2; have hcz34_3 := zc BK253.out 3; have hcz34_4 := zc BK253.out 4; have hfz34_0 := blk_frozen BK253.out 0; have hfz34_1 := blk_frozen BK253.out 1; have hfz34_2 := blk_frozen BK253.out 2; have hfz34_3 := blk_frozen BK253.out 3; have hfz34_4 := blk_frozen BK253.out 4) | ((with_reducible refine gate_callee (f := 64) rfl ?_); refine zgo (some 30) Try.func64 #[.int .i64 ((rd_T31 l1 a2).f1), .int .i64 1, .int .i64 16] ?_; (with_reducible refine (cellarref0_Between.calls ((rd_T31 l1 a2).f1) 1 16 false _ A9.out).mono ?_); rintro e w' ⟨rfl, ⟨nd, rfl⟩⟩; refine ⟨_, rfl, ?_⟩))
    go_ret3
    exact ⟨ze, zw2 HB.out GE251.out GE253.out⟩
   subst c10
   have H1 : ((cellarref0_Num.f ((rd_T31 l1 a2).f2) (wrap64 (a2 - 1))).bind fun t255 => (if t255 = true then (if (wrap64 ((((rd_T31 l1 a2).f3).length : Int) + (((rd_T31 l1 a2).f4).length : Int))) > 0 then (some (0, 0, false)) else (if 0 ≤ ((rd_T31 l1 a2).f2) then (if ((rd_T31 l1 a2).f2) < (l3.length : Int) then (if ((rd_T31 l1 a2).f2) < (l4.length : Int) then (some (wrap64 (((rd_T31 l1 a2).f1) * (rd l3 ((rd_T31 l1 a2).f2))), rd l4 ((rd_T31 l1 a2).f2), true)) else (none)) else (none)) else (none))) else (some (0, 0, false)))) = some (r1, r2, r3) := by rw [if_pos rfl] at H; exact H
   clear H
   have H := H1
   clear H1
   replace H := Option.bind_eq_some_iff.mp H
   obtain ⟨t255, A110, H⟩ := H
   replace H : (if t255 = true then (if (wrap64 ((((rd_T31 l1 a2).f3).length : Int) + (((rd_T31 l1 a2).f4).length : Int))) > 0 then (some (0, 0, false)) else (if 0 ≤ ((rd_T31 l1 a2).f2) then (if ((rd_T31 l1 a2).f2) < (l3.length : Int) then (if ((rd_T31 l1 a2).f2) < (l4.length : Int) then (some (wrap64 (((rd_T31 l1 a2).f1) * (rd l3 ((rd_T31 l1 a2).f2))), rd l4 ((rd_T31 l1 a2).f2), true)) else (none)) else (none)) else (none))) else (some (0, 0, false))) = some (r1, r2, r3) := H
   have A11 := Aside0.mk A110
   clear A110
   by_cases c12 : t255 = true
   rotate_left
   ·replace c12 := Bool.eq_false_iff.mpr c12
    subst c12
    have H1 : (some (0, 0, false)) = some (r1, r2, r3) := by rw [if_neg (show ¬ (false = true) by decide)] at H; exact H
    clear H
    have H := H1
    clear H1
    simp only [Option.some.injEq, Prod.mk.injEq] at H
    obtain ⟨rfl, rfl, rfl⟩ := H
    go_enter Try.func55, Try.ntmps55
    go_wp2_with (first | ((with_reducible refine gate_dst (N := 5) rfl ?_); (try (refine gate_guard (by rfl) ?_; dsimp only)); refine zbox (N := 5) (cs := #[.bool a0_0, .int .i64 a0_1]) (t := 29) ?_; intro gb251 hg w27 hbox hb; have n0_ := Aside0.mk (below_step (zw0 HB.out) hb); have BK251 := Aside0.mk (hbox); have GW251 := Aside0.mk (zg hg (below_size (zw0 HB.out))); have GE251 := GW251; clear HB; have HB := n0_; clear n0_; clear hb hbox hg; have p252 : 0 ≤ (a2 : Int) := zdec; have q252 : a2 < (l1.length : Int) := zdec; obtain ⟨ad252, A252_3, c252_3, A252_4, c252_4, e252, hx252_0, hx252_1, hx252_2, hx252_3, hx252_4, hl252_3, hi252_3, hl252_4, hi252_4⟩ := at_T31 HR1.out a2 p252 q252; cases e252; replace hx252_0 := zh HB.out hx252_0; replace hx252_1 := zh HB.out hx252_1; replace hx252_2 := zh HB.out hx252_2; replace hx252_3 := zh HB.out hx252_3; replace hx252_4 := zh HB.out hx252_4; have HR252_3 := Aside0.mk hi252_3; have HC252_3 := Aside0.mk hl252_3; clear hi252_3 hl252_3; have HR252_4 := Aside0.mk hi252_4; have HC252_4 := Aside0.mk hl252_4; clear hi252_4 hl252_4; replace p252 := eq_true p252; replace q252 := eq_true q252) | ((with_reducible refine gate_dst (N := 13) rfl ?_); (try (refine gate_guard (by rfl) ?_; dsimp only)); refine zbox (N := 13) (cs := #[.int .i64 0, .int .i64 0, .int .i64 0, .slice none 0 0, .slice none 0 0]) (t := 31) ?_; intro gb253 hg w28 hbox hb; have n0_ := Aside0.mk (zbb BK251.out hb); have n1_ := Aside0.mk (below_step (zw1 HB.out GE251.out) hb); have BK253 := Aside0.mk (hbox); have GW253 := Aside0.mk (zg hg (below_size (zw1 HB.out GE251.out))); have GE253 := GW253; have NB251_253 := Aside0.mk (zlt hg BK251.out); have NB253_251 := Aside0.mk (zgt hg BK251.out); clear BK251 HB; have BK251 := n0_; have HB := n1_; clear n0_ n1_; clear hb hbox hg; have hnb29 := NB253_251.out; have hnc29 := NB251_253.out; have hcz30_0 := zc BK253.out 0; have hcz30_1 := zc BK253.out 1; have hcz30_2 := zc BK253.out 2; have hcz30_3 := zc BK253.out 3; have hcz30_4 := zc BK253.out 4; have hfz30_0 := blk_frozen BK253.out 0; have hfz30_1 := blk_frozen BK253.out 1; have hfz30_2 := blk_frozen BK253.out 2; have hfz30_3 := blk_frozen BK253.out 3; have hfz30_4 := blk_frozen BK253.out 4) | ((with_reducible refine gate_callee (f := 64) rfl ?_); refine zgo (some 30) Try.func64 #[.int .i64 ((rd_T31 l1 a2).f1), .int .i64 1, .int .i64 16] ?_; (with_reducible refine (cellarref0_Between.calls ((rd_T31 l1 a2).f1) 1 16 true _ A9.out).mono ?_); rintro e w' ⟨rfl, ⟨nd, rfl⟩⟩; refine ⟨_, rfl, ?_⟩) | (go_at_call 18; (with_reducible refine (cellarref0_Num.calls ((rd_T31 l1 a2).f2) (wrap64 (a2 - 1)) false _ A11.out).mono ?_); rintro e w' ⟨rfl, ⟨nd, rfl⟩⟩))
    go_ret3
    exact ⟨ze, zw2 HB.out GE251.out GE253.out⟩
   subst c12
   have H1 : (if (wrap64 ((((rd_T31 l1 a2).f3).length : Int) + (((rd_T31 l1 a2).f4).length : Int))) > 0 then (some (0, 0, false)) else (if 0 ≤ ((rd_T31 l1 a2).f2) then (if ((rd_T31 l1 a2).f2) < (l3.length : Int) then (if ((rd_T31 l1 a2).f2) < (l4.length : Int) then (some (wrap64 (((rd_T31 l1 a2).f1) * (rd l3 ((rd_T31 l1 a2).f2))), rd l4 ((rd_T31 l1 a2).f2), true)) else (none)) else (none)) else (none))) = some (r1, r2, r3) := by rw [if_pos rfl] at H; exact H
   clear H
   have H := H1
   clear H1
   by_cases c13 : (wrap64 ((((rd_T31 l1 a2).f3).length : Int) + (((rd_T31 l1 a2).f4).length : Int))) > 0
   ·rw [if_pos c13] at H
    have c13b0 : decide (0 < (wrap64 ((((rd_T31 l1 a2).f3).length : Int) + (((rd_T31 l1 a2).f4).length : Int)))) = true := decide_eq_true c13
    clear c13
    simp only [Option.some.injEq, Prod.mk.injEq] at H
    obtain ⟨rfl, rfl, rfl⟩ := H
    go_enter Try.func55, Try.ntmps55
    go_wp2_with (first | ((with_reducible refine gate_dst (N := 5) rfl ?_); (try (refine gate_guard (by rfl) ?_; dsimp only)); refine zbox (N := 5) (cs := #[.bool a0_0, .int .i64 a0_1]) (t := 29) ?_; intro gb251 hg w14 hbox hb; have n0_ := Aside0.mk (below_step (zw0 HB.out) hb); have BK251 := Aside0.mk (hbox); have GW251 := Aside0.mk (zg hg (below_size (zw0 HB.out))); have GE251 := GW251; clear HB; have HB := n0_; clear n0_; clear hb hbox hg; have p252 : 0 ≤ (a2 : Int) := zdec; have q252 : a2 < (l1.length : Int) := zdec; obtain ⟨ad252, A252_3, c252_3, A252_4, c252_4, e252, hx252_0, hx252_1, hx252_2, hx252_3, hx252_4, hl252_3, hi252_3, hl252_4, hi252_4⟩ := at_T31 HR1.out a2 p252 q252; cases e252; replace hx252_0 := zh HB.out hx252_0; replace hx252_1 := zh HB.out hx252_1; replace hx252_2 := zh HB.out hx252_2; replace hx252_3 := zh HB.out hx252_3; replace hx252_4 := zh HB.out hx252_4; have HR252_3 := Aside0.mk hi252_3; have HC252_3 := Aside0.mk hl252_3; clear hi252_3 hl252_3; have HR252_4 := Aside0.mk hi252_4; have HC252_4 := Aside0.mk hl252_4; clear hi252_4 hl252_4; replace p252 := eq_true p252; replace q252 := eq_true q252) | ((with_reducible refine gate_dst (N := 13) rfl ?_); (try (refine gate_guard (by rfl) ?_; dsimp only)); refine zbox (N := 13) (cs := #[.int .i64 0, .int .i64 0, .int .i64 0, .slice none 0 0, .slice none 0 0]) (t := 31) ?_; intro gb253 hg w15 hbox hb; have n0_ := Aside0.mk (zbb BK251.out hb); have n1_ := Aside0.mk (below_step (zw1 HB.out GE251.out) hb); have BK253 := Aside0.mk (hbox); have GW253 := Aside0.mk (zg hg (below_size (zw1 HB.out GE251.out))); have GE253 := GW253; have NB251_253 := Aside0.mk (zlt hg BK251.out); have NB253_251 := Aside0.mk (zgt hg BK251.out); clear BK251 HB; have BK251 := n0_; have HB := n1_; clear n0_ n1_; clear hb hbox hg; have hnb16 := NB253_251.out; have hnc16 := NB251_253.out; have hcz17_0 := zc BK253.out 0; have hcz17_1 := zc BK253.out 1; have hcz17_2 := zc BK253.out 2; have hcz17_3 := zc BK253.out 3; have hcz17_4 := zc BK253.out 4; have hfz17_0 := blk_frozen BK253.out 0; have hfz17_1 := blk_frozen BK253.out 1; have hfz17_2 := blk_frozen BK253.out 2; have hfz17_3 := blk_frozen BK253.out 3; have hfz17_4 := blk_frozen BK253.out 4) | ((with_reducible refine gate_callee (f := 64) rfl ?_); refine zgo (some 30) Try.func64 #[.int .i64 ((rd_T31 l1 a2).f1), .int .i64 1, .int .i64 16] ?_; (with_reducible refine (cellarref0_Between.calls ((rd_T31 l1 a2).f1) 1 16 true _ A9.out).mono ?_); rintro e w' ⟨rfl, ⟨nd, rfl⟩⟩; refine ⟨_, rfl, ?_⟩) | (go_at_call 18; (with_reducible refine (cellarref0_Num.calls ((rd_T31 l1 a2).f2) (wrap64 (a2 - 1)) true _ A11.out).mono ?_); rintro e w' ⟨rfl, ⟨nd, rfl⟩⟩))
    go_ret3
    exact ⟨ze, zw2 HB.out GE251.out GE253.out⟩
   rw [if_neg c13] at H
   have c13b0 : decide (0 < (wrap64 ((((rd_T31 l1 a2).f3).length : Int) + (((rd_T31 l1 a2).f4).length : Int)))) = false := decide_eq_false c13
   clear c13
   by_cases c18 : 0 ≤ ((rd_T31 l1 a2).f2)
   rotate_left
   ·rw [if_neg c18] at H
    exact absurd H (by simp)
   rw [if_pos c18] at H
   have c18b0 : decide (0 ≤ ((rd_T31 l1 a2).f2)) = true := decide_eq_true c18
   clear c18
   by_cases c19 : ((rd_T31 l1 a2).f2) < (l3.length : Int)
   rotate_left
   ·rw [if_neg c19] at H
    exact absurd H (by simp)
   rw [if_pos c19] at H
   have c19b0 : decide (((rd_T31 l1 a2).f2) < (l3.length : Int)) = true := decide_eq_true c19
   clear c19
   by_cases c20 : ((rd_T31 l1 a2).f2) < (l4.length : Int)
   rotate_left
   ·rw [if_neg c20] at H
    exact absurd H (by simp)
   rw [if_pos c20] at H
   have c20b0 : decide (((rd_T31 l1 a2).f2) < (l4.length : Int)) = true := decide_eq_true c20
   clear c20
   simp only [Option.some.injEq, Prod.mk.injEq] at H
   obtain ⟨rfl, rfl, rfl⟩ := H
   go_enter Try.func55, Try.ntmps55
   try go_wp2_with (first | ((with_reducible refine gate_dst (N := 5) rfl ?_); (try (refine gate_guard (by rfl) ?_; dsimp only)); refine zbox (N := 5) (cs := #[.bool a0_0, .int .i64 a0_1]) (t := 29) ?_; intro gb251 hg w21 hbox hb; have n0_ := Aside0.mk (below_step (zw0 HB.out) hb); have BK251 := Aside0.mk (hbox); have GW251 := Aside0.mk (zg hg (below_size (zw0 HB.out))); have GE251 := GW251; clear HB; have HB := n0_; clear n0_; clear hb hbox hg; have p252 : 0 ≤ (a2 : Int) := zdec; have q252 : a2 < (l1.length : Int) := zdec; obtain ⟨ad252, A252_3, c252_3, A252_4, c252_4, e252, hx252_0, hx252_1, hx252_2, hx252_3, hx252_4, hl252_3, hi252_3, hl252_4, hi252_4⟩ := at_T31 HR1.out a2 p252 q252; cases e252; replace hx252_0 := zh HB.out hx252_0; replace hx252_1 := zh HB.out hx252_1; replace hx252_2 := zh HB.out hx252_2; replace hx252_3 := zh HB.out hx252_3; replace hx252_4 := zh HB.out hx252_4; have HR252_3 := Aside0.mk hi252_3; have HC252_3 := Aside0.mk hl252_3; clear hi252_3 hl252_3; have HR252_4 := Aside0.mk hi252_4; have HC252_4 := Aside0.mk hl252_4; clear hi252_4 hl252_4; replace p252 := eq_true p252; replace q252 := eq_true q252) | ((with_reducible refine gate_dst (N := 13) rfl ?_); (try (refine gate_guard (by rfl) ?_; dsimp only)); refine zbox (N := 13) (cs := #[.int .i64 0, .int .i64 0, .int .i64 0, .slice none 0 0, .slice none 0 0]) (t := 31) ?_; intro gb253 hg w22 hbox hb; have n0_ := Aside0.mk (zbb BK251.out hb); have n1_ := Aside0.mk (below_step (zw1 HB.out GE251.out) hb); have BK253 := Aside0.mk (hbox); have GW253 := Aside0.mk (zg hg (below_size (zw1 HB.out GE251.out))); have GE253 := GW253; have NB251_253 := Aside0.mk (zlt hg BK251.out); have NB253_251 := Aside0.mk (zgt hg BK251.out); clear BK251 HB; have BK251 := n0_; have HB := n1_; clear n0_ n1_; clear hb hbox hg; have hnb23 := NB253_251.out; have hnc23 := NB251_253.out; have hcz24_0 := zc BK253.out 0; have hcz24_1 := zc BK253.out 1; have hcz24_2 := zc BK253.out 2; have hcz24_3 := zc BK253.out 3; have hcz24_4 := zc BK253.out 4; have hfz24_0 := blk_frozen BK253.out 0; have hfz24_1 := blk_frozen BK253.out 1; have hfz24_2 := blk_frozen BK253.out 2; have hfz24_3 := blk_frozen BK253.out 3; have hfz24_4 := blk_frozen BK253.out 4) | ((with_reducible refine gate_callee (f := 64) rfl ?_); refine zgo (some 30) Try.func64 #[.int .i64 ((rd_T31 l1 a2).f1), .int .i64 1, .int .i64 16] ?_; (with_reducible refine (cellarref0_Between.calls ((rd_T31 l1 a2).f1) 1 16 true _ A9.out).mono ?_); rintro e w' ⟨rfl, ⟨nd, rfl⟩⟩; refine ⟨_, rfl, ?_⟩) | (go_at_call 18; (with_reducible refine (cellarref0_Num.calls ((rd_T31 l1 a2).f2) (wrap64 (a2 - 1)) true _ A11.out).mono ?_); rintro e w' ⟨rfl, ⟨nd, rfl⟩⟩))
   have n0_ : Aside0 ((((((w22.setCell ⟨gb253, 0, none⟩ (.int .i64 ((rd_T31 l1 a2).f0))).setCell ⟨gb253, 1, none⟩ (.int .i64 ((rd_T31 l1 a2).f1))).setCell ⟨gb253, 2, none⟩ (.int .i64 ((rd_T31 l1 a2).f2))).setCell ⟨gb253, 3, none⟩ (.slice A252_3 ((rd_T31 l1 a2).f3).length c252_3)).setCell ⟨gb253, 4, none⟩ (.slice A252_4 ((rd_T31 l1 a2).f4).length c252_4)).heap[gb251]? = some (.cells #[.bool a0_0, .int .i64 a0_1] 29 (0, 0))) := ⟨zf1 BK251.out NB251_253.out⟩
   have n1_ : Aside0 ((((((w22.setCell ⟨gb253, 0, none⟩ (.int .i64 ((rd_T31 l1 a2).f0))).setCell ⟨gb253, 1, none⟩ (.int .i64 ((rd_T31 l1 a2).f1))).setCell ⟨gb253, 2, none⟩ (.int .i64 ((rd_T31 l1 a2).f2))).setCell ⟨gb253, 3, none⟩ (.slice A252_3 ((rd_T31 l1 a2).f3).length c252_3)).setCell ⟨gb253, 4, none⟩ (.slice A252_4 ((rd_T31 l1 a2).f4).length c252_4)).heap[gb253]? = some (.cells #[.int .i64 ((rd_T31 l1 a2).f0), .int .i64 ((rd_T31 l1 a2).f1), .int .i64 ((rd_T31 l1 a2).f2), .slice A252_3 ((rd_T31 l1 a2).f3).length c252_3, .slice A252_4 ((rd_T31 l1 a2).f4).length c252_4] 31 (0, 0))) := ⟨by (with_reducible repeat (first | refine blk_drewN ?_ _ | refine blk_drew ?_ | refine blk_alloc ?_ _)); refine blk_put (cs := #[.int .i64 ((rd_T31 l1 a2).f0), .int .i64 ((rd_T31 l1 a2).f1), .int .i64 ((rd_T31 l1 a2).f2), .slice A252_3 ((rd_T31 l1 a2).f3).length c252_3, .slice none 0 0]) ?_ 4 _ rfl; (with_reducible repeat (first | refine blk_drewN ?_ _ | refine blk_drew ?_ | refine blk_alloc ?_ _)); refine blk_put (cs := #[.int .i64 ((rd_T31 l1 a2).f0), .int .i64 ((rd_T31 l1 a2).f1), .int .i64 ((rd_T31 l1 a2).f2), .slice none 0 0, .slice none 0 0]) ?_ 3 _ rfl; (with_reducible repeat (first | refine blk_drewN ?_ _ | refine blk_drew ?_ | refine blk_alloc ?_ _)); refine blk_put (cs := #[.int .i64 ((rd_T31 l1 a2).f0), .int .i64 ((rd_T31 l1 a2).f1), .int .i64 0, .slice none 0 0, .slice none 0 0]) ?_ 2 _ rfl; (with_reducible repeat (first | refine blk_drewN ?_ _ | refine blk_drew ?_ | refine blk_alloc ?_ _)); refine blk_put (cs := #[.int .i64 ((rd_T31 l1 a2).f0), .int .i64 0, .int .i64 0, .slice none 0 0, .slice none 0 0]) ?_ 1 _ rfl; (with_reducible repeat (first | refine blk_drewN ?_ _ | refine blk_drew ?_ | refine blk_alloc ?_ _)); refine blk_put (cs := #[.int .i64 0, .int .i64 0, .int .i64 0, .slice none 0 0, .slice none 0 0]) ?_ 0 _ rfl; (with_reducible repeat (first | refine blk_drewN ?_ _ | refine blk_drew ?_ | refine blk_alloc ?_ _)); exact BK253.out⟩
   have n2_ : Aside0 (Below w.heap.size w (((((w22.setCell ⟨gb253, 0, none⟩ (.int .i64 ((rd_T31 l1 a2).f0))).setCell ⟨gb253, 1, none⟩ (.int .i64 ((rd_T31 l1 a2).f1))).setCell ⟨gb253, 2, none⟩ (.int .i64 ((rd_T31 l1 a2).f2))).setCell ⟨gb253, 3, none⟩ (.slice A252_3 ((rd_T31 l1 a2).f3).length c252_3)).setCell ⟨gb253, 4, none⟩ (.slice A252_4 ((rd_T31 l1 a2).f4).length c252_4))) := ⟨zw2 HB.out GE251.out GE253.out⟩
   (try clear BK251)
   (try clear BK253)
   (try clear HB)
   generalize (((((w22.setCell ⟨gb253, 0, none⟩ (.int .i64 ((rd_T31 l1 a2).f0))).setCell ⟨gb253, 1, none⟩ (.int .i64 ((rd_T31 l1 a2).f1))).setCell ⟨gb253, 2, none⟩ (.int .i64 ((rd_T31 l1 a2).f2))).setCell ⟨gb253, 3, none⟩ (.slice A252_3 ((rd_T31 l1 a2).f3).length c252_3)).setCell ⟨gb253, 4, none⟩ (.slice A252_4 ((rd_T31 l1 a2).f4).length c252_4)) = w25 at n0_ n1_ n2_ ⊢
   have BK251 := n0_
   have BK253 := n1_
   have HB := n2_
   clear n0_ n1_ n2_
   (try (rw [drewN_self w25]; generalize hq_ : World.drewN w25 _ = w25; have n0_ : Aside0 (w25.heap[gb251]? = some (.cells #[.bool a0_0, .int .i64 a0_1] 29 (0, 0))) := ⟨by rw [← hq_]; exact (zb BK251.out)⟩; have n1_ : Aside0 (w25.heap[gb253]? = some (.cells #[.int .i64 ((rd_T31 l1 a2).f0), .int .i64 ((rd_T31 l1 a2).f1), .int .i64 ((rd_T31 l1 a2).f2), .slice A252_3 ((rd_T31 l1 a2).f3).length c252_3, .slice A252_4 ((rd_T31 l1 a2).f4).length c252_4] 31 (0, 0))) := ⟨by rw [← hq_]; exact (zb BK253.out)⟩; have n2_ : Aside0 (Below w.heap.size w w25) := ⟨by rw [← hq_]; exact (zw2 HB.out GE251.out GE253.out)⟩; clear BK251 BK253 HB hq_; have BK251 := n0_; have BK253 := n1_; have HB := n2_; clear n0_ n1_ n2_))
   have n0_ := Aside0.mk (blk_drew BK251.out)
   have n1_ := Aside0.mk (blk_drew BK253.out)
   have n2_ := Aside0.mk (below_drew1 HB.out)
   clear BK251
   clear BK253
   clear HB
   have BK251 := n0_
   have BK253 := n1_
   have HB := n2_
   clear n0_ n1_ n2_
   have p256 : 0 ≤ (((rd_T31 l1 a2).f2) : Int) := zdec
   have q256 : ((rd_T31 l1 a2).f2) < (l3.length : Int) := zdec
   obtain ⟨ad256, e256, hx256_0⟩ := Kd.at_int HR3.out ((rd_T31 l1 a2).f2) p256 q256
   have hw256_0 := hx256_0
   cases e256
   replace hx256_0 := zh HB.out hx256_0
   replace p256 := eq_true p256
   replace q256 := eq_true q256
   have p257 : 0 ≤ (((rd_T31 l1 a2).f2) : Int) := zdec
   have q257 : ((rd_T31 l1 a2).f2) < (l4.length : Int) := zdec
   obtain ⟨ad257, e257, hx257_0⟩ := Kd.at_int HR4.out ((rd_T31 l1 a2).f2) p257 q257
   have hw257_0 := hx257_0
   cases e257
   replace hx257_0 := zh HB.out hx257_0
   replace p257 := eq_true p257
   replace q257 := eq_true q257
   refine start_ (n := 16) (S := fun w' => w'.cell? ⟨gb253, 0, none⟩ = some (.int .i64 ((rd_T31 l1 a2).f0)) ∧ w'.cell? ⟨gb253, 1, none⟩ = some (.int .i64 ((rd_T31 l1 a2).f1)) ∧ w'.cell? ⟨gb253, 2, none⟩ = some (.int .i64 ((rd_T31 l1 a2).f2)) ∧ w'.cell? ⟨gb253, 3, none⟩ = some (.slice A252_3 ((rd_T31 l1 a2).f3).length c252_3) ∧ w'.cell? ⟨gb253, 4, none⟩ = some (.slice A252_4 ((rd_T31 l1 a2).f4).length c252_4) ∧ w'.cell? (ad256.add (((rd_T31 l1 a2).f2)).toNat) = some (.int .i64 (rd l3 ((rd_T31 l1 a2).f2))) ∧ w'.cell? (ad257.add (((rd_T31 l1 a2).f2)).toNat) = some (.int .i64 (rd l4 ((rd_T31 l1 a2).f2)))) (ds := []) #[false,false,false,false,false,false,false,false,false,false,false,false,false,false,false,false] (by kernel_rfl) rfl rfl ⟨(blk_cell BK253.out 0).trans rfl, (blk_cell BK253.out 1).trans rfl, (blk_cell BK253.out 2).trans rfl, (blk_cell BK253.out 3).trans rfl, (blk_cell BK253.out 4).trans rfl, ((HB.out.cell (World.block_lt_of_cell? w _ hw256_0)).trans hw256_0), ((HB.out.cell (World.block_lt_of_cell? w _ hw257_0)).trans hw257_0)⟩ (fun hHeld => ?_); refine with_tabW cellarref7_measure.tab6 cellarref7_measure.bits6 (fun HT_ HW_ => ?_)
   generalize w25.drew = w26 at BK251 BK253 HB hx256_0 hx257_0 hHeld ⊢
   refine zq 0 (some 50) HT_ ?_; refine zq 2 (some 52) HT_ ?_; refine zq 3 (some 53) HT_ ?_; refine zq 8 (some 58) HT_ ?_; refine zq 9 (some 59) HT_ ?_; refine zt 1 (some 51) HT_ HW_ hHeld ?_; refine zt 4 (some 54) HT_ HW_ hHeld ?_; refine zq 5 (some 55) HT_ ?_; refine zt 6 (some 56) HT_ HW_ hHeld ?_; refine zq 7 (some 57) HT_ ?_; refine zq 13 (some 10) HT_ ?_; refine zt 10 (some 60) HT_ HW_ hHeld ?_; refine zq 11 (some 61) HT_ ?_; refine zt 12 (some 62) HT_ HW_ hHeld ?_; refine zq 14 (some 11) HT_ ?_; refine zq 15 (some 12) HT_ ?_
   refine done_ (done_of HT_.out (by kernel_rfl)) ?_
   try go_wp2
   go_ret3
   exact ⟨ze, zw2 HB.out GE251.out GE253.out⟩
  rw [if_neg c8] at H
  have c8b0 : (((rd_T31 l1 a2).f0) == 8) = false := beq_eq_false_iff_ne.mpr c8
  have c8b1 : (((rd_T31 l1 a2).f0) != 8) = true := bne_iff_ne.mpr c8
  have HC35 := Aside0.mk H
  clear H
  go_enter Try.func55, Try.ntmps55
  go_upto_if 63 with (first | ((with_reducible refine gate_dst (N := 5) rfl ?_); (try (refine gate_guard (by rfl) ?_; dsimp only)); refine zbox (N := 5) (cs := #[.bool a0_0, .int .i64 a0_1]) (t := 29) ?_; intro gb251 hg w36 hbox hb; have n0_ := Aside0.mk (below_step (zw0 HB.out) hb); have BK251 := Aside0.mk (hbox); have GW251 := Aside0.mk (zg hg (below_size (zw0 HB.out))); have GE251 := GW251; clear HB; have HB := n0_; clear n0_; clear hb hbox hg; have p252 : 0 ≤ (a2 : Int) := zdec; have q252 : a2 < (l1.length : Int) := zdec; obtain ⟨ad252, A252_3, c252_3, A252_4, c252_4, e252, hx252_0, hx252_1, hx252_2, hx252_3, hx252_4, hl252_3, hi252_3, hl252_4, hi252_4⟩ := at_T31 HR1.out a2 p252 q252; cases e252; replace hx252_0 := zh HB.out hx252_0; replace hx252_1 := zh HB.out hx252_1; replace hx252_2 := zh HB.out hx252_2; replace hx252_3 := zh HB.out hx252_3; replace hx252_4 := zh HB.out hx252_4; have HR252_3 := Aside0.mk hi252_3; have HC252_3 := Aside0.mk hl252_3; clear hi252_3 hl252_3; have HR252_4 := Aside0.mk hi252_4; have HC252_4 := Aside0.mk hl252_4; clear hi252_4 hl252_4; replace p252 := eq_true p252; replace q252 := eq_true q252) | ((with_reducible refine gate_dst (N := 13) rfl ?_); (try (refine gate_guard (by rfl) ?_; dsimp only)); refine zbox (N := 13) (cs := #[.int .i64 0, .int .i64 0, .int .i64 0, .slice none 0 0, .slice none 0 0]) (t := 31) ?_; intro gb253 hg w37 hbox hb; have n0_ := Aside0.mk (zbb BK251.out hb); have n1_ := Aside0.mk (below_step (zw1 HB.out GE251.out) hb); have BK253 := Aside0.mk (hbox); have GW253 := Aside0.mk (zg hg (below_size (zw1 HB.out GE251.out))); have GE253 := GW253; have NB251_253 := Aside0.mk (zlt hg BK251.out); have NB253_251 := Aside0.mk (zgt hg BK251.out); clear BK251 HB; have BK251 := n0_; have HB := n1_; clear n0_ n1_; clear hb hbox hg; have hnb38 := NB253_251.out; have hnc38 := NB251_253.out; have hcz39_0 := zc BK253.out 0; have hcz39_1 := zc BK253.out 1; have hcz39_2 := zc BK253.out 2; have hcz39_3 := zc BK253.out 3; have hcz39_4 := zc BK253.out 4; have hfz39_0 := blk_frozen BK253.out 0; have hfz39_1 := blk_frozen BK253.out 1; have hfz39_2 := blk_frozen BK253.out 2; have hfz39_3 := blk_frozen BK253.out 3; have hfz39_4 := blk_frozen BK253.out 4))
  (try simp only [Act.put, List.setIfInBounds_toArray, List.set_cons_zero, List.set_cons_succ])
  go_cut [63] (fun v63 wc => ∃ (kq : Nat) (x63_34 : Bool), v63 = .bool x63_34 ∧ Aside0 (cellarref7_measure.j0 kq a2 l3 l4 x63_34 a0_0 a0_1 ((rd_T31 l1 a2).f0) ((rd_T31 l1 a2).f1) ((rd_T31 l1 a2).f2) ((rd_T31 l1 a2).f3) ((rd_T31 l1 a2).f4) = some (r1, r2, r3)) ∧ Aside0 (kq ≤ k) ∧ Aside0 (wc.heap[gb251]? = some (.cells #[.bool a0_0, .int .i64 a0_1] 29 (0, 0))) ∧ Aside0 (wc.heap[gb253]? = some (.cells #[.int .i64 ((rd_T31 l1 a2).f0), .int .i64 ((rd_T31 l1 a2).f1), .int .i64 ((rd_T31 l1 a2).f2), (.slice A252_3 ((rd_T31 l1 a2).f3).length c252_3), (.slice A252_4 ((rd_T31 l1 a2).f4).length c252_4)] 31 (0, 0))) ∧ Aside0 (Below w.heap.size w wc))
  case first =>
   have H := HC35.out
   clear HC35
   by_cases c40 : ((rd_T31 l1 a2).f0) = 9
   rotate_left
   ·rw [if_neg c40] at H
    have c40b0 : (((rd_T31 l1 a2).f0) == 9) = false := beq_eq_false_iff_ne.mpr c40
    have c40b1 : (((rd_T31 l1 a2).f0) != 9) = true := bne_iff_ne.mpr c40
    (first | rw [c40b0] | (simp only [i64_w, i32_w]; rw [c40b0]) | skip)
    have H' := Aside0.mk H
    clear H
    go_wp2
    go_meet
    case rel => exact ⟨_, ((((rd_T31 l1 a2).f0) == 10)), (zr), H', ⟨by first | omega | exact Nat.le_refl _⟩, ⟨zf1 BK251.out NB251_253.out⟩, ⟨by (with_reducible repeat (first | refine blk_drewN ?_ _ | refine blk_drew ?_ | refine blk_alloc ?_ _)); refine blk_put (cs := #[.int .i64 ((rd_T31 l1 a2).f0), .int .i64 ((rd_T31 l1 a2).f1), .int .i64 ((rd_T31 l1 a2).f2), .slice A252_3 ((rd_T31 l1 a2).f3).length c252_3, .slice none 0 0]) ?_ 4 _ rfl; (with_reducible repeat (first | refine blk_drewN ?_ _ | refine blk_drew ?_ | refine blk_alloc ?_ _)); refine blk_put (cs := #[.int .i64 ((rd_T31 l1 a2).f0), .int .i64 ((rd_T31 l1 a2).f1), .int .i64 ((rd_T31 l1 a2).f2), .slice none 0 0, .slice none 0 0]) ?_ 3 _ rfl; (with_reducible repeat (first | refine blk_drewN ?_ _ | refine blk_drew ?_ | refine blk_alloc ?_ _)); refine blk_put (cs := #[.int .i64 ((rd_T31 l1 a2).f0), .int .i64 ((rd_T31 l1 a2).f1), .int .i64 0, .slice none 0 0, .slice none 0 0]) ?_ 2 _ rfl; (with_reducible repeat (first | refine blk_drewN ?_ _ | refine blk_drew ?_ | refine blk_alloc ?_ _)); refine blk_put (cs := #[.int .i64 ((rd_T31 l1 a2).f0), .int .i64 0, .int .i64 0, .slice none 0 0, .slice none 0 0]) ?_ 1 _ rfl; (with_reducible repeat (first | refine blk_drewN ?_ _ | refine blk_drew ?_ | refine blk_alloc ?_ _)); refine blk_put (cs := #[.int .i64 0, .int .i64 0, .int .i64 0, .slice none 0 0, .slice none 0 0]) ?_ 0 _ rfl; (with_reducible repeat (first | refine blk_drewN ?_ _ | refine blk_drew ?_ | refine blk_alloc ?_ _)); exact BK253.out⟩, ⟨zw2 HB.out GE251.out GE253.out⟩⟩
   rw [if_pos c40] at H
   have c40b0 : (((rd_T31 l1 a2).f0) == 9) = true := beq_iff_eq.mpr c40
   have c40b1 : (((rd_T31 l1 a2).f0) != 9) = false := bne_eq_false_iff_eq.mpr c40
   clear c40
   (first | rw [c40b0] | (simp only [i64_w, i32_w]; rw [c40b0]) | skip)
   have H' := Aside0.mk H
   clear H
   go_wp2
   go_meet
   case rel => exact ⟨_, ((((rd_T31 l1 a2).f0) == 9)), (zr), H', ⟨by first | omega | exact Nat.le_refl _⟩, ⟨zf1 BK251.out NB251_253.out⟩, ⟨by (with_reducible repeat (first | refine blk_drewN ?_ _ | refine blk_drew ?_ | refine blk_alloc ?_ _)); refine blk_put (cs := #[.int .i64 ((rd_T31 l1 a2).f0), .int .i64 ((rd_T31 l1 a2).f1), .int .i64 ((rd_T31 l1 a2).f2), .slice A252_3 ((rd_T31 l1 a2).f3).length c252_3, .slice none 0 0]) ?_ 4 _ rfl; (with_reducible repeat (first | refine blk_drewN ?_ _ | refine blk_drew ?_ | refine blk_alloc ?_ _)); refine blk_put (cs := #[.int .i64 ((rd_T31 l1 a2).f0), .int .i64 ((rd_T31 l1 a2).f1), .int .i64 ((rd_T31 l1 a2).f2), .slice none 0 0, .slice none 0 0]) ?_ 3 _ rfl; (with_reducible repeat (first | refine blk_drewN ?_ _ | refine blk_drew ?_ | refine blk_alloc ?_ _)); refine blk_put (cs := #[.int .i64 ((rd_T31 l1 a2).f0), .int .i64 ((rd_T31 l1 a2).f1), .int .i64 0, .slice none 0 0, .slice none 0 0]) ?_ 2 _ rfl; (with_reducible repeat (first | refine blk_drewN ?_ _ | refine blk_drew ?_ | refine blk_alloc ?_ _)); refine blk_put (cs := #[.int .i64 ((rd_T31 l1 a2).f0), .int .i64 0, .int .i64 0, .slice none 0 0, .slice none 0 0]) ?_ 1 _ rfl; (with_reducible repeat (first | refine blk_drewN ?_ _ | refine blk_drew ?_ | refine blk_alloc ?_ _)); refine blk_put (cs := #[.int .i64 0, .int .i64 0, .int .i64 0, .slice none 0 0, .slice none 0 0]) ?_ 0 _ rfl; (with_reducible repeat (first | refine blk_drewN ?_ _ | refine blk_drew ?_ | refine blk_alloc ?_ _)); exact BK253.out⟩, ⟨zw2 HB.out GE251.out GE253.out⟩⟩
  case rest =>
   clear HC35
   try clear c1; try clear c2; try clear p2; try clear q2; try clear c3; try clear c4; try clear c5; try clear c6; try clear c6b0; try clear p6; try clear c7; try clear c7b0; try clear c8; try clear c8b0; try clear c8b1; try clear c10; try clear c12; try clear c13; try clear c13b0; try clear c16; try clear c18; try clear c18b0; try clear c19; try clear c19b0; try clear c20; try clear c20b0; try clear c23; try clear c25; try clear p25; try clear q25; try clear c29; try clear c33; try clear c38; try clear c40; try clear c40b0; try clear c40b1; try clear p252; try clear p256; try clear p257; try clear q252; try clear q256; try clear q257
   obtain ⟨kq, x63_34, rfl, HA, HJ34, BK251, BK253, HB⟩ := hcut
   cases kq with
   | zero => exact absurd HA.out (by simp [cellarref7_measure.j0])
   | succ kj34 =>
    have H := HA.out
    clear HA
    simp only [cellarref7_measure.j0] at H
    by_cases c41 : x63_34 = true
    rotate_left
    ·replace c41 := Bool.eq_false_iff.mpr c41
     subst c41
     have H1 : ((cellarref1_Kind.f ((rd_T31 l1 a2).f0)).bind fun t274 => (if t274 = true then (if ((rd_T31 l1 a2).f1) = 0 then (if ((rd_T31 l1 a2).f2) = 0 then (if (wrap64 ((((rd_T31 l1 a2).f3).length : Int) + (((rd_T31 l1 a2).f4).length : Int))) > 0 then (some (0, 0, false)) else ((cellarref1_Size.f kj34 a0_0 a0_1 ((rd_T31 l1 a2).f0)).bind fun t275 => (some (t275, t275, true)))) else (some (0, 0, false))) else (some (0, 0, false))) else (some (0, 0, false)))) = some (r1, r2, r3) := by rw [if_neg (show ¬ (false = true) by decide)] at H; exact H
     clear H
     have H := H1
     clear H1
     replace H := Option.bind_eq_some_iff.mp H
     obtain ⟨t274, A970, H⟩ := H
     replace H : (if t274 = true then (if ((rd_T31 l1 a2).f1) = 0 then (if ((rd_T31 l1 a2).f2) = 0 then (if (wrap64 ((((rd_T31 l1 a2).f3).length : Int) + (((rd_T31 l1 a2).f4).length : Int))) > 0 then (some (0, 0, false)) else ((cellarref1_Size.f kj34 a0_0 a0_1 ((rd_T31 l1 a2).f0)).bind fun t275 => (some (t275, t275, true)))) else (some (0, 0, false))) else (some (0, 0, false))) else (some (0, 0, false))) = some (r1, r2, r3) := H
     have A97 := Aside0.mk A970
     clear A970
     by_cases c98 : t274 = true
     rotate_left
     ·replace c98 := Bool.eq_false_iff.mpr c98
      subst c98
      have H1 : (some (0, 0, false)) = some (r1, r2, r3) := by rw [if_neg (show ¬ (false = true) by decide)] at H; exact H
      clear H
      have H := H1
      clear H1
      simp only [Option.some.injEq, Prod.mk.injEq] at H
      obtain ⟨rfl, rfl, rfl⟩ := H
      have hnb113 := NB253_251.out
      have hnc113 := NB251_253.out
      have hcz114_0 := zc BK253.out 0
      have hcz114_1 := zc BK253.out 1
      have hcz114_2 := zc BK253.out 2
      have hcz114_3 := zc BK253.out 3
      have hcz114_4 := zc BK253.out 4
      have hfz114_0 := blk_frozen BK253.out 0
      have hfz114_1 := blk_frozen BK253.out 1
      have hfz114_2 := blk_frozen BK253.out 2
      have hfz114_3 := blk_frozen BK253.out 3
      have hfz114_4 := blk_frozen BK253.out 4
      go_wp2_with (first | ((with_reducible refine gate_callee (f := 41) rfl ?_); refine zgo (some 165) Try.func41 #[.int .i64 ((rd_T31 l1 a2).f0)] ?_; (with_reducible refine (cellarref1_Kind.calls ((rd_T31 l1 a2).f0) false _ A97.out).mono ?_); rintro e w' ⟨rfl, ⟨nd, rfl⟩⟩; refine ⟨_, rfl, ?_⟩))
      go_ret3
      exact ⟨ze, zw2 HB.out GE251.out GE253.out⟩
     subst c98
     have H1 : (if ((rd_T31 l1 a2).f1) = 0 then (if ((rd_T31 l1 a2).f2) = 0 then (if (wrap64 ((((rd_T31 l1 a2).f3).length : Int) + (((rd_T31 l1 a2).f4).length : Int))) > 0 then (some (0, 0, false)) else ((cellarref1_Size.f kj34 a0_0 a0_1 ((rd_T31 l1 a2).f0)).bind fun t275 => (some (t275, t275, true)))) else (some (0, 0, false))) else (some (0, 0, false))) = some (r1, r2, r3) := by rw [if_pos rfl] at H; exact H
     clear H
     have H := H1
     clear H1
     by_cases c99 : ((rd_T31 l1 a2).f1) = 0
     rotate_left
     ·rw [if_neg c99] at H
      have c99b0 : (((rd_T31 l1 a2).f1) == 0) = false := beq_eq_false_iff_ne.mpr c99
      have c99b1 : (((rd_T31 l1 a2).f1) != 0) = true := bne_iff_ne.mpr c99
      simp only [Option.some.injEq, Prod.mk.injEq] at H
      obtain ⟨rfl, rfl, rfl⟩ := H
      have hnb111 := NB253_251.out
      have hnc111 := NB251_253.out
      have hcz112_0 := zc BK253.out 0
      have hcz112_1 := zc BK253.out 1
      have hcz112_2 := zc BK253.out 2
      have hcz112_3 := zc BK253.out 3
      have hcz112_4 := zc BK253.out 4
      have hfz112_0 := blk_frozen BK253.out 0
      have hfz112_1 := blk_frozen BK253.out 1
      have hfz112_2 := blk_frozen BK253.out 2
      have hfz112_3 := blk_frozen BK253.out 3
      have hfz112_4 := blk_frozen BK253.out 4
      go_wp2_with (first | ((with_reducible refine gate_callee (f := 41) rfl ?_); refine zgo (some 165) Try.func41 #[.int .i64 ((rd_T31 l1 a2).f0)] ?_; (with_reducible refine (cellarref1_Kind.calls ((rd_T31 l1 a2).f0) true _ A97.out).mono ?_); rintro e w' ⟨rfl, ⟨nd, rfl⟩⟩; refine ⟨_, rfl, ?_⟩))
      go_ret3
      exact ⟨ze, zw2 HB.out GE251.out GE253.out⟩
     rw [if_pos c99] at H
     have c99b0 : (((rd_T31 l1 a2).f1) == 0) = true := beq_iff_eq.mpr c99
     have c99b1 : (((rd_T31 l1 a2).f1) != 0) = false := bne_eq_false_iff_eq.mpr c99
     clear c99
     by_cases c100 : ((rd_T31 l1 a2).f2) = 0
     rotate_left
     ·rw [if_neg c100] at H
      have c100b0 : (((rd_T31 l1 a2).f2) == 0) = false := beq_eq_false_iff_ne.mpr c100
      have c100b1 : (((rd_T31 l1 a2).f2) != 0) = true := bne_iff_ne.mpr c100
      simp only [Option.some.injEq, Prod.mk.injEq] at H
      obtain ⟨rfl, rfl, rfl⟩ := H
      have hnb109 := NB253_251.out
      have hnc109 := NB251_253.out
      have hcz110_0 := zc BK253.out 0
      have hcz110_1 := zc BK253.out 1
      have hcz110_2 := zc BK253.out 2
      have hcz110_3 := zc BK253.out 3
      have hcz110_4 := zc BK253.out 4
      have hfz110_0 := blk_frozen BK253.out 0
      have hfz110_1 := blk_frozen BK253.out 1
      have hfz110_2 := blk_frozen BK253.out 2
      have hfz110_3 := blk_frozen BK253.out 3
      have hfz110_4 := blk_frozen BK253.out 4
      go_wp2_with (first | ((with_reducible refine gate_callee (f := 41) rfl ?_); refine zgo (some 165) Try.func41 #[.int .i64 ((rd_T31 l1 a2).f0)] ?_; (with_reducible refine (cellarref1_Kind.calls ((rd_T31 l1 a2).f0) true _ A97.out).mono ?_); rintro e w' ⟨rfl, ⟨nd, rfl⟩⟩; refine ⟨_, rfl, ?_⟩))
      go_ret3
      exact ⟨ze, zw2 HB.out GE251.out GE253.out⟩
     rw [if_pos c100] at H
     have c100b0 : (((rd_T31 l1 a2).f2) == 0) = true := beq_iff_eq.mpr c100
     have c100b1 : (((rd_T31 l1 a2).f2) != 0) = false := bne_eq_false_iff_eq.mpr c100
     clear c100
     by_cases c101 : (wrap64 ((((rd_T31 l1 a2).f3).length : Int) + (((rd_T31 l1 a2).f4).length : Int))) > 0
     ·rw [if_pos c101] at H
      have c101b0 : decide (0 < (wrap64 ((((rd_T31 l1 a2).f3).length : Int) + (((rd_T31 l1 a2).f4).length : Int)))) = true := decide_eq_true c101
      clear c101
      simp only [Option.some.injEq, Prod.mk.injEq] at H
      obtain ⟨rfl, rfl, rfl⟩ := H
      have hnb102 := NB253_251.out
      have hnc102 := NB251_253.out
      have hcz103_0 := zc BK253.out 0
      have hcz103_1 := zc BK253.out 1
      have hcz103_2 := zc BK253.out 2
      have hcz103_3 := zc BK253.out 3
      have hcz103_4 := zc BK253.out 4
      have hfz103_0 := blk_frozen BK253.out 0
      have hfz103_1 := blk_frozen BK253.out 1
      have hfz103_2 := blk_frozen BK253.out 2
      have hfz103_3 := blk_frozen BK253.out 3
      have hfz103_4 := blk_frozen BK253.out 4
      go_wp2_with (first | ((with_reducible refine gate_callee (f := 41) rfl ?_); refine zgo (some 165) Try.func41 #[.int .i64 ((rd_T31 l1 a2).f0)] ?_; (with_reducible refine (cellarref1_Kind.calls ((rd_T31 l1 a2).f0) true _ A97.out).mono ?_); rintro e w' ⟨rfl, ⟨nd, rfl⟩⟩; refine ⟨_, rfl, ?_⟩))
      go_ret3
      exact ⟨ze, zw2 HB.out GE251.out GE253.out⟩
     rw [if_neg c101] at H
     have c101b0 : decide (0 < (wrap64 ((((rd_T31 l1 a2).f3).length : Int) + (((rd_T31 l1 a2).f4).length : Int)))) = false := decide_eq_false c101
     clear c101
     replace H := Option.bind_eq_some_iff.mp H
     obtain ⟨t275, A1040, H⟩ := H
     replace H : (some (t275, t275, true)) = some (r1, r2, r3) := H
     have A104 := Aside0.mk A1040
     clear A1040
     simp only [Option.some.injEq, Prod.mk.injEq] at H
     obtain ⟨rfl, rfl, rfl⟩ := H
     have hnb105 := NB253_251.out
     have hnc105 := NB251_253.out
     have hcz106_0 := zc BK253.out 0
     have hcz106_1 := zc BK253.out 1
     have hcz106_2 := zc BK253.out 2
     have hcz106_3 := zc BK253.out 3
     have hcz106_4 := zc BK253.out 4
     have hfz106_0 := blk_frozen BK253.out 0
     have hfz106_1 := blk_frozen BK253.out 1
     have hfz106_2 := blk_frozen BK253.out 2
     have hfz106_3 := blk_frozen BK253.out 3
     have hfz106_4 := blk_frozen BK253.out 4
     go_wp2_with (first | ((with_reducible refine gate_callee (f := 41) rfl ?_); refine zgo (some 165) Try.func41 #[.int .i64 ((rd_T31 l1 a2).f0)] ?_; (with_reducible refine (cellarref1_Kind.calls ((rd_T31 l1 a2).f0) true _ A97.out).mono ?_); rintro e w' ⟨rfl, ⟨nd, rfl⟩⟩; refine ⟨_, rfl, ?_⟩; have hcz107_0 := zc BK251.out 0; have hcz107_1 := zc BK251.out 1; have hfz107_0 := blk_frozen BK251.out 0; have hfz107_1 := blk_frozen BK251.out 1) | ((with_reducible refine gate_callee (f := 43) rfl ?_); refine zgo (some 190) Try.func43 #[.agg #[.bool a0_0, .int .i64 a0_1], .int .i64 ((rd_T31 l1 a2).f0)] ?_; (with_reducible refine (cellarref1_Size.calls kj34 a0_0 a0_1 ((rd_T31 l1 a2).f0) t275 _ A104.out).mono ?_); rintro e w108 ⟨rfl, hb⟩; refine ⟨_, rfl, ?_⟩; have n0_ := Aside0.mk (zbb BK251.out hb); have n1_ := Aside0.mk (zbb BK253.out hb); have n2_ := Aside0.mk (below_step (zw2 HB.out GE251.out GE253.out) hb); clear BK251 BK253 HB; have BK251 := n0_; have BK253 := n1_; have HB := n2_; clear n0_ n1_ n2_; (try clear hb); (try clear hb2); (try clear hk); (try clear hi)))
     go_ret3
     exact ⟨ze, zw2 HB.out GE251.out GE253.out⟩
    subst c41
    have H1 : (if ((rd_T31 l1 a2).f1) = 0 then (if ((rd_T31 l1 a2).f2) = 0 then ((cellarref0_Between.f (((rd_T31 l1 a2).f4).length : Int) 1 6).bind fun t258 => (if t258 = true then (cellarref7_measure.j1 kj34 a2 l3 l4 ((((rd_T31 l1 a2).f3).length : Int) != (((rd_T31 l1 a2).f4).length : Int)) ((rd_T31 l1 a2).f0) ((rd_T31 l1 a2).f1) ((rd_T31 l1 a2).f2) ((rd_T31 l1 a2).f3) ((rd_T31 l1 a2).f4)) else (cellarref7_measure.j1 kj34 a2 l3 l4 true ((rd_T31 l1 a2).f0) ((rd_T31 l1 a2).f1) ((rd_T31 l1 a2).f2) ((rd_T31 l1 a2).f3) ((rd_T31 l1 a2).f4)))) else (cellarref7_measure.j1 kj34 a2 l3 l4 true ((rd_T31 l1 a2).f0) ((rd_T31 l1 a2).f1) ((rd_T31 l1 a2).f2) ((rd_T31 l1 a2).f3) ((rd_T31 l1 a2).f4))) else (cellarref7_measure.j1 kj34 a2 l3 l4 true ((rd_T31 l1 a2).f0) ((rd_T31 l1 a2).f1) ((rd_T31 l1 a2).f2) ((rd_T31 l1 a2).f3) ((rd_T31 l1 a2).f4))) = some (r1, r2, r3) := by rw [if_pos rfl] at H; exact H
    clear H
    have H := H1
    clear H1
    have HC42 := Aside0.mk H
    clear H
    go_upto_region 9 with (fail)
    go_cut [89] (fun v89 wc => ∃ (kq : Nat) (x89_41 : Bool), v89 = .bool x89_41 ∧ Aside0 (cellarref7_measure.j1 kq a2 l3 l4 x89_41 ((rd_T31 l1 a2).f0) ((rd_T31 l1 a2).f1) ((rd_T31 l1 a2).f2) ((rd_T31 l1 a2).f3) ((rd_T31 l1 a2).f4) = some (r1, r2, r3)) ∧ Aside0 (kq ≤ kj34) ∧ Aside0 (wc.heap[gb251]? = some (.cells #[.bool a0_0, .int .i64 a0_1] 29 (0, 0))) ∧ Aside0 (wc.heap[gb253]? = some (.cells #[.int .i64 ((rd_T31 l1 a2).f0), .int .i64 ((rd_T31 l1 a2).f1), .int .i64 ((rd_T31 l1 a2).f2), (.slice A252_3 ((rd_T31 l1 a2).f3).length c252_3), (.slice A252_4 ((rd_T31 l1 a2).f4).length c252_4)] 31 (0, 0))) ∧ Aside0 (Below w.heap.size w wc))
    case first =>
     have H := HC42.out
     clear HC42
     by_cases c43 : ((rd_T31 l1 a2).f1) = 0
     rotate_left
     ·rw [if_neg c43] at H
      have c43b0 : (((rd_T31 l1 a2).f1) == 0) = false := beq_eq_false_iff_ne.mpr c43
      have c43b1 : (((rd_T31 l1 a2).f1) != 0) = true := bne_iff_ne.mpr c43
      (first | rw [c43b0] | (simp only [i64_w, i32_w]; rw [c43b0]) | skip)
      have H' := Aside0.mk H
      clear H
      have hnb53 := NB253_251.out
      have hnc53 := NB251_253.out
      have hcz54_0 := zc BK253.out 0
      have hcz54_1 := zc BK253.out 1
      have hcz54_2 := zc BK253.out 2
      have hcz54_3 := zc BK253.out 3
      have hcz54_4 := zc BK253.out 4
      have hfz54_0 := blk_frozen BK253.out 0
      have hfz54_1 := blk_frozen BK253.out 1
      have hfz54_2 := blk_frozen BK253.out 2
      have hfz54_3 := blk_frozen BK253.out 3
      have hfz54_4 := blk_frozen BK253.out 4
      go_wp2
      go_meet
      case rel => exact ⟨_, (true), (zr), H', ⟨by have := HJ34.out; first | omega | exact Nat.le_refl _⟩, ⟨zb BK251.out⟩, ⟨zb BK253.out⟩, ⟨zw2 HB.out GE251.out GE253.out⟩⟩
     rw [if_pos c43] at H
     have c43b0 : (((rd_T31 l1 a2).f1) == 0) = true := beq_iff_eq.mpr c43
     have c43b1 : (((rd_T31 l1 a2).f1) != 0) = false := bne_eq_false_iff_eq.mpr c43
     clear c43
     (first | rw [c43b0] | (simp only [i64_w, i32_w]; rw [c43b0]) | skip)
     by_cases c44 : ((rd_T31 l1 a2).f2) = 0
     rotate_left
     ·rw [if_neg c44] at H
      have c44b0 : (((rd_T31 l1 a2).f2) == 0) = false := beq_eq_false_iff_ne.mpr c44
      have c44b1 : (((rd_T31 l1 a2).f2) != 0) = true := bne_iff_ne.mpr c44
      have H' := Aside0.mk H
      clear H
      have hnb51 := NB253_251.out
      have hnc51 := NB251_253.out
      have hcz52_0 := zc BK253.out 0
      have hcz52_1 := zc BK253.out 1
      have hcz52_2 := zc BK253.out 2
      have hcz52_3 := zc BK253.out 3
      have hcz52_4 := zc BK253.out 4
      have hfz52_0 := blk_frozen BK253.out 0
      have hfz52_1 := blk_frozen BK253.out 1
      have hfz52_2 := blk_frozen BK253.out 2
      have hfz52_3 := blk_frozen BK253.out 3
      have hfz52_4 := blk_frozen BK253.out 4
      go_wp2
      go_meet
      case rel => exact ⟨_, (true), (zr), H', ⟨by have := HJ34.out; first | omega | exact Nat.le_refl _⟩, ⟨zb BK251.out⟩, ⟨zb BK253.out⟩, ⟨zw2 HB.out GE251.out GE253.out⟩⟩
     rw [if_pos c44] at H
     have c44b0 : (((rd_T31 l1 a2).f2) == 0) = true := beq_iff_eq.mpr c44
     have c44b1 : (((rd_T31 l1 a2).f2) != 0) = false := bne_eq_false_iff_eq.mpr c44
     clear c44
     replace H := Option.bind_eq_some_iff.mp H
     obtain ⟨t258, A450, H⟩ := H
     replace H : (if t258 = true then (cellarref7_measure.j1 kj34 a2 l3 l4 ((((rd_T31 l1 a2).f3).length : Int) != (((rd_T31 l1 a2).f4).length : Int)) ((rd_T31 l1 a2).f0) ((rd_T31 l1 a2).f1) ((rd_T31 l1 a2).f2) ((rd_T31 l1 a2).f3) ((rd_T31 l1 a2).f4)) else (cellarref7_measure.j1 kj34 a2 l3 l4 true ((rd_T31 l1 a2).f0) ((rd_T31 l1 a2).f1) ((rd_T31 l1 a2).f2) ((rd_T31 l1 a2).f3) ((rd_T31 l1 a2).f4))) = some (r1, r2, r3) := H
     have A45 := Aside0.mk A450
     clear A450
     by_cases c46 : t258 = true
     rotate_left
     ·replace c46 := Bool.eq_false_iff.mpr c46
      subst c46
      have H1 : (cellarref7_measure.j1 kj34 a2 l3 l4 true ((rd_T31 l1 a2).f0) ((rd_T31 l1 a2).f1) ((rd_T31 l1 a2).f2) ((rd_T31 l1 a2).f3) ((rd_T31 l1 a2).f4)) = some (r1, r2, r3) := by rw [if_neg (show ¬ (false = true) by decide)] at H; exact H
      clear H
      have H := H1
      clear H1
      have H' := Aside0.mk H
      clear H
      have hnb49 := NB253_251.out
      have hnc49 := NB251_253.out
      have hcz50_0 := zc BK253.out 0
      have hcz50_1 := zc BK253.out 1
      have hcz50_2 := zc BK253.out 2
      have hcz50_3 := zc BK253.out 3
      have hcz50_4 := zc BK253.out 4
      have hfz50_0 := blk_frozen BK253.out 0
      have hfz50_1 := blk_frozen BK253.out 1
      have hfz50_2 := blk_frozen BK253.out 2
      have hfz50_3 := blk_frozen BK253.out 3
      have hfz50_4 := blk_frozen BK253.out 4
      go_wp2_with (first | (go_at_call 64; (with_reducible refine (cellarref0_Between.calls (((rd_T31 l1 a2).f4).length : Int) 1 6 false _ A45.out).mono ?_); rintro e w' ⟨rfl, ⟨nd, rfl⟩⟩))
      go_meet
      case rel => exact ⟨_, (true), (zr), H', ⟨by have := HJ34.out; first | omega | exact Nat.le_refl _⟩, ⟨zb BK251.out⟩, ⟨zb BK253.out⟩, ⟨zw2 HB.out GE251.out GE253.out⟩⟩
     subst c46
     have H1 : (cellarref7_measure.j1 kj34 a2 l3 l4 ((((rd_T31 l1 a2).f3).length : Int) != (((rd_T31 l1 a2).f4).length : Int)) ((rd_T31 l1 a2).f0) ((rd_T31 l1 a2).f1) ((rd_T31 l1 a2).f2) ((rd_T31 l1 a2).f3) ((rd_T31 l1 a2).f4)) = some (r1, r2, r3) := by rw [if_pos rfl] at H; exact H
     clear H
     have H := H1
     clear H1
     have H' := Aside0.mk H
     clear H
     have hnb47 := NB253_251.out
     have hnc47 := NB251_253.out
     have hcz48_0 := zc BK253.out 0
     have hcz48_1 := zc BK253.out 1
     have hcz48_2 := zc BK253.out 2
     have hcz48_3 := zc BK253.out 3
     have hcz48_4 := zc BK253.out 4
     have hfz48_0 := blk_frozen BK253.out 0
     have hfz48_1 := blk_frozen BK253.out 1
     have hfz48_2 := blk_frozen BK253.out 2
     have hfz48_3 := blk_frozen BK253.out 3
     have hfz48_4 := blk_frozen BK253.out 4
     go_wp2_with (first | (go_at_call 64; (with_reducible refine (cellarref0_Between.calls (((rd_T31 l1 a2).f4).length : Int) 1 6 true _ A45.out).mono ?_); rintro e w' ⟨rfl, ⟨nd, rfl⟩⟩))
     go_meet
     case rel => exact ⟨_, (((((rd_T31 l1 a2).f3).length : Int) != (((rd_T31 l1 a2).f4).length : Int))), (zr), H', ⟨by have := HJ34.out; first | omega | exact Nat.le_refl _⟩, ⟨zb BK251.out⟩, ⟨zb BK253.out⟩, ⟨zw2 HB.out GE251.out GE253.out⟩⟩
    case rest =>
     clear HC42
     try clear c1; try clear c2; try clear p2; try clear q2; try clear c3; try clear c4; try clear c5; try clear c6; try clear c6b0; try clear p6; try clear c7; try clear c7b0; try clear c8; try clear c8b0; try clear c8b1; try clear c10; try clear c12; try clear c13; try clear c13b0; try clear c16; try clear c18; try clear c18b0; try clear c19; try clear c19b0; try clear c20; try clear c20b0; try clear c23; try clear c25; try clear p25; try clear q25; try clear c29; try clear c33; try clear c38; try clear c40; try clear c40b0; try clear c40b1; try clear c41; try clear c43; try clear c43b0; try clear c43b1; try clear c44; try clear c44b0; try clear c44b1; try clear c46; try clear c47; try clear c49; try clear c51; try clear c53; try clear p2; try clear p25; try clear p252; try clear p256; try clear p257; try clear p6; try clear q2; try clear q25; try clear q252; try clear q256; try clear q257
     obtain ⟨kq, x89_41, rfl, HA, HJ41, BK251, BK253, HB⟩ := hcut
     cases kq with
     | zero => exact absurd HA.out (by simp [cellarref7_measure.j1])
     | succ kj41 =>
      have H := HA.out
      clear HA
      simp only [cellarref7_measure.j1] at H
      by_cases c55 : x89_41 = true
      ·subst c55
       have H1 : (some (0, 0, false)) = some (r1, r2, r3) := by rw [if_pos rfl] at H; exact H
       clear H
       have H := H1
       clear H1
       simp only [Option.some.injEq, Prod.mk.injEq] at H
       obtain ⟨rfl, rfl, rfl⟩ := H
       go_wp2
       go_ret3
       exact ⟨ze, zw2 HB.out GE251.out GE253.out⟩
      replace c55 := Bool.eq_false_iff.mpr c55
      subst c55
      have H1 : (cellarref7_measure.l0 kj41 a2 l3 l4 0 0 1 0 ((rd_T31 l1 a2).f0) ((rd_T31 l1 a2).f1) ((rd_T31 l1 a2).f2) ((rd_T31 l1 a2).f3) ((rd_T31 l1 a2).f4)) = some (r1, r2, r3) := by rw [if_neg (show ¬ (false = true) by decide)] at H; exact H
      clear H
      have H := H1
      clear H1
      have H' := Aside0.mk H
      clear H
      go_wp2
      go_loopg [14, 15, 16, 17] kj41 (fun kq v14 v15 v16 v17 w' => ∃ (x14_3 : Int) (x15_3 : Int) (x16_3 : Int) (x17_3 : Int), v14 = .int .i64 x14_3 ∧ v15 = .int .i64 x15_3 ∧ v16 = .int .i64 x16_3 ∧ v17 = .int .i64 x17_3 ∧ Aside0 (cellarref7_measure.l0 kq a2 l3 l4 x14_3 x15_3 x16_3 x17_3 ((rd_T31 l1 a2).f0) ((rd_T31 l1 a2).f1) ((rd_T31 l1 a2).f2) ((rd_T31 l1 a2).f3) ((rd_T31 l1 a2).f4) = some (r1, r2, r3)) ∧ Aside0 (kq ≤ kj41) ∧ Aside0 (w'.heap[gb251]? = some (.cells #[.bool a0_0, .int .i64 a0_1] 29 (0, 0))) ∧ Aside0 (w'.heap[gb253]? = some (.cells #[.int .i64 ((rd_T31 l1 a2).f0), .int .i64 ((rd_T31 l1 a2).f1), .int .i64 ((rd_T31 l1 a2).f2), (.slice A252_3 ((rd_T31 l1 a2).f3).length c252_3), (.slice A252_4 ((rd_T31 l1 a2).f4).length c252_4)] 31 (0, 0))) ∧ Aside0 (Below w.heap.size w w'))
      case atStart => exact ⟨(0), (0), (1), (0), (zr), (zr), (zr), (zr), H', ⟨Nat.le_refl _⟩, ⟨zb BK251.out⟩, ⟨zb BK253.out⟩, ⟨zw2 HB.out GE251.out GE253.out⟩⟩
      case round =>
       clear H'
       try clear c1; try clear c2; try clear p2; try clear q2; try clear c3; try clear c4; try clear c5; try clear c6; try clear c6b0; try clear p6; try clear c7; try clear c7b0; try clear c8; try clear c8b0; try clear c8b1; try clear c10; try clear c12; try clear c13; try clear c13b0; try clear c16; try clear c18; try clear c18b0; try clear c19; try clear c19b0; try clear c20; try clear c20b0; try clear c23; try clear c25; try clear p25; try clear q25; try clear c29; try clear c33; try clear c38; try clear c40; try clear c40b0; try clear c40b1; try clear c41; try clear c43; try clear c43b0; try clear c43b1; try clear c44; try clear c44b0; try clear c44b1; try clear c46; try clear c47; try clear c49; try clear c51; try clear c53; try clear c55; try clear p2; try clear p25; try clear p252; try clear p256; try clear p257; try clear p6; try clear q2; try clear q25; try clear q252; try clear q256; try clear q257
       obtain ⟨x14_3, x15_3, x16_3, x17_3, rfl, rfl, rfl, rfl, HA, HK3, BK251, BK253, HB⟩ := hrel
       cases gk with
       | zero => exact absurd HA.out (by simp [cellarref7_measure.l0])
       | succ k3 =>
        have H := HA.out
        clear HA
        simp only [cellarref7_measure.l0] at H
        by_cases c56 : x17_3 < (((rd_T31 l1 a2).f4).length : Int)
        rotate_left
        ·rw [if_neg c56] at H
         have c56b0 : decide (x17_3 < (((rd_T31 l1 a2).f4).length : Int)) = false := decide_eq_false c56
         clear c56
         by_cases c90 : ((rd_T31 l1 a2).f0) = 10
         rotate_left
         ·rw [if_neg c90] at H
          have c90b0 : (((rd_T31 l1 a2).f0) == 10) = false := beq_eq_false_iff_ne.mpr c90
          have c90b1 : (((rd_T31 l1 a2).f0) != 10) = true := bne_iff_ne.mpr c90
          replace H := Option.bind_eq_some_iff.mp H
          obtain ⟨t260, A940, H⟩ := H
          replace H : (some (t260, x16_3, true)) = some (r1, r2, r3) := H
          have A94 := Aside0.mk A940
          clear A940
          simp only [Option.some.injEq, Prod.mk.injEq] at H
          obtain ⟨rfl, rfl, rfl⟩ := H
          have hnb95 := NB253_251.out
          have hnc95 := NB251_253.out
          have hcz96_0 := zc BK253.out 0
          have hcz96_1 := zc BK253.out 1
          have hcz96_2 := zc BK253.out 2
          have hcz96_3 := zc BK253.out 3
          have hcz96_4 := zc BK253.out 4
          have hfz96_0 := blk_frozen BK253.out 0
          have hfz96_1 := blk_frozen BK253.out 1
          have hfz96_2 := blk_frozen BK253.out 2
          have hfz96_3 := blk_frozen BK253.out 3
          have hfz96_4 := blk_frozen BK253.out 4
          go_wp2_with (first | ((with_reducible refine gate_callee (f := 91) rfl ?_); refine zgo (some 161) Try.func91 #[.int .i64 x14_3, .int .i64 x16_3] ?_; (with_reducible refine (cellarref7_up.calls x14_3 x16_3 t260 _ A94.out).mono ?_); rintro e w' ⟨rfl, ⟨nd, rfl⟩⟩; refine ⟨_, rfl, ?_⟩))
          go_ret3
          exact ⟨ze, zw2 HB.out GE251.out GE253.out⟩
         rw [if_pos c90] at H
         have c90b0 : (((rd_T31 l1 a2).f0) == 10) = true := beq_iff_eq.mpr c90
         have c90b1 : (((rd_T31 l1 a2).f0) != 10) = false := bne_eq_false_iff_eq.mpr c90
         clear c90
         replace H := Option.bind_eq_some_iff.mp H
         obtain ⟨t259, A910, H⟩ := H
         replace H : (some (t259, x16_3, true)) = some (r1, r2, r3) := H
         have A91 := Aside0.mk A910
         clear A910
         simp only [Option.some.injEq, Prod.mk.injEq] at H
         obtain ⟨rfl, rfl, rfl⟩ := H
         have hnb92 := NB253_251.out
         have hnc92 := NB251_253.out
         have hcz93_0 := zc BK253.out 0
         have hcz93_1 := zc BK253.out 1
         have hcz93_2 := zc BK253.out 2
         have hcz93_3 := zc BK253.out 3
         have hcz93_4 := zc BK253.out 4
         have hfz93_0 := blk_frozen BK253.out 0
         have hfz93_1 := blk_frozen BK253.out 1
         have hfz93_2 := blk_frozen BK253.out 2
         have hfz93_3 := blk_frozen BK253.out 3
         have hfz93_4 := blk_frozen BK253.out 4
         go_wp2_with (first | ((with_reducible refine gate_callee (f := 91) rfl ?_); refine zgo (some 161) Try.func91 #[.int .i64 x15_3, .int .i64 x16_3] ?_; (with_reducible refine (cellarref7_up.calls x15_3 x16_3 t259 _ A91.out).mono ?_); rintro e w' ⟨rfl, ⟨nd, rfl⟩⟩; refine ⟨_, rfl, ?_⟩))
         go_ret3
         exact ⟨ze, zw2 HB.out GE251.out GE253.out⟩
        rw [if_pos c56] at H
        have c56b0 : decide (x17_3 < (((rd_T31 l1 a2).f4).length : Int)) = true := decide_eq_true c56
        clear c56
        by_cases c57 : 0 ≤ x17_3
        rotate_left
        ·rw [if_neg c57] at H
         exact absurd H (by simp)
        rw [if_pos c57] at H
        have c57b0 : decide (0 ≤ x17_3) = true := decide_eq_true c57
        clear c57
        replace H := Option.bind_eq_some_iff.mp H
        obtain ⟨t262, A580, H⟩ := H
        replace H : (if t262 = true then (if x17_3 < (((rd_T31 l1 a2).f3).length : Int) then ((cellarref7_name.f k3 (rdOf ByteArray.empty ((rd_T31 l1 a2).f3) x17_3)).bind fun t264 => (if t264 = true then (if x17_3 ≤ (((rd_T31 l1 a2).f3).length : Int) then ((cellarref0_Has.f k3 (((rd_T31 l1 a2).f3).take (x17_3 : Int).toNat) (rdOf ByteArray.empty ((rd_T31 l1 a2).f3) x17_3)).bind fun t267 => (if t267 = true then (some (0, 0, false)) else (if 0 ≤ (rd ((rd_T31 l1 a2).f4) x17_3) then (if (rd ((rd_T31 l1 a2).f4) x17_3) < (l4.length : Int) then ((cellarref7_up.f x14_3 (rd l4 (rd ((rd_T31 l1 a2).f4) x17_3))).bind fun t270 => (if (rd ((rd_T31 l1 a2).f4) x17_3) < (l3.length : Int) then (cellarref7_measure.l0 k3 a2 l3 l4 (wrap64 (t270 + (rd l3 (rd ((rd_T31 l1 a2).f4) x17_3)))) (mx x15_3 (rd l3 (rd ((rd_T31 l1 a2).f4) x17_3))) (mx x16_3 (rd l4 (rd ((rd_T31 l1 a2).f4) x17_3))) (wrap64 (x17_3 + 1)) ((rd_T31 l1 a2).f0) ((rd_T31 l1 a2).f1) ((rd_T31 l1 a2).f2) ((rd_T31 l1 a2).f3) ((rd_T31 l1 a2).f4)) else (none))) else (none)) else (none)))) else (none)) else (some (0, 0, false)))) else (none)) else (some (0, 0, false))) = some (r1, r2, r3) := H
        have A58 := Aside0.mk A580
        clear A580
        by_cases c59 : t262 = true
        rotate_left
        ·replace c59 := Bool.eq_false_iff.mpr c59
         subst c59
         have H1 : (some (0, 0, false)) = some (r1, r2, r3) := by rw [if_neg (show ¬ (false = true) by decide)] at H; exact H
         clear H
         have H := H1
         clear H1
         simp only [Option.some.injEq, Prod.mk.injEq] at H
         obtain ⟨rfl, rfl, rfl⟩ := H
         have hnb87 := NB253_251.out
         have hnc87 := NB251_253.out
         have hcz88_0 := zc BK253.out 0
         have hcz88_1 := zc BK253.out 1
         have hcz88_2 := zc BK253.out 2
         have hcz88_3 := zc BK253.out 3
         have hcz88_4 := zc BK253.out 4
         have hfz88_0 := blk_frozen BK253.out 0
         have hfz88_1 := blk_frozen BK253.out 1
         have hfz88_2 := blk_frozen BK253.out 2
         have hfz88_3 := blk_frozen BK253.out 3
         have hfz88_4 := blk_frozen BK253.out 4
         try go_wp2
         have n0_ := Aside0.mk (blk_drew BK251.out)
         have n1_ := Aside0.mk (blk_drew BK253.out)
         have n2_ := Aside0.mk (below_drew1 HB.out)
         clear BK251
         clear BK253
         clear HB
         have BK251 := n0_
         have BK253 := n1_
         have HB := n2_
         clear n0_ n1_ n2_
         have p261 : 0 ≤ (x17_3 : Int) := zdec
         have q261 : x17_3 < (((rd_T31 l1 a2).f4).length : Int) := zdec
         obtain ⟨ad261, e261, hx261_0⟩ := Kd.at_int HR252_4.out x17_3 p261 q261
         have hw261_0 := hx261_0
         cases e261
         replace hx261_0 := zh HB.out hx261_0
         replace p261 := eq_true p261
         replace q261 := eq_true q261
         refine start_ (n := 30) (S := fun w' => w'.cell? ⟨gb253, 0, none⟩ = some (.int .i64 ((rd_T31 l1 a2).f0)) ∧ w'.cell? ⟨gb253, 1, none⟩ = some (.int .i64 ((rd_T31 l1 a2).f1)) ∧ w'.cell? ⟨gb253, 2, none⟩ = some (.int .i64 ((rd_T31 l1 a2).f2)) ∧ w'.cell? ⟨gb253, 3, none⟩ = some (.slice A252_3 ((rd_T31 l1 a2).f3).length c252_3) ∧ w'.cell? ⟨gb253, 4, none⟩ = some (.slice (some ad261) ((rd_T31 l1 a2).f4).length c252_4) ∧ w'.cell? (ad261.add (x17_3).toNat) = some (.int .i64 (rd ((rd_T31 l1 a2).f4) x17_3))) (ds := []) #[false,false,false,false,false,false,false,false,false,false,false,false,false,false,false,false,false,false,false,false,false,false,false,false,false,false,false,false,false,false] (by kernel_rfl) rfl rfl ⟨(blk_cell BK253.out 0).trans rfl, (blk_cell BK253.out 1).trans rfl, (blk_cell BK253.out 2).trans rfl, (blk_cell BK253.out 3).trans rfl, (blk_cell BK253.out 4).trans rfl, ((HB.out.cell (World.block_lt_of_cell? w _ hw261_0)).trans hw261_0)⟩ (fun hHeld => ?_); refine with_tabW cellarref7_measure.tab15 cellarref7_measure.bits15 (fun HT_ HW_ => ?_)
         generalize wr.drew = w89 at BK251 BK253 HB hx261_0 hHeld ⊢
         refine zq 0 (some 97) HT_ ?_; refine zq 2 (some 99) HT_ ?_; refine zq 5 (some 102) HT_ ?_; refine zq 6 (some 103) HT_ ?_; refine zt 1 (some 98) HT_ HW_ hHeld ?_; refine zq 3 (some 100) HT_ ?_; refine zt 4 (some 101) HT_ HW_ hHeld ?_
         refine one_ (i := 7) (N := some 104) #[true,true,true,true,true,true,true,true,false,false,false,false,false,false,false,false,false,false,false,false,false,false,false,false,false,false,false,false,false,false] rfl rfl (one_of HT_.out (by kernel_rfl)) (by decide) (fun K hK => ?_)
         refine goes_ Try.func18 (by kernel_rfl) rfl #[.int .i64 (rd ((rd_T31 l1 a2).f4) x17_3), .int .i64 (wrap64 (a2 - 1))] (by rfl) rfl rfl (by (try simp only [List.map_toArray, List.map_cons, List.map_nil]); first | done | rfl | (simp only [List.length_drop, List.length_take]; rfl)) ?_
         with_reducible refine (cellarref0_Num.calls (rd ((rd_T31 l1 a2).f4) x17_3) (wrap64 (a2 - 1)) false _ A58.out).mono ?_
         rintro e w' ⟨rfl, ⟨nd, rfl⟩⟩
         refine ⟨_, rfl, ?_⟩
         refine hK.out _ _ ⟨(blk_cell BK253.out 0).trans rfl, (blk_cell BK253.out 1).trans rfl, (blk_cell BK253.out 2).trans rfl, (blk_cell BK253.out 3).trans rfl, (blk_cell BK253.out 4).trans rfl, ((HB.out.cell (World.block_lt_of_cell? w _ hw261_0)).trans hw261_0)⟩ (fun hHeld => ?_)
         clear hK K
         refine norm_ (a' := ?_) ?_ ?_
         rotate_left
         ·show Act.put _ (some 104) _ = _
          simp only [Act.put, List.setIfInBounds_toArray, List.set_cons_zero, List.set_cons_succ, i64_w, i32_w]
          rfl
         refine zq 8 (some 105) HT_ ?_; refine zq 9 (some 106) HT_ ?_; refine zu 10 (some 107) HT_ ?_; refine zu 11 (some 108) HT_ ?_; refine zu 12 (some 109) HT_ ?_; refine zu 13 (some 110) HT_ ?_; refine zu 14 (some 111) HT_ ?_; refine zu 15 (some 112) HT_ ?_; refine zu 16 (some 113) HT_ ?_; refine zq 17 (some 114) HT_ ?_; refine zq 18 (some 115) HT_ ?_; refine zu 19 (some 116) HT_ ?_; refine zu 20 (some 117) HT_ ?_; refine zu 21 (some 118) HT_ ?_; refine zu 22 (some 119) HT_ ?_; refine zu 23 (some 120) HT_ ?_; refine zu 24 (some 121) HT_ ?_; refine zu 25 (some 122) HT_ ?_; refine zu 26 (some 123) HT_ ?_; refine zu 27 (some 124) HT_ ?_; refine zu 28 (some 125) HT_ ?_; refine zq 29 (some 126) HT_ ?_
         refine done_ (done_of HT_.out (by kernel_rfl)) ?_
         try go_wp2
         go_ret3
         exact ⟨ze, zw2 HB.out GE251.out GE253.out⟩
        subst c59
        have H1 : (if x17_3 < (((rd_T31 l1 a2).f3).length : Int) then ((cellarref7_name.f k3 (rdOf ByteArray.empty ((rd_T31 l1 a2).f3) x17_3)).bind fun t264 => (if t264 = true then (if x17_3 ≤ (((rd_T31 l1 a2).f3).length : Int) then ((cellarref0_Has.f k3 (((rd_T31 l1 a2).f3).take (x17_3 : Int).toNat) (rdOf ByteArray.empty ((rd_T31 l1 a2).f3) x17_3)).bind fun t267 => (if t267 = true then (some (0, 0, false)) else (if 0 ≤ (rd ((rd_T31 l1 a2).f4) x17_3) then (if (rd ((rd_T31 l1 a2).f4) x17_3) < (l4.length : Int) then ((cellarref7_up.f x14_3 (rd l4 (rd ((rd_T31 l1 a2).f4) x17_3))).bind fun t270 => (if (rd ((rd_T31 l1 a2).f4) x17_3) < (l3.length : Int) then (cellarref7_measure.l0 k3 a2 l3 l4 (wrap64 (t270 + (rd l3 (rd ((rd_T31 l1 a2).f4) x17_3)))) (mx x15_3 (rd l3 (rd ((rd_T31 l1 a2).f4) x17_3))) (mx x16_3 (rd l4 (rd ((rd_T31 l1 a2).f4) x17_3))) (wrap64 (x17_3 + 1)) ((rd_T31 l1 a2).f0) ((rd_T31 l1 a2).f1) ((rd_T31 l1 a2).f2) ((rd_T31 l1 a2).f3) ((rd_T31 l1 a2).f4)) else (none))) else (none)) else (none)))) else (none)) else (some (0, 0, false)))) else (none)) = some (r1, r2, r3) := by rw [if_pos rfl] at H; exact H
        clear H
        have H := H1
        clear H1
        by_cases c60 : x17_3 < (((rd_T31 l1 a2).f3).length : Int)
        rotate_left
        ·rw [if_neg c60] at H
         exact absurd H (by simp)
        rw [if_pos c60] at H
        have c60b0 : decide (x17_3 < (((rd_T31 l1 a2).f3).length : Int)) = true := decide_eq_true c60
        clear c60
        replace H := Option.bind_eq_some_iff.mp H
        obtain ⟨t264, A610, H⟩ := H
        replace H : (if t264 = true then (if x17_3 ≤ (((rd_T31 l1 a2).f3).length : Int) then ((cellarref0_Has.f k3 (((rd_T31 l1 a2).f3).take (x17_3 : Int).toNat) (rdOf ByteArray.empty ((rd_T31 l1 a2).f3) x17_3)).bind fun t267 => (if t267 = true then (some (0, 0, false)) else (if 0 ≤ (rd ((rd_T31 l1 a2).f4) x17_3) then (if (rd ((rd_T31 l1 a2).f4) x17_3) < (l4.length : Int) then ((cellarref7_up.f x14_3 (rd l4 (rd ((rd_T31 l1 a2).f4) x17_3))).bind fun t270 => (if (rd ((rd_T31 l1 a2).f4) x17_3) < (l3.length : Int) then (cellarref7_measure.l0 k3 a2 l3 l4 (wrap64 (t270 + (rd l3 (rd ((rd_T31 l1 a2).f4) x17_3)))) (mx x15_3 (rd l3 (rd ((rd_T31 l1 a2).f4) x17_3))) (mx x16_3 (rd l4 (rd ((rd_T31 l1 a2).f4) x17_3))) (wrap64 (x17_3 + 1)) ((rd_T31 l1 a2).f0) ((rd_T31 l1 a2).f1) ((rd_T31 l1 a2).f2) ((rd_T31 l1 a2).f3) ((rd_T31 l1 a2).f4)) else (none))) else (none)) else (none)))) else (none)) else (some (0, 0, false))) = some (r1, r2, r3) := H
        have A61 := Aside0.mk A610
        clear A610
        by_cases c62 : t264 = true
        rotate_left
        ·replace c62 := Bool.eq_false_iff.mpr c62
         subst c62
         have H1 : (some (0, 0, false)) = some (r1, r2, r3) := by rw [if_neg (show ¬ (false = true) by decide)] at H; exact H
         clear H
         have H := H1
         clear H1
         simp only [Option.some.injEq, Prod.mk.injEq] at H
         obtain ⟨rfl, rfl, rfl⟩ := H
         have hnb84 := NB253_251.out
         have hnc84 := NB251_253.out
         have hcz85_0 := zc BK253.out 0
         have hcz85_1 := zc BK253.out 1
         have hcz85_2 := zc BK253.out 2
         have hcz85_3 := zc BK253.out 3
         have hcz85_4 := zc BK253.out 4
         have hfz85_0 := blk_frozen BK253.out 0
         have hfz85_1 := blk_frozen BK253.out 1
         have hfz85_2 := blk_frozen BK253.out 2
         have hfz85_3 := blk_frozen BK253.out 3
         have hfz85_4 := blk_frozen BK253.out 4
         try go_wp2
         have n0_ := Aside0.mk (blk_drew BK251.out)
         have n1_ := Aside0.mk (blk_drew BK253.out)
         have n2_ := Aside0.mk (below_drew1 HB.out)
         clear BK251
         clear BK253
         clear HB
         have BK251 := n0_
         have BK253 := n1_
         have HB := n2_
         clear n0_ n1_ n2_
         have p261 : 0 ≤ (x17_3 : Int) := zdec
         have q261 : x17_3 < (((rd_T31 l1 a2).f4).length : Int) := zdec
         obtain ⟨ad261, e261, hx261_0⟩ := Kd.at_int HR252_4.out x17_3 p261 q261
         have hw261_0 := hx261_0
         cases e261
         replace hx261_0 := zh HB.out hx261_0
         replace p261 := eq_true p261
         replace q261 := eq_true q261
         have p263 : 0 ≤ (x17_3 : Int) := zdec
         have q263 : x17_3 < (((rd_T31 l1 a2).f3).length : Int) := zdec
         obtain ⟨ad263, e263, hx263_0⟩ := Kd.at_string HR252_3.out x17_3 p263 q263
         have hw263_0 := hx263_0
         cases e263
         replace hx263_0 := zh HB.out hx263_0
         replace p263 := eq_true p263
         replace q263 := eq_true q263
         refine start_ (n := 30) (S := fun w' => w'.cell? ⟨gb253, 0, none⟩ = some (.int .i64 ((rd_T31 l1 a2).f0)) ∧ w'.cell? ⟨gb253, 1, none⟩ = some (.int .i64 ((rd_T31 l1 a2).f1)) ∧ w'.cell? ⟨gb253, 2, none⟩ = some (.int .i64 ((rd_T31 l1 a2).f2)) ∧ w'.cell? ⟨gb253, 3, none⟩ = some (.slice (some ad263) ((rd_T31 l1 a2).f3).length c252_3) ∧ w'.cell? ⟨gb253, 4, none⟩ = some (.slice (some ad261) ((rd_T31 l1 a2).f4).length c252_4) ∧ w'.cell? (ad261.add (x17_3).toNat) = some (.int .i64 (rd ((rd_T31 l1 a2).f4) x17_3)) ∧ w'.cell? (ad263.add (x17_3).toNat) = some (.string (rdOf ByteArray.empty ((rd_T31 l1 a2).f3) x17_3))) (ds := []) #[false,false,false,false,false,false,false,false,false,false,false,false,false,false,false,false,false,false,false,false,false,false,false,false,false,false,false,false,false,false] (by kernel_rfl) rfl rfl ⟨(blk_cell BK253.out 0).trans rfl, (blk_cell BK253.out 1).trans rfl, (blk_cell BK253.out 2).trans rfl, (blk_cell BK253.out 3).trans rfl, (blk_cell BK253.out 4).trans rfl, ((HB.out.cell (World.block_lt_of_cell? w _ hw261_0)).trans hw261_0), ((HB.out.cell (World.block_lt_of_cell? w _ hw263_0)).trans hw263_0)⟩ (fun hHeld => ?_); refine with_tabW cellarref7_measure.tab15 cellarref7_measure.bits15 (fun HT_ HW_ => ?_)
         generalize wr.drew = w86 at BK251 BK253 HB hx261_0 hx263_0 hHeld ⊢
         refine zq 0 (some 97) HT_ ?_; refine zq 2 (some 99) HT_ ?_; refine zq 5 (some 102) HT_ ?_; refine zq 6 (some 103) HT_ ?_; refine zt 1 (some 98) HT_ HW_ hHeld ?_; refine zq 3 (some 100) HT_ ?_; refine zt 4 (some 101) HT_ HW_ hHeld ?_
         refine one_ (i := 7) (N := some 104) #[true,true,true,true,true,true,true,true,false,false,false,false,false,false,false,false,false,false,false,false,false,false,false,false,false,false,false,false,false,false] rfl rfl (one_of HT_.out (by kernel_rfl)) (by decide) (fun K hK => ?_)
         refine goes_ Try.func18 (by kernel_rfl) rfl #[.int .i64 (rd ((rd_T31 l1 a2).f4) x17_3), .int .i64 (wrap64 (a2 - 1))] (by rfl) rfl rfl (by (try simp only [List.map_toArray, List.map_cons, List.map_nil]); first | done | rfl | (simp only [List.length_drop, List.length_take]; rfl)) ?_
         with_reducible refine (cellarref0_Num.calls (rd ((rd_T31 l1 a2).f4) x17_3) (wrap64 (a2 - 1)) true _ A58.out).mono ?_
         rintro e w' ⟨rfl, ⟨nd, rfl⟩⟩
         refine ⟨_, rfl, ?_⟩
         refine hK.out _ _ ⟨(blk_cell BK253.out 0).trans rfl, (blk_cell BK253.out 1).trans rfl, (blk_cell BK253.out 2).trans rfl, (blk_cell BK253.out 3).trans rfl, (blk_cell BK253.out 4).trans rfl, ((HB.out.cell (World.block_lt_of_cell? w _ hw261_0)).trans hw261_0), ((HB.out.cell (World.block_lt_of_cell? w _ hw263_0)).trans hw263_0)⟩ (fun hHeld => ?_)
         clear hK K
         refine norm_ (a' := ?_) ?_ ?_
         rotate_left
         ·show Act.put _ (some 104) _ = _
          simp only [Act.put, List.setIfInBounds_toArray, List.set_cons_zero, List.set_cons_succ, i64_w, i32_w]
          rfl
         refine zq 8 (some 105) HT_ ?_; refine zq 9 (some 106) HT_ ?_; refine zq 10 (some 107) HT_ ?_; refine zq 12 (some 109) HT_ ?_; refine zt 11 (some 108) HT_ HW_ hHeld ?_; refine zq 13 (some 110) HT_ ?_; refine zt 14 (some 111) HT_ HW_ hHeld ?_
         refine one_ (i := 15) (N := some 112) #[true,true,true,true,true,true,true,true,true,true,true,true,true,true,true,true,false,false,false,false,false,false,false,false,false,false,false,false,false,false] rfl rfl (one_of HT_.out (by kernel_rfl)) (by decide) (fun K hK => ?_)
         refine goes_ Try.func89 (by kernel_rfl) rfl #[.string (rdOf ByteArray.empty ((rd_T31 l1 a2).f3) x17_3)] (by rfl) rfl rfl (by (try simp only [List.map_toArray, List.map_cons, List.map_nil]); first | done | rfl | (simp only [List.length_drop, List.length_take]; rfl)) ?_
         with_reducible refine (cellarref7_name.calls k3 (rdOf ByteArray.empty ((rd_T31 l1 a2).f3) x17_3) false _ A61.out).mono ?_
         rintro e w' ⟨rfl, ⟨nd, rfl⟩⟩
         refine ⟨_, rfl, ?_⟩
         refine hK.out _ _ ⟨(blk_cell BK253.out 0).trans rfl, (blk_cell BK253.out 1).trans rfl, (blk_cell BK253.out 2).trans rfl, (blk_cell BK253.out 3).trans rfl, (blk_cell BK253.out 4).trans rfl, ((HB.out.cell (World.block_lt_of_cell? w _ hw261_0)).trans hw261_0), ((HB.out.cell (World.block_lt_of_cell? w _ hw263_0)).trans hw263_0)⟩ (fun hHeld => ?_)
         clear hK K
         refine norm_ (a' := ?_) ?_ ?_
         rotate_left
         ·show Act.put _ (some 112) _ = _
          simp only [Act.put, List.setIfInBounds_toArray, List.set_cons_zero, List.set_cons_succ, i64_w, i32_w]
          rfl
         refine zq 16 (some 113) HT_ ?_; refine zq 17 (some 114) HT_ ?_; refine zq 18 (some 115) HT_ ?_; refine zu 19 (some 116) HT_ ?_; refine zu 20 (some 117) HT_ ?_; refine zu 21 (some 118) HT_ ?_; refine zu 22 (some 119) HT_ ?_; refine zu 23 (some 120) HT_ ?_; refine zu 24 (some 121) HT_ ?_; refine zu 25 (some 122) HT_ ?_; refine zu 26 (some 123) HT_ ?_; refine zu 27 (some 124) HT_ ?_; refine zu 28 (some 125) HT_ ?_; refine zq 29 (some 126) HT_ ?_
         refine done_ (done_of HT_.out (by kernel_rfl)) ?_
         try go_wp2
         go_ret3
         exact ⟨ze, zw2 HB.out GE251.out GE253.out⟩
        subst c62
        have H1 : (if x17_3 ≤ (((rd_T31 l1 a2).f3).length : Int) then ((cellarref0_Has.f k3 (((rd_T31 l1 a2).f3).take (x17_3 : Int).toNat) (rdOf ByteArray.empty ((rd_T31 l1 a2).f3) x17_3)).bind fun t267 => (if t267 = true then (some (0, 0, false)) else (if 0 ≤ (rd ((rd_T31 l1 a2).f4) x17_3) then (if (rd ((rd_T31 l1 a2).f4) x17_3) < (l4.length : Int) then ((cellarref7_up.f x14_3 (rd l4 (rd ((rd_T31 l1 a2).f4) x17_3))).bind fun t270 => (if (rd ((rd_T31 l1 a2).f4) x17_3) < (l3.length : Int) then (cellarref7_measure.l0 k3 a2 l3 l4 (wrap64 (t270 + (rd l3 (rd ((rd_T31 l1 a2).f4) x17_3)))) (mx x15_3 (rd l3 (rd ((rd_T31 l1 a2).f4) x17_3))) (mx x16_3 (rd l4 (rd ((rd_T31 l1 a2).f4) x17_3))) (wrap64 (x17_3 + 1)) ((rd_T31 l1 a2).f0) ((rd_T31 l1 a2).f1) ((rd_T31 l1 a2).f2) ((rd_T31 l1 a2).f3) ((rd_T31 l1 a2).f4)) else (none))) else (none)) else (none)))) else (none)) = some (r1, r2, r3) := by rw [if_pos rfl] at H; exact H
        clear H
        have H := H1
        clear H1
        have c63b0 := eq_true (zdec : 0 ≤ x17_3)
        by_cases c64 : x17_3 ≤ (((rd_T31 l1 a2).f3).length : Int)
        rotate_left
        ·rw [if_neg c64] at H
         exact absurd H (by simp)
        rw [if_pos c64] at H
        have c64b0 := eq_true c64
        have c64b1 : decide (x17_3 ≤ (((rd_T31 l1 a2).f3).length : Int)) = true := decide_eq_true c64
        clear c64
        replace H := Option.bind_eq_some_iff.mp H
        obtain ⟨t267, A650, H⟩ := H
        replace H : (if t267 = true then (some (0, 0, false)) else (if 0 ≤ (rd ((rd_T31 l1 a2).f4) x17_3) then (if (rd ((rd_T31 l1 a2).f4) x17_3) < (l4.length : Int) then ((cellarref7_up.f x14_3 (rd l4 (rd ((rd_T31 l1 a2).f4) x17_3))).bind fun t270 => (if (rd ((rd_T31 l1 a2).f4) x17_3) < (l3.length : Int) then (cellarref7_measure.l0 k3 a2 l3 l4 (wrap64 (t270 + (rd l3 (rd ((rd_T31 l1 a2).f4) x17_3)))) (mx x15_3 (rd l3 (rd ((rd_T31 l1 a2).f4) x17_3))) (mx x16_3 (rd l4 (rd ((rd_T31 l1 a2).f4) x17_3))) (wrap64 (x17_3 + 1)) ((rd_T31 l1 a2).f0) ((rd_T31 l1 a2).f1) ((rd_T31 l1 a2).f2) ((rd_T31 l1 a2).f3) ((rd_T31 l1 a2).f4)) else (none))) else (none)) else (none))) = some (r1, r2, r3) := H
        have A65 := Aside0.mk A650
        clear A650
        by_cases c66 : t267 = true
        ·subst c66
         have H1 : (some (0, 0, false)) = some (r1, r2, r3) := by rw [if_pos rfl] at H; exact H
         clear H
         have H := H1
         clear H1
         simp only [Option.some.injEq, Prod.mk.injEq] at H
         obtain ⟨rfl, rfl, rfl⟩ := H
         have hnb67 := NB253_251.out
         have hnc67 := NB251_253.out
         have hcz68_0 := zc BK253.out 0
         have hcz68_1 := zc BK253.out 1
         have hcz68_2 := zc BK253.out 2
         have hcz68_3 := zc BK253.out 3
         have hcz68_4 := zc BK253.out 4
         have hfz68_0 := blk_frozen BK253.out 0
         have hfz68_1 := blk_frozen BK253.out 1
         have hfz68_2 := blk_frozen BK253.out 2
         have hfz68_3 := blk_frozen BK253.out 3
         have hfz68_4 := blk_frozen BK253.out 4
         try go_wp2
         have n0_ := Aside0.mk (blk_drew BK251.out)
         have n1_ := Aside0.mk (blk_drew BK253.out)
         have n2_ := Aside0.mk (below_drew1 HB.out)
         clear BK251
         clear BK253
         clear HB
         have BK251 := n0_
         have BK253 := n1_
         have HB := n2_
         clear n0_ n1_ n2_
         have p261 : 0 ≤ (x17_3 : Int) := zdec
         have q261 : x17_3 < (((rd_T31 l1 a2).f4).length : Int) := zdec
         obtain ⟨ad261, e261, hx261_0⟩ := Kd.at_int HR252_4.out x17_3 p261 q261
         have hw261_0 := hx261_0
         cases e261
         replace hx261_0 := zh HB.out hx261_0
         replace p261 := eq_true p261
         replace q261 := eq_true q261
         have p263 : 0 ≤ (x17_3 : Int) := zdec
         have q263 : x17_3 < (((rd_T31 l1 a2).f3).length : Int) := zdec
         obtain ⟨ad263, e263, hx263_0⟩ := Kd.at_string HR252_3.out x17_3 p263 q263
         have hw263_0 := hx263_0
         cases e263
         replace hx263_0 := zh HB.out hx263_0
         replace p263 := eq_true p263
         replace q263 := eq_true q263
         have p266 : 0 ≤ (x17_3 : Int) := zdec
         have q266 : x17_3 < (((rd_T31 l1 a2).f3).length : Int) := zdec
         obtain ⟨ad266, e266, hx266_0⟩ := Kd.at_string HR252_3.out x17_3 p266 q266
         have hw266_0 := hx266_0
         obtain rfl : ad263 = ad266 := (by injection e266)
         replace hx266_0 := zh HB.out hx266_0
         replace p266 := eq_true p266
         replace q266 := eq_true q266
         refine start_ (n := 30) (S := fun w' => w'.cell? ⟨gb253, 0, none⟩ = some (.int .i64 ((rd_T31 l1 a2).f0)) ∧ w'.cell? ⟨gb253, 1, none⟩ = some (.int .i64 ((rd_T31 l1 a2).f1)) ∧ w'.cell? ⟨gb253, 2, none⟩ = some (.int .i64 ((rd_T31 l1 a2).f2)) ∧ w'.cell? ⟨gb253, 3, none⟩ = some (.slice (some ad263) ((rd_T31 l1 a2).f3).length c252_3) ∧ w'.cell? ⟨gb253, 4, none⟩ = some (.slice (some ad261) ((rd_T31 l1 a2).f4).length c252_4) ∧ w'.cell? (ad261.add (x17_3).toNat) = some (.int .i64 (rd ((rd_T31 l1 a2).f4) x17_3)) ∧ w'.cell? (ad263.add (x17_3).toNat) = some (.string (rdOf ByteArray.empty ((rd_T31 l1 a2).f3) x17_3)) ∧ w'.cell? (ad263.add (x17_3).toNat) = some (.string (rdOf ByteArray.empty ((rd_T31 l1 a2).f3) x17_3))) (ds := []) #[false,false,false,false,false,false,false,false,false,false,false,false,false,false,false,false,false,false,false,false,false,false,false,false,false,false,false,false,false,false] (by kernel_rfl) rfl rfl ⟨(blk_cell BK253.out 0).trans rfl, (blk_cell BK253.out 1).trans rfl, (blk_cell BK253.out 2).trans rfl, (blk_cell BK253.out 3).trans rfl, (blk_cell BK253.out 4).trans rfl, ((HB.out.cell (World.block_lt_of_cell? w _ hw261_0)).trans hw261_0), ((HB.out.cell (World.block_lt_of_cell? w _ hw263_0)).trans hw263_0), ((HB.out.cell (World.block_lt_of_cell? w _ hw266_0)).trans hw266_0)⟩ (fun hHeld => ?_); refine with_tabW cellarref7_measure.tab15 cellarref7_measure.bits15 (fun HT_ HW_ => ?_)
         generalize wr.drew = w69 at BK251 BK253 HB hx261_0 hx263_0 hx266_0 hHeld ⊢
         refine zq 0 (some 97) HT_ ?_; refine zq 2 (some 99) HT_ ?_; refine zq 5 (some 102) HT_ ?_; refine zq 6 (some 103) HT_ ?_; refine zt 1 (some 98) HT_ HW_ hHeld ?_; refine zq 3 (some 100) HT_ ?_; refine zt 4 (some 101) HT_ HW_ hHeld ?_
         refine one_ (i := 7) (N := some 104) #[true,true,true,true,true,true,true,true,false,false,false,false,false,false,false,false,false,false,false,false,false,false,false,false,false,false,false,false,false,false] rfl rfl (one_of HT_.out (by kernel_rfl)) (by decide) (fun K hK => ?_)
         refine goes_ Try.func18 (by kernel_rfl) rfl #[.int .i64 (rd ((rd_T31 l1 a2).f4) x17_3), .int .i64 (wrap64 (a2 - 1))] (by rfl) rfl rfl (by (try simp only [List.map_toArray, List.map_cons, List.map_nil]); first | done | rfl | (simp only [List.length_drop, List.length_take]; rfl)) ?_
         with_reducible refine (cellarref0_Num.calls (rd ((rd_T31 l1 a2).f4) x17_3) (wrap64 (a2 - 1)) true _ A58.out).mono ?_
         rintro e w' ⟨rfl, ⟨nd, rfl⟩⟩
         refine ⟨_, rfl, ?_⟩
         refine hK.out _ _ ⟨(blk_cell BK253.out 0).trans rfl, (blk_cell BK253.out 1).trans rfl, (blk_cell BK253.out 2).trans rfl, (blk_cell BK253.out 3).trans rfl, (blk_cell BK253.out 4).trans rfl, ((HB.out.cell (World.block_lt_of_cell? w _ hw261_0)).trans hw261_0), ((HB.out.cell (World.block_lt_of_cell? w _ hw263_0)).trans hw263_0), ((HB.out.cell (World.block_lt_of_cell? w _ hw266_0)).trans hw266_0)⟩ (fun hHeld => ?_)
         clear hK K
         refine norm_ (a' := ?_) ?_ ?_
         rotate_left
         ·show Act.put _ (some 104) _ = _
          simp only [Act.put, List.setIfInBounds_toArray, List.set_cons_zero, List.set_cons_succ, i64_w, i32_w]
          rfl
         refine zq 8 (some 105) HT_ ?_; refine zq 9 (some 106) HT_ ?_; refine zq 10 (some 107) HT_ ?_; refine zq 12 (some 109) HT_ ?_; refine zt 11 (some 108) HT_ HW_ hHeld ?_; refine zq 13 (some 110) HT_ ?_; refine zt 14 (some 111) HT_ HW_ hHeld ?_
         refine one_ (i := 15) (N := some 112) #[true,true,true,true,true,true,true,true,true,true,true,true,true,true,true,true,false,false,false,false,false,false,false,false,false,false,false,false,false,false] rfl rfl (one_of HT_.out (by kernel_rfl)) (by decide) (fun K hK => ?_)
         refine goes_ Try.func89 (by kernel_rfl) rfl #[.string (rdOf ByteArray.empty ((rd_T31 l1 a2).f3) x17_3)] (by rfl) rfl rfl (by (try simp only [List.map_toArray, List.map_cons, List.map_nil]); first | done | rfl | (simp only [List.length_drop, List.length_take]; rfl)) ?_
         with_reducible refine (cellarref7_name.calls k3 (rdOf ByteArray.empty ((rd_T31 l1 a2).f3) x17_3) true _ A61.out).mono ?_
         rintro e w' ⟨rfl, ⟨nd, rfl⟩⟩
         refine ⟨_, rfl, ?_⟩
         obtain ⟨i070, hi070, _, hsz70, _⟩ := info_parts info9
         obtain ⟨hcut70, hA70, hC70⟩ := print_take_of (P := Try.prog) Value.string (⟨#[]⟩ : ByteArray) 24 9 .i64 Try.underlying24 hi070 hsz70 (some ad263) c252_3 ((rd_T31 l1 a2).f3) x17_3 (zdec) (zdec) HC252_3.out
         have HR265 := Aside0.mk (Kd.C_of_reads (h1 := fun _ => rfl) (hA70 _ (Kd.reads_of_C HR252_3.out)))
         have HC265 := Aside0.mk hC70
         clear hA70 hC70 hi070 hsz70
         refine hK.out _ _ ⟨(blk_cell BK253.out 0).trans rfl, (blk_cell BK253.out 1).trans rfl, (blk_cell BK253.out 2).trans rfl, (blk_cell BK253.out 3).trans rfl, (blk_cell BK253.out 4).trans rfl, ((HB.out.cell (World.block_lt_of_cell? w _ hw261_0)).trans hw261_0), ((HB.out.cell (World.block_lt_of_cell? w _ hw263_0)).trans hw263_0), ((HB.out.cell (World.block_lt_of_cell? w _ hw266_0)).trans hw266_0)⟩ (fun hHeld => ?_)
         clear hK K
         refine norm_ (a' := ?_) ?_ ?_
         rotate_left
         ·show Act.put _ (some 112) _ = _
          simp only [Act.put, List.setIfInBounds_toArray, List.set_cons_zero, List.set_cons_succ, i64_w, i32_w]
          rfl
         refine zq 16 (some 113) HT_ ?_; refine zq 17 (some 114) HT_ ?_; refine zq 18 (some 115) HT_ ?_; refine zq 19 (some 116) HT_ ?_; refine zq 21 (some 118) HT_ ?_; refine zq 23 (some 120) HT_ ?_; refine zq 25 (some 122) HT_ ?_; refine zt 20 (some 117) HT_ HW_ hHeld ?_; refine zq 22 (some 119) HT_ ?_; refine zt 24 (some 121) HT_ HW_ hHeld ?_; refine zq 26 (some 123) HT_ ?_; refine zt 27 (some 124) HT_ HW_ hHeld ?_
         refine one_ (i := 28) (N := some 125) #[true,true,true,true,true,true,true,true,true,true,true,true,true,true,true,true,true,true,true,true,true,true,true,true,true,true,true,true,true,false] rfl rfl (one_of HT_.out (by kernel_rfl)) (by decide) (fun K hK => ?_)
         refine goes_ Try.func90 (by kernel_rfl) rfl #[.slice (some ad263) (((rd_T31 l1 a2).f3).take (x17_3 : Int).toNat).length c252_3, .string (rdOf ByteArray.empty ((rd_T31 l1 a2).f3) x17_3)] (by rfl) rfl rfl (by (try simp only [List.map_toArray, List.map_cons, List.map_nil]); first | done | (rw [show (((rd_T31 l1 a2).f3).take (x17_3 : Int).toNat).length = x17_3.toNat from (by rw [List.length_take]; have h_ : (x17_3 : Int) ≤ (((rd_T31 l1 a2).f3).length : Int) := zdec; omega)] <;> rfl) | rfl | (simp only [List.length_drop, List.length_take]; rfl)) ?_
         with_reducible refine (cellarref0_Has.calls k3 _ _ (((rd_T31 l1 a2).f3).take (x17_3 : Int).toNat) (rdOf ByteArray.empty ((rd_T31 l1 a2).f3) x17_3) true _ ?side1 ?side2 A65.out).mono ?_
         (case side1 => repeat (first | exact (Kd.C_below HR265.out (zw2 HB.out GE251.out GE253.out)) | (with_reducible refine Kd.C_alloc ?_ _) | (with_reducible refine Kd.C_drewN ?_ _) | (with_reducible refine Kd.C_drew ?_)))
         (case side2 => exact HC265.out)
         rintro e w' ⟨rfl, ⟨nd, rfl⟩⟩
         refine ⟨_, rfl, ?_⟩
         refine hK.out _ _ ⟨(blk_cell BK253.out 0).trans rfl, (blk_cell BK253.out 1).trans rfl, (blk_cell BK253.out 2).trans rfl, (blk_cell BK253.out 3).trans rfl, (blk_cell BK253.out 4).trans rfl, ((HB.out.cell (World.block_lt_of_cell? w _ hw261_0)).trans hw261_0), ((HB.out.cell (World.block_lt_of_cell? w _ hw263_0)).trans hw263_0), ((HB.out.cell (World.block_lt_of_cell? w _ hw266_0)).trans hw266_0)⟩ (fun hHeld => ?_)
         clear hK K
         refine norm_ (a' := ?_) ?_ ?_
         rotate_left
         ·show Act.put _ (some 125) _ = _
          simp only [Act.put, List.setIfInBounds_toArray, List.set_cons_zero, List.set_cons_succ, i64_w, i32_w]
          rfl
         refine zq 29 (some 126) HT_ ?_
         refine done_ (done_of HT_.out (by kernel_rfl)) ?_
         try go_wp2
         go_ret3
         exact ⟨ze, zw2 HB.out GE251.out GE253.out⟩
        replace c66 := Bool.eq_false_iff.mpr c66
        subst c66
        have H1 : (if 0 ≤ (rd ((rd_T31 l1 a2).f4) x17_3) then (if (rd ((rd_T31 l1 a2).f4) x17_3) < (l4.length : Int) then ((cellarref7_up.f x14_3 (rd l4 (rd ((rd_T31 l1 a2).f4) x17_3))).bind fun t270 => (if (rd ((rd_T31 l1 a2).f4) x17_3) < (l3.length : Int) then (cellarref7_measure.l0 k3 a2 l3 l4 (wrap64 (t270 + (rd l3 (rd ((rd_T31 l1 a2).f4) x17_3)))) (mx x15_3 (rd l3 (rd ((rd_T31 l1 a2).f4) x17_3))) (mx x16_3 (rd l4 (rd ((rd_T31 l1 a2).f4) x17_3))) (wrap64 (x17_3 + 1)) ((rd_T31 l1 a2).f0) ((rd_T31 l1 a2).f1) ((rd_T31 l1 a2).f2) ((rd_T31 l1 a2).f3) ((rd_T31 l1 a2).f4)) else (none))) else (none)) else (none)) = some (r1, r2, r3) := by rw [if_neg (show ¬ (false = true) by decide)] at H; exact H
        clear H
        have H := H1
        clear H1
        by_cases c71 : 0 ≤ (rd ((rd_T31 l1 a2).f4) x17_3)
        rotate_left
        ·rw [if_neg c71] at H
         exact absurd H (by simp)
        rw [if_pos c71] at H
        have c71b0 : decide (0 ≤ (rd ((rd_T31 l1 a2).f4) x17_3)) = true := decide_eq_true c71
        clear c71
        by_cases c72 : (rd ((rd_T31 l1 a2).f4) x17_3) < (l4.length : Int)
        rotate_left
        ·rw [if_neg c72] at H
         exact absurd H (by simp)
        rw [if_pos c72] at H
        have c72b0 : decide ((rd ((rd_T31 l1 a2).f4) x17_3) < (l4.length : Int)) = true := decide_eq_true c72
        clear c72
        replace H := Option.bind_eq_some_iff.mp H
        obtain ⟨t270, A730, H⟩ := H
        replace H : (if (rd ((rd_T31 l1 a2).f4) x17_3) < (l3.length : Int) then (cellarref7_measure.l0 k3 a2 l3 l4 (wrap64 (t270 + (rd l3 (rd ((rd_T31 l1 a2).f4) x17_3)))) (mx x15_3 (rd l3 (rd ((rd_T31 l1 a2).f4) x17_3))) (mx x16_3 (rd l4 (rd ((rd_T31 l1 a2).f4) x17_3))) (wrap64 (x17_3 + 1)) ((rd_T31 l1 a2).f0) ((rd_T31 l1 a2).f1) ((rd_T31 l1 a2).f2) ((rd_T31 l1 a2).f3) ((rd_T31 l1 a2).f4)) else (none)) = some (r1, r2, r3) := H
        have A73 := Aside0.mk A730
        clear A730
        by_cases c74 : (rd ((rd_T31 l1 a2).f4) x17_3) < (l3.length : Int)
        rotate_left
        ·rw [if_neg c74] at H
         exact absurd H (by simp)
        rw [if_pos c74] at H
        have c74b0 : decide ((rd ((rd_T31 l1 a2).f4) x17_3) < (l3.length : Int)) = true := decide_eq_true c74
        clear c74
        obtain ⟨ji75, hji75⟩ : ∃ j_ : Int, (mx x15_3 (rd l3 (rd ((rd_T31 l1 a2).f4) x17_3))) = j_ := ⟨_, rfl⟩
        replace H : (cellarref7_measure.l0 k3 a2 l3 l4 (wrap64 (t270 + (rd l3 (rd ((rd_T31 l1 a2).f4) x17_3)))) ji75 (mx x16_3 (rd l4 (rd ((rd_T31 l1 a2).f4) x17_3))) (wrap64 (x17_3 + 1)) ((rd_T31 l1 a2).f0) ((rd_T31 l1 a2).f1) ((rd_T31 l1 a2).f2) ((rd_T31 l1 a2).f3) ((rd_T31 l1 a2).f4)) = some (r1, r2, r3) := by first | (rw [hji75] at H; exact H) | (simp only [hji75] at H ⊢; exact H)
        (try rw [hji75] at A58)
        (try rw [hji75] at A61)
        (try rw [hji75] at A65)
        (try rw [hji75] at A73)
        have hji75_ : (if x15_3 < (rd l3 (rd ((rd_T31 l1 a2).f4) x17_3)) then (rd l3 (rd ((rd_T31 l1 a2).f4) x17_3)) else x15_3) = ji75 := hji75
        obtain ⟨ji76, hji76⟩ : ∃ j_ : Int, (mx x16_3 (rd l4 (rd ((rd_T31 l1 a2).f4) x17_3))) = j_ := ⟨_, rfl⟩
        replace H : (cellarref7_measure.l0 k3 a2 l3 l4 (wrap64 (t270 + (rd l3 (rd ((rd_T31 l1 a2).f4) x17_3)))) ji75 ji76 (wrap64 (x17_3 + 1)) ((rd_T31 l1 a2).f0) ((rd_T31 l1 a2).f1) ((rd_T31 l1 a2).f2) ((rd_T31 l1 a2).f3) ((rd_T31 l1 a2).f4)) = some (r1, r2, r3) := by first | (rw [hji76] at H; exact H) | (simp only [hji76] at H ⊢; exact H)
        (try rw [hji76] at A58)
        (try rw [hji76] at A61)
        (try rw [hji76] at A65)
        (try rw [hji76] at A73)
        have hji76_ : (if x16_3 < (rd l4 (rd ((rd_T31 l1 a2).f4) x17_3)) then (rd l4 (rd ((rd_T31 l1 a2).f4) x17_3)) else x16_3) = ji76 := hji76
        have H' := Aside0.mk H
        clear H
        have hnb77 := NB253_251.out
        have hnc77 := NB251_253.out
        have hcz78_0 := zc BK253.out 0
        have hcz78_1 := zc BK253.out 1
        have hcz78_2 := zc BK253.out 2
        have hcz78_3 := zc BK253.out 3
        have hcz78_4 := zc BK253.out 4
        have hfz78_0 := blk_frozen BK253.out 0
        have hfz78_1 := blk_frozen BK253.out 1
        have hfz78_2 := blk_frozen BK253.out 2
        have hfz78_3 := blk_frozen BK253.out 3
        have hfz78_4 := blk_frozen BK253.out 4
        try go_wp2
        have n0_ := Aside0.mk (blk_drew BK251.out)
        have n1_ := Aside0.mk (blk_drew BK253.out)
        have n2_ := Aside0.mk (below_drew1 HB.out)
        clear BK251
        clear BK253
        clear HB
        have BK251 := n0_
        have BK253 := n1_
        have HB := n2_
        clear n0_ n1_ n2_
        have p261 : 0 ≤ (x17_3 : Int) := zdec
        have q261 : x17_3 < (((rd_T31 l1 a2).f4).length : Int) := zdec
        obtain ⟨ad261, e261, hx261_0⟩ := Kd.at_int HR252_4.out x17_3 p261 q261
        have hw261_0 := hx261_0
        cases e261
        replace hx261_0 := zh HB.out hx261_0
        replace p261 := eq_true p261
        replace q261 := eq_true q261
        have p263 : 0 ≤ (x17_3 : Int) := zdec
        have q263 : x17_3 < (((rd_T31 l1 a2).f3).length : Int) := zdec
        obtain ⟨ad263, e263, hx263_0⟩ := Kd.at_string HR252_3.out x17_3 p263 q263
        have hw263_0 := hx263_0
        cases e263
        replace hx263_0 := zh HB.out hx263_0
        replace p263 := eq_true p263
        replace q263 := eq_true q263
        have p266 : 0 ≤ (x17_3 : Int) := zdec
        have q266 : x17_3 < (((rd_T31 l1 a2).f3).length : Int) := zdec
        obtain ⟨ad266, e266, hx266_0⟩ := Kd.at_string HR252_3.out x17_3 p266 q266
        have hw266_0 := hx266_0
        obtain rfl : ad263 = ad266 := (by injection e266)
        replace hx266_0 := zh HB.out hx266_0
        replace p266 := eq_true p266
        replace q266 := eq_true q266
        refine start_ (n := 30) (S := fun w' => w'.cell? ⟨gb253, 0, none⟩ = some (.int .i64 ((rd_T31 l1 a2).f0)) ∧ w'.cell? ⟨gb253, 1, none⟩ = some (.int .i64 ((rd_T31 l1 a2).f1)) ∧ w'.cell? ⟨gb253, 2, none⟩ = some (.int .i64 ((rd_T31 l1 a2).f2)) ∧ w'.cell? ⟨gb253, 3, none⟩ = some (.slice (some ad263) ((rd_T31 l1 a2).f3).length c252_3) ∧ w'.cell? ⟨gb253, 4, none⟩ = some (.slice (some ad261) ((rd_T31 l1 a2).f4).length c252_4) ∧ w'.cell? (ad261.add (x17_3).toNat) = some (.int .i64 (rd ((rd_T31 l1 a2).f4) x17_3)) ∧ w'.cell? (ad263.add (x17_3).toNat) = some (.string (rdOf ByteArray.empty ((rd_T31 l1 a2).f3) x17_3)) ∧ w'.cell? (ad263.add (x17_3).toNat) = some (.string (rdOf ByteArray.empty ((rd_T31 l1 a2).f3) x17_3))) (ds := []) #[false,false,false,false,false,false,false,false,false,false,false,false,false,false,false,false,false,false,false,false,false,false,false,false,false,false,false,false,false,false] (by kernel_rfl) rfl rfl ⟨(blk_cell BK253.out 0).trans rfl, (blk_cell BK253.out 1).trans rfl, (blk_cell BK253.out 2).trans rfl, (blk_cell BK253.out 3).trans rfl, (blk_cell BK253.out 4).trans rfl, ((HB.out.cell (World.block_lt_of_cell? w _ hw261_0)).trans hw261_0), ((HB.out.cell (World.block_lt_of_cell? w _ hw263_0)).trans hw263_0), ((HB.out.cell (World.block_lt_of_cell? w _ hw266_0)).trans hw266_0)⟩ (fun hHeld => ?_); refine with_tabW cellarref7_measure.tab15 cellarref7_measure.bits15 (fun HT_ HW_ => ?_)
        generalize wr.drew = w79 at BK251 BK253 HB hx261_0 hx263_0 hx266_0 hHeld ⊢
        refine zq 0 (some 97) HT_ ?_; refine zq 2 (some 99) HT_ ?_; refine zq 5 (some 102) HT_ ?_; refine zq 6 (some 103) HT_ ?_; refine zt 1 (some 98) HT_ HW_ hHeld ?_; refine zq 3 (some 100) HT_ ?_; refine zt 4 (some 101) HT_ HW_ hHeld ?_
        refine one_ (i := 7) (N := some 104) #[true,true,true,true,true,true,true,true,false,false,false,false,false,false,false,false,false,false,false,false,false,false,false,false,false,false,false,false,false,false] rfl rfl (one_of HT_.out (by kernel_rfl)) (by decide) (fun K hK => ?_)
        refine goes_ Try.func18 (by kernel_rfl) rfl #[.int .i64 (rd ((rd_T31 l1 a2).f4) x17_3), .int .i64 (wrap64 (a2 - 1))] (by rfl) rfl rfl (by (try simp only [List.map_toArray, List.map_cons, List.map_nil]); first | done | rfl | (simp only [List.length_drop, List.length_take]; rfl)) ?_
        with_reducible refine (cellarref0_Num.calls (rd ((rd_T31 l1 a2).f4) x17_3) (wrap64 (a2 - 1)) true _ A58.out).mono ?_
        rintro e w' ⟨rfl, ⟨nd, rfl⟩⟩
        refine ⟨_, rfl, ?_⟩
        refine hK.out _ _ ⟨(blk_cell BK253.out 0).trans rfl, (blk_cell BK253.out 1).trans rfl, (blk_cell BK253.out 2).trans rfl, (blk_cell BK253.out 3).trans rfl, (blk_cell BK253.out 4).trans rfl, ((HB.out.cell (World.block_lt_of_cell? w _ hw261_0)).trans hw261_0), ((HB.out.cell (World.block_lt_of_cell? w _ hw263_0)).trans hw263_0), ((HB.out.cell (World.block_lt_of_cell? w _ hw266_0)).trans hw266_0)⟩ (fun hHeld => ?_)
        clear hK K
        refine norm_ (a' := ?_) ?_ ?_
        rotate_left
        ·show Act.put _ (some 104) _ = _
         simp only [Act.put, List.setIfInBounds_toArray, List.set_cons_zero, List.set_cons_succ, i64_w, i32_w]
         rfl
        refine zq 8 (some 105) HT_ ?_; refine zq 9 (some 106) HT_ ?_; refine zq 10 (some 107) HT_ ?_; refine zq 12 (some 109) HT_ ?_; refine zt 11 (some 108) HT_ HW_ hHeld ?_; refine zq 13 (some 110) HT_ ?_; refine zt 14 (some 111) HT_ HW_ hHeld ?_
        refine one_ (i := 15) (N := some 112) #[true,true,true,true,true,true,true,true,true,true,true,true,true,true,true,true,false,false,false,false,false,false,false,false,false,false,false,false,false,false] rfl rfl (one_of HT_.out (by kernel_rfl)) (by decide) (fun K hK => ?_)
        refine goes_ Try.func89 (by kernel_rfl) rfl #[.string (rdOf ByteArray.empty ((rd_T31 l1 a2).f3) x17_3)] (by rfl) rfl rfl (by (try simp only [List.map_toArray, List.map_cons, List.map_nil]); first | done | rfl | (simp only [List.length_drop, List.length_take]; rfl)) ?_
        with_reducible refine (cellarref7_name.calls k3 (rdOf ByteArray.empty ((rd_T31 l1 a2).f3) x17_3) true _ A61.out).mono ?_
        rintro e w' ⟨rfl, ⟨nd, rfl⟩⟩
        refine ⟨_, rfl, ?_⟩
        obtain ⟨i080, hi080, _, hsz80, _⟩ := info_parts info9
        obtain ⟨hcut80, hA80, hC80⟩ := print_take_of (P := Try.prog) Value.string (⟨#[]⟩ : ByteArray) 24 9 .i64 Try.underlying24 hi080 hsz80 (some ad263) c252_3 ((rd_T31 l1 a2).f3) x17_3 (zdec) (zdec) HC252_3.out
        have HR265 := Aside0.mk (Kd.C_of_reads (h1 := fun _ => rfl) (hA80 _ (Kd.reads_of_C HR252_3.out)))
        have HC265 := Aside0.mk hC80
        clear hA80 hC80 hi080 hsz80
        refine hK.out _ _ ⟨(blk_cell BK253.out 0).trans rfl, (blk_cell BK253.out 1).trans rfl, (blk_cell BK253.out 2).trans rfl, (blk_cell BK253.out 3).trans rfl, (blk_cell BK253.out 4).trans rfl, ((HB.out.cell (World.block_lt_of_cell? w _ hw261_0)).trans hw261_0), ((HB.out.cell (World.block_lt_of_cell? w _ hw263_0)).trans hw263_0), ((HB.out.cell (World.block_lt_of_cell? w _ hw266_0)).trans hw266_0)⟩ (fun hHeld => ?_)
        clear hK K
        refine norm_ (a' := ?_) ?_ ?_
        rotate_left
        ·show Act.put _ (some 112) _ = _
         simp only [Act.put, List.setIfInBounds_toArray, List.set_cons_zero, List.set_cons_succ, i64_w, i32_w]
         rfl
        refine zq 16 (some 113) HT_ ?_; refine zq 17 (some 114) HT_ ?_; refine zq 18 (some 115) HT_ ?_; refine zq 19 (some 116) HT_ ?_; refine zq 21 (some 118) HT_ ?_; refine zq 23 (some 120) HT_ ?_; refine zq 25 (some 122) HT_ ?_; refine zt 20 (some 117) HT_ HW_ hHeld ?_; refine zq 22 (some 119) HT_ ?_; refine zt 24 (some 121) HT_ HW_ hHeld ?_; refine zq 26 (some 123) HT_ ?_; refine zt 27 (some 124) HT_ HW_ hHeld ?_
        refine one_ (i := 28) (N := some 125) #[true,true,true,true,true,true,true,true,true,true,true,true,true,true,true,true,true,true,true,true,true,true,true,true,true,true,true,true,true,false] rfl rfl (one_of HT_.out (by kernel_rfl)) (by decide) (fun K hK => ?_)
        refine goes_ Try.func90 (by kernel_rfl) rfl #[.slice (some ad263) (((rd_T31 l1 a2).f3).take (x17_3 : Int).toNat).length c252_3, .string (rdOf ByteArray.empty ((rd_T31 l1 a2).f3) x17_3)] (by rfl) rfl rfl (by (try simp only [List.map_toArray, List.map_cons, List.map_nil]); first | done | (rw [show (((rd_T31 l1 a2).f3).take (x17_3 : Int).toNat).length = x17_3.toNat from (by rw [List.length_take]; have h_ : (x17_3 : Int) ≤ (((rd_T31 l1 a2).f3).length : Int) := zdec; omega)] <;> rfl) | rfl | (simp only [List.length_drop, List.length_take]; rfl)) ?_
        with_reducible refine (cellarref0_Has.calls k3 _ _ (((rd_T31 l1 a2).f3).take (x17_3 : Int).toNat) (rdOf ByteArray.empty ((rd_T31 l1 a2).f3) x17_3) false _ ?side1 ?side2 A65.out).mono ?_
        (case side1 => repeat (first | exact (Kd.C_below HR265.out (zw2 HB.out GE251.out GE253.out)) | (with_reducible refine Kd.C_alloc ?_ _) | (with_reducible refine Kd.C_drewN ?_ _) | (with_reducible refine Kd.C_drew ?_)))
        (case side2 => exact HC265.out)
        rintro e w' ⟨rfl, ⟨nd, rfl⟩⟩
        refine ⟨_, rfl, ?_⟩
        refine hK.out _ _ ⟨(blk_cell BK253.out 0).trans rfl, (blk_cell BK253.out 1).trans rfl, (blk_cell BK253.out 2).trans rfl, (blk_cell BK253.out 3).trans rfl, (blk_cell BK253.out 4).trans rfl, ((HB.out.cell (World.block_lt_of_cell? w _ hw261_0)).trans hw261_0), ((HB.out.cell (World.block_lt_of_cell? w _ hw263_0)).trans hw263_0), ((HB.out.cell (World.block_lt_of_cell? w _ hw266_0)).trans hw266_0)⟩ (fun hHeld => ?_)
        clear hK K
        refine norm_ (a' := ?_) ?_ ?_
        rotate_left
        ·show Act.put _ (some 125) _ = _
         simp only [Act.put, List.setIfInBounds_toArray, List.set_cons_zero, List.set_cons_succ, i64_w, i32_w]
         rfl
        refine zq 29 (some 126) HT_ ?_
        refine done_ (done_of HT_.out (by kernel_rfl)) ?_
        have hcz81_0 := zc BK253.out 0
        have hcz81_1 := zc BK253.out 1
        have hcz81_2 := zc BK253.out 2
        have hcz81_3 := zc BK253.out 3
        have hcz81_4 := zc BK253.out 4
        have hfz81_0 := blk_frozen BK253.out 0
        have hfz81_1 := blk_frozen BK253.out 1
        have hfz81_2 := blk_frozen BK253.out 2
        have hfz81_3 := blk_frozen BK253.out 3
        have hfz81_4 := blk_frozen BK253.out 4
        have p268 : 0 ≤ (x17_3 : Int) := zdec
        have q268 : x17_3 < (((rd_T31 l1 a2).f4).length : Int) := zdec
        obtain ⟨ad268, e268, hx268_0⟩ := Kd.at_int HR252_4.out x17_3 p268 q268
        obtain rfl : ad261 = ad268 := (by injection e268)
        replace hx268_0 := zh HB.out hx268_0
        replace p268 := eq_true p268
        replace q268 := eq_true q268
        try go_wp2
        (try (rw [drewN_self w79]; generalize hq_ : World.drewN w79 _ = w79; have n0_ : Aside0 (w79.heap[gb251]? = some (.cells #[.bool a0_0, .int .i64 a0_1] 29 (0, 0))) := ⟨by rw [← hq_]; exact (zb BK251.out)⟩; have n1_ : Aside0 (w79.heap[gb253]? = some (.cells #[.int .i64 ((rd_T31 l1 a2).f0), .int .i64 ((rd_T31 l1 a2).f1), .int .i64 ((rd_T31 l1 a2).f2), .slice (some ad263) ((rd_T31 l1 a2).f3).length c252_3, .slice (some ad261) ((rd_T31 l1 a2).f4).length c252_4] 31 (0, 0))) := ⟨by rw [← hq_]; exact (zb BK253.out)⟩; have n2_ : Aside0 (Below w.heap.size w w79) := ⟨by rw [← hq_]; exact (zw2 HB.out GE251.out GE253.out)⟩; clear BK251 BK253 HB hq_; have BK251 := n0_; have BK253 := n1_; have HB := n2_; clear n0_ n1_ n2_))
        have n0_ := Aside0.mk (blk_drew BK251.out)
        have n1_ := Aside0.mk (blk_drew BK253.out)
        have n2_ := Aside0.mk (below_drew1 HB.out)
        clear BK251
        clear BK253
        clear HB
        have BK251 := n0_
        have BK253 := n1_
        have HB := n2_
        clear n0_ n1_ n2_
        have p269 : 0 ≤ ((rd ((rd_T31 l1 a2).f4) x17_3) : Int) := zdec
        have q269 : (rd ((rd_T31 l1 a2).f4) x17_3) < (l4.length : Int) := zdec
        obtain ⟨ad269, e269, hx269_0⟩ := Kd.at_int HR4.out (rd ((rd_T31 l1 a2).f4) x17_3) p269 q269
        have hw269_0 := hx269_0
        cases e269
        replace hx269_0 := zh HB.out hx269_0
        replace p269 := eq_true p269
        replace q269 := eq_true q269
        have p271 : 0 ≤ ((rd ((rd_T31 l1 a2).f4) x17_3) : Int) := zdec
        have q271 : (rd ((rd_T31 l1 a2).f4) x17_3) < (l3.length : Int) := zdec
        obtain ⟨ad271, e271, hx271_0⟩ := Kd.at_int HR3.out (rd ((rd_T31 l1 a2).f4) x17_3) p271 q271
        have hw271_0 := hx271_0
        cases e271
        replace hx271_0 := zh HB.out hx271_0
        replace p271 := eq_true p271
        replace q271 := eq_true q271
        refine start_ (n := 12) (S := fun w' => w'.cell? (ad269.add ((rd ((rd_T31 l1 a2).f4) x17_3)).toNat) = some (.int .i64 (rd l4 (rd ((rd_T31 l1 a2).f4) x17_3))) ∧ w'.cell? (ad271.add ((rd ((rd_T31 l1 a2).f4) x17_3)).toNat) = some (.int .i64 (rd l3 (rd ((rd_T31 l1 a2).f4) x17_3)))) (ds := []) #[false,false,false,false,false,false,false,false,false,false,false,false] (by kernel_rfl) rfl rfl ⟨((HB.out.cell (World.block_lt_of_cell? w _ hw269_0)).trans hw269_0), ((HB.out.cell (World.block_lt_of_cell? w _ hw271_0)).trans hw271_0)⟩ (fun hHeld => ?_); refine with_tabW cellarref7_measure.tab18 cellarref7_measure.bits18 (fun HT_ HW_ => ?_)
        generalize w79.drew = w82 at BK251 BK253 HB hx269_0 hx271_0 hHeld ⊢
        refine zq 0 (some 132) HT_ ?_; refine zq 1 (some 133) HT_ ?_; refine zq 2 (some 134) HT_ ?_; refine zq 3 (some 135) HT_ ?_; refine zq 6 (some 138) HT_ ?_; refine zq 7 (some 139) HT_ ?_; refine zq 8 (some 140) HT_ ?_; refine zt 4 (some 136) HT_ HW_ hHeld ?_; refine zt 9 (some 141) HT_ HW_ hHeld ?_
        refine one_ (i := 5) (N := some 137) #[true,true,true,true,true,true,true,true,true,true,false,false] rfl rfl (one_of HT_.out (by kernel_rfl)) (by decide) (fun K hK => ?_)
        refine goes_ Try.func91 (by kernel_rfl) rfl #[.int .i64 x14_3, .int .i64 (rd l4 (rd ((rd_T31 l1 a2).f4) x17_3))] (by rfl) rfl rfl (by (try simp only [List.map_toArray, List.map_cons, List.map_nil]); first | done | rfl | (simp only [List.length_drop, List.length_take]; rfl)) ?_
        with_reducible refine (cellarref7_up.calls x14_3 (rd l4 (rd ((rd_T31 l1 a2).f4) x17_3)) t270 _ A73.out).mono ?_
        rintro e w' ⟨rfl, ⟨nd, rfl⟩⟩
        refine ⟨_, rfl, ?_⟩
        refine hK.out _ _ ⟨((HB.out.cell (World.block_lt_of_cell? w _ hw269_0)).trans hw269_0), ((HB.out.cell (World.block_lt_of_cell? w _ hw271_0)).trans hw271_0)⟩ (fun hHeld => ?_)
        clear hK K
        refine norm_ (a' := ?_) ?_ ?_
        rotate_left
        ·show Act.put _ (some 137) _ = _
         simp only [Act.put, List.setIfInBounds_toArray, List.set_cons_zero, List.set_cons_succ, i64_w, i32_w]
         rfl
        refine zq 10 (some 142) HT_ ?_; refine zq 11 (some 14) HT_ ?_
        refine done_ (done_of HT_.out (by kernel_rfl)) ?_
        try go_wp2
        (try (rw [drewN_self w82]; generalize hq_ : World.drewN w82 _ = w82; have n0_ : Aside0 (w82.heap[gb251]? = some (.cells #[.bool a0_0, .int .i64 a0_1] 29 (0, 0))) := ⟨by rw [← hq_]; exact (zb BK251.out)⟩; have n1_ : Aside0 (w82.heap[gb253]? = some (.cells #[.int .i64 ((rd_T31 l1 a2).f0), .int .i64 ((rd_T31 l1 a2).f1), .int .i64 ((rd_T31 l1 a2).f2), .slice (some ad263) ((rd_T31 l1 a2).f3).length c252_3, .slice (some ad261) ((rd_T31 l1 a2).f4).length c252_4] 31 (0, 0))) := ⟨by rw [← hq_]; exact (zb BK253.out)⟩; have n2_ : Aside0 (Below w.heap.size w w82) := ⟨by rw [← hq_]; exact (zw2 HB.out GE251.out GE253.out)⟩; clear BK251 BK253 HB hq_; have BK251 := n0_; have BK253 := n1_; have HB := n2_; clear n0_ n1_ n2_))
        have n0_ := Aside0.mk (blk_drew BK251.out)
        have n1_ := Aside0.mk (blk_drew BK253.out)
        have n2_ := Aside0.mk (below_drew1 HB.out)
        clear BK251
        clear BK253
        clear HB
        have BK251 := n0_
        have BK253 := n1_
        have HB := n2_
        clear n0_ n1_ n2_
        have p272 : 0 ≤ ((rd ((rd_T31 l1 a2).f4) x17_3) : Int) := zdec
        have q272 : (rd ((rd_T31 l1 a2).f4) x17_3) < (l3.length : Int) := zdec
        obtain ⟨ad272, e272, hx272_0⟩ := Kd.at_int HR3.out (rd ((rd_T31 l1 a2).f4) x17_3) p272 q272
        have hw272_0 := hx272_0
        obtain rfl : ad271 = ad272 := (by injection e272)
        replace hx272_0 := zh HB.out hx272_0
        replace p272 := eq_true p272
        replace q272 := eq_true q272
        have p273 : 0 ≤ ((rd ((rd_T31 l1 a2).f4) x17_3) : Int) := zdec
        have q273 : (rd ((rd_T31 l1 a2).f4) x17_3) < (l4.length : Int) := zdec
        obtain ⟨ad273, e273, hx273_0⟩ := Kd.at_int HR4.out (rd ((rd_T31 l1 a2).f4) x17_3) p273 q273
        have hw273_0 := hx273_0
        obtain rfl : ad269 = ad273 := (by injection e273)
        replace hx273_0 := zh HB.out hx273_0
        replace p273 := eq_true p273
        replace q273 := eq_true q273
        refine start_ (n := 14) (S := fun w' => w'.cell? (ad271.add ((rd ((rd_T31 l1 a2).f4) x17_3)).toNat) = some (.int .i64 (rd l3 (rd ((rd_T31 l1 a2).f4) x17_3))) ∧ w'.cell? (ad269.add ((rd ((rd_T31 l1 a2).f4) x17_3)).toNat) = some (.int .i64 (rd l4 (rd ((rd_T31 l1 a2).f4) x17_3)))) (ds := []) #[false,false,false,false,false,false,false,false,false,false,false,false,false,false] (by kernel_rfl) rfl rfl ⟨((HB.out.cell (World.block_lt_of_cell? w _ hw272_0)).trans hw272_0), ((HB.out.cell (World.block_lt_of_cell? w _ hw273_0)).trans hw273_0)⟩ (fun hHeld => ?_); refine with_tabW cellarref7_measure.tab19 cellarref7_measure.bits19 (fun HT_ HW_ => ?_)
        generalize w82.drew = w83 at BK251 BK253 HB hx272_0 hx273_0 hHeld ⊢
        refine zq 0 (some 143) HT_ ?_; refine zq 1 (some 144) HT_ ?_; refine zq 2 (some 145) HT_ ?_; refine zq 3 (some 146) HT_ ?_; refine zq 6 (some 149) HT_ ?_; refine zq 7 (some 150) HT_ ?_; refine zq 8 (some 151) HT_ ?_; refine zq 9 (some 152) HT_ ?_; refine zt 4 (some 147) HT_ HW_ hHeld ?_; refine zq 5 (some 148) HT_ ?_; refine zq 12 (some 15) HT_ ?_; refine zt 10 (some 153) HT_ HW_ hHeld ?_; refine zq 11 (some 154) HT_ ?_; refine zq 13 (some 16) HT_ ?_
        refine done_ (done_of HT_.out (by kernel_rfl)) ?_
        try go_wp2
        go_roundg k3
        case measure => have := HJ34.out; have := HJ41.out; have := HK3.out; omega
        case rel => exact ⟨(wrap64 (t270 + (rd l3 (rd ((rd_T31 l1 a2).f4) x17_3)))), (ji75), (ji76), (wrap64 (x17_3 + 1)), (zr), (by first | rfl | (simp; done) | (simp only [← hji75] <;> (first | rfl | simp)) | (simp [*]; done)), (by first | rfl | (simp; done) | (simp only [← hji76] <;> (first | rfl | simp)) | (simp [*]; done)), (zr), H', ⟨by have := HJ34.out; have := HJ41.out; have := HK3.out; omega⟩, ⟨zb BK251.out⟩, ⟨zb BK253.out⟩, ⟨zw2 HB.out GE251.out GE253.out⟩⟩
 ·rw [if_neg c6] at H
  exact absurd H (by simp)

end Go.Proofs.Ytjoplkillkhiaaa.L
