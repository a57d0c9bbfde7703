-- Written by this session's own edition of the print.
import Derived.Test.YtjoplkillkhiaaaMx0
import Derived.Test.YtjoplkillkhiaaaMx3
import Derived.Test.YtjoplkillkhiaaaSq
import Derived.Test.YtjoplkillkhiaaaSq2
namespace Go.Proofs.Ytjoplkillkhiaaa.M
open Go.RowKit Go.Proofs.Ytjoplkillkhiaaa.Fn Go.Proofs.YtjoplkillkhiaaaW.PrintWords Go.Proofs.YtjoplkillkhiaaaW.PrintLast Go.Proofs.YtjoplkillkhiaaaW.PrintMore
attribute [local go_sem] max2_int min2_int max_two min_two max_three min_three max_four min_four   -- for this text's walks alone
set_option linter.unusedVariables false
set_option linter.unusedSimpArgs false

/-! cellarref7_Mem -/
mutual
def cellarref7_Mem.j0 : Nat → List (S76) → Bool → Option (Bool)
 | 0, _, _ => none
 | k + 1, x0, x14 => if x14 = true then (some false) else (cellarref7_Mem.l0 k x0 0)
def cellarref7_Mem.l0 : Nat → List (S76) → Int → Option (Bool)
 | 0, _, _ => none
 | k + 1, x0, x3 => if x3 < (x0.length : Int) then (if 0 ≤ x3 then ((cellarref0_Num.f ((rd_T76 x0 x3).f0) 3).bind fun t133 => (if t133 = true then (if (((rd_T76 x0 x3).f1).length : Int) > 32 then (some false) else (if ((rd_T76 x0 x3).f0) = 1 then ((cellarref7_Bytes.f k ((rd_T76 x0 x3).f1)).bind fun t137 => (if t137 = true then (cellarref7_Mem.l0 k x0 (wrap64 (x3 + 1))) else (some false))) else (if (((rd_T76 x0 x3).f1).length : Int) > 0 then (some false) else ((cellarref7_Bytes.f k ((rd_T76 x0 x3).f1)).bind fun t140 => (if t140 = true then (cellarref7_Mem.l0 k x0 (wrap64 (x3 + 1))) else (some false)))))) else (some false))) else (none)) else (some true)
end
def cellarref7_Mem.f (k : Nat) (l0 : List (S76)) : Option (Bool) := (cellarref0_Between.f (l0.length : Int) 1 33).bind fun t130 => (if t130 = true then (if 0 < (l0.length : Int) then (cellarref7_Mem.j0 k l0 (((rd_T76 l0 0).f0) != 0)) else (none)) else (cellarref7_Mem.j0 k l0 true))
theorem cellarref7_Mem.mono_l : ∀ k, (∀ y0 y1, LeO (cellarref7_Mem.j0 k y0 y1) (cellarref7_Mem.j0 (k + 1) y0 y1)) ∧ (∀ y0 y1, LeO (cellarref7_Mem.l0 k y0 y1) (cellarref7_Mem.l0 (k + 1) y0 y1))
 | 0 => ⟨fun _ _ r h => by simp [cellarref7_Mem.j0] at h, fun _ _ r h => by simp [cellarref7_Mem.l0] at h⟩
 | k + 1 => by
  obtain ⟨ih0, ih1⟩ := cellarref7_Mem.mono_l k
  refine ⟨?_, ?_⟩
  ·intro y0 y1
   unfold cellarref7_Mem.j0
   repeat' first
   | (with_reducible apply ih0)
   | (with_reducible apply ih1)
   | (with_reducible apply cellarref7_Bytes.mono)
   | (with_reducible apply LeO.refl)
   | (with_reducible apply LeO.none)
   | (with_reducible refine LeO.ite ?_ ?_)
   | (with_reducible refine LeO.bind ?_ (fun _ => ?_))
  ·intro y0 y1
   unfold cellarref7_Mem.l0
   repeat' first
   | (with_reducible apply ih0)
   | (with_reducible apply ih1)
   | (with_reducible apply cellarref7_Bytes.mono)
   | (with_reducible apply LeO.refl)
   | (with_reducible apply LeO.none)
   | (with_reducible refine LeO.ite ?_ ?_)
   | (with_reducible refine LeO.bind ?_ (fun _ => ?_))
theorem cellarref7_Mem.mono : ∀ a0 k, LeO (cellarref7_Mem.f k a0) (cellarref7_Mem.f (k + 1) a0) := by
 intro a0 k
 obtain ⟨ih0, ih1⟩ := cellarref7_Mem.mono_l k
 unfold cellarref7_Mem.f
 repeat' first
   | (with_reducible apply ih0)
   | (with_reducible apply ih1)
   | (with_reducible apply cellarref7_Bytes.mono)
   | (with_reducible apply LeO.refl)
   | (with_reducible apply LeO.none)
   | (with_reducible refine LeO.ite ?_ ?_)
   | (with_reducible refine LeO.bind ?_ (fun _ => ?_))
set_option maxHeartbeats 8000000 in
set_option maxRecDepth 100000 in
theorem cellarref7_Mem.calls (k : Nat) (A0 : Option Addr) (c0 : Nat) (l0 : List (S76)) (r : Bool) (w : World) (hr0 : Kd.C k76 w A0 l0.length l0) (hc0 : l0.length ≤ c0) (h : cellarref7_Mem.f k l0 = some r) :
  Calls Try.prog 28 #[.slice A0 l0.length c0] w fun e w' => e = .returned (.bool r) ∧ Below w.heap.size w w' := by
 have HR0 := Aside0.mk hr0
 have HC0 := Aside0.mk hc0
 clear hr0 hc0
 have HB := Aside0.mk (Below.refl w.heap.size w)
 have H : ((cellarref0_Between.f (l0.length : Int) 1 33).bind fun t130 => (if t130 = true then (if 0 < (l0.length : Int) then (cellarref7_Mem.j0 k l0 (((rd_T76 l0 0).f0) != 0)) else (none)) else (cellarref7_Mem.j0 k l0 true))) = some r := h
 clear h
 have HC2 := Aside0.mk H
 clear H
 go_enter Try.func28, Try.ntmps28
 go_upto_region 1 with (fail)
 go_cut [14] (fun v14 wc => ∃ (kq : Nat) (x14_1 : Bool), v14 = .bool x14_1 ∧ Aside0 (cellarref7_Mem.j0 kq l0 x14_1 = some r) ∧ Aside0 (kq ≤ k) ∧ Aside0 (Below w.heap.size w wc))
 case first =>
  have H := HC2.out
  clear HC2
  replace H := Option.bind_eq_some_iff.mp H
  obtain ⟨t130, A30, H⟩ := H
  replace H : (if t130 = true then (if 0 < (l0.length : Int) then (cellarref7_Mem.j0 k l0 (((rd_T76 l0 0).f0) != 0)) else (none)) else (cellarref7_Mem.j0 k l0 true)) = some r := H
  have A3 := Aside0.mk A30
  clear A30
  by_cases c4 : t130 = true
  rotate_left
  ·replace c4 := Bool.eq_false_iff.mpr c4
   subst c4
   have H1 : (cellarref7_Mem.j0 k l0 true) = some r := by rw [if_neg (show ¬ (false = true) by decide)] at H; exact H
   clear H
   have H := H1
   clear H1
   have H' := Aside0.mk H
   clear H
   go_wp2_with (first | ((with_reducible refine gate_callee (f := 64) rfl ?_); refine zgo (some 6) Try.func64 #[.int .i64 (l0.length : Int), .int .i64 1, .int .i64 33] ?_; (with_reducible refine (cellarref0_Between.calls (l0.length : Int) 1 33 false _ A3.out).mono ?_); rintro e w' ⟨rfl, ⟨nd, rfl⟩⟩; refine ⟨_, rfl, ?_⟩))
   go_meet
   case rel => exact ⟨_, (true), (zr), H', ⟨by first | omega | exact Nat.le_refl _⟩, ⟨zw0 HB.out⟩⟩
  subst c4
  have H1 : (if 0 < (l0.length : Int) then (cellarref7_Mem.j0 k l0 (((rd_T76 l0 0).f0) != 0)) else (none)) = some r := by rw [if_pos rfl] at H; exact H
  clear H
  have H := H1
  clear H1
  by_cases c5 : 0 < (l0.length : Int)
  rotate_left
  ·rw [if_neg c5] at H
   exact absurd H (by simp)
  rw [if_pos c5] at H
  have c5b0 : decide (0 < (l0.length : Int)) = true := decide_eq_true c5
  have c5b1 : decide (0 < l0.length) = true := decide_eq_true (by omega)
  clear c5
  (first | rw [c5b0] | (simp only [i64_w, i32_w]; rw [c5b0]) | skip)
  have H' := Aside0.mk H
  clear H
  go_wp2_with (first | ((with_reducible refine gate_callee (f := 64) rfl ?_); refine zgo (some 6) Try.func64 #[.int .i64 (l0.length : Int), .int .i64 1, .int .i64 33] ?_; (with_reducible refine (cellarref0_Between.calls (l0.length : Int) 1 33 true _ A3.out).mono ?_); rintro e w' ⟨rfl, ⟨nd, rfl⟩⟩; refine ⟨_, rfl, ?_⟩; have p131 : 0 ≤ (0 : Int) := (by omega); have q131 : 0 < (l0.length : Int) := zdec; obtain ⟨ad131, A131_1, c131_1, e131, hx131_0, hx131_1, hl131_1, hi131_1⟩ := at_T76 HR0.out 0 p131 q131; cases e131; have qi131 : (0 < l0.length) = True := eq_true (by omega); (try rw [show ((0 : Int)).toNat = 0 from rfl] at hx131_0); (try rw [show 0 * 2 = 0 from rfl] at hx131_0); (try rw [Addr.add_zero'] at hx131_0); (try rw [show ((0 : Int)).toNat = 0 from rfl] at hx131_1); (try rw [show 0 * 2 = 0 from rfl] at hx131_1); (try rw [Addr.add_zero'] at hx131_1); replace hx131_0 := zh HB.out hx131_0; replace hx131_1 := zh HB.out hx131_1; have HR131_1 := Aside0.mk hi131_1; have HC131_1 := Aside0.mk hl131_1; clear hi131_1 hl131_1; replace p131 := eq_true p131; replace q131 := eq_true q131))
  go_meet
  case rel => exact ⟨_, ((((rd_T76 l0 0).f0) != 0)), (zr), H', ⟨by first | omega | exact Nat.le_refl _⟩, ⟨zw0 HB.out⟩⟩
 case rest =>
  clear HC2
  try clear c1; try clear p1; try clear q1; try clear qi1; try clear c2; try clear p2; try clear c4; try clear c5; try clear c5b0; try clear c5b1; try clear p131; try clear q131
  obtain ⟨kq, x14_1, rfl, HA, HJ1, HB⟩ := hcut
  cases kq with
  | zero => exact absurd HA.out (by simp [cellarref7_Mem.j0])
  | succ kj1 =>
   have H := HA.out
   clear HA
   simp only [cellarref7_Mem.j0] at H
   by_cases c6 : x14_1 = true
   ·subst c6
    have H1 : (some false) = some r := by rw [if_pos rfl] at H; exact H
    clear H
    have H := H1
    clear H1
    obtain rfl := Option.some.inj H
    go_wp2
    go_ret
    exact ⟨ze, zw0 HB.out⟩
   ·replace c6 := Bool.eq_false_iff.mpr c6
    subst c6
    have H1 : (cellarref7_Mem.l0 kj1 l0 0) = some r := by rw [if_neg (show ¬ (false = true) by decide)] at H; exact H
    clear H
    have H := H1
    clear H1
    have H' := Aside0.mk H
    clear H
    go_wp2
    go_loopg [3] kj1 (fun kq v3 w' => ∃ (x3_2 : Int), v3 = .int .i64 x3_2 ∧ Aside0 (cellarref7_Mem.l0 kq l0 x3_2 = some r) ∧ Aside0 (kq ≤ kj1) ∧ Aside0 (Below w.heap.size w w'))
    case atStart => exact ⟨(0), (zr), H', ⟨Nat.le_refl _⟩, ⟨zw0 HB.out⟩⟩
    case round =>
     clear H'
     try clear c1; try clear p1; try clear q1; try clear qi1; try clear c2; try clear p2; try clear c4; try clear c5; try clear c5b0; try clear c5b1; try clear c6; try clear p1; try clear p131; try clear p2; try clear q1; try clear q131
     obtain ⟨x3_2, rfl, HA, HK2, HB⟩ := hrel
     cases gk with
     | zero => exact absurd HA.out (by simp [cellarref7_Mem.l0])
     | succ k2 =>
      have H := HA.out
      clear HA
      simp only [cellarref7_Mem.l0] at H
      by_cases c7 : x3_2 < (l0.length : Int)
      ·rw [if_pos c7] at H
       have c7b0 : decide (x3_2 < (l0.length : Int)) = true := decide_eq_true c7
       clear c7
       by_cases c8 : 0 ≤ x3_2
       rotate_left
       ·rw [if_neg c8] at H
        exact absurd H (by simp)
       rw [if_pos c8] at H
       have c8b0 : decide (0 ≤ x3_2) = true := decide_eq_true c8
       clear c8
       replace H := Option.bind_eq_some_iff.mp H
       obtain ⟨t133, A90, H⟩ := H
       replace H : (if t133 = true then (if (((rd_T76 l0 x3_2).f1).length : Int) > 32 then (some false) else (if ((rd_T76 l0 x3_2).f0) = 1 then ((cellarref7_Bytes.f k2 ((rd_T76 l0 x3_2).f1)).bind fun t137 => (if t137 = true then (cellarref7_Mem.l0 k2 l0 (wrap64 (x3_2 + 1))) else (some false))) else (if (((rd_T76 l0 x3_2).f1).length : Int) > 0 then (some false) else ((cellarref7_Bytes.f k2 ((rd_T76 l0 x3_2).f1)).bind fun t140 => (if t140 = true then (cellarref7_Mem.l0 k2 l0 (wrap64 (x3_2 + 1))) else (some false)))))) else (some false)) = some r := H
       have A9 := Aside0.mk A90
       clear A90
       by_cases c10 : t133 = true
       rotate_left
       ·replace c10 := Bool.eq_false_iff.mpr c10
        subst c10
        have H1 : (some false) = some r := by rw [if_neg (show ¬ (false = true) by decide)] at H; exact H
        clear H
        have H := H1
        clear H1
        obtain rfl := Option.some.inj H
        have p132 : 0 ≤ (x3_2 : Int) := zdec
        have q132 : x3_2 < (l0.length : Int) := zdec
        obtain ⟨ad132, A132_1, c132_1, e132, hx132_0, hx132_1, hl132_1, hi132_1⟩ := at_T76 HR0.out x3_2 p132 q132
        cases e132
        replace hx132_0 := zh HB.out hx132_0
        replace hx132_1 := zh HB.out hx132_1
        have HR132_1 := Aside0.mk hi132_1
        have HC132_1 := Aside0.mk hl132_1
        clear hi132_1 hl132_1
        replace p132 := eq_true p132
        replace q132 := eq_true q132
        go_wp2_with (first | ((with_reducible refine gate_callee (f := 18) rfl ?_); refine zgo (some 26) Try.func18 #[.int .i64 ((rd_T76 l0 x3_2).f0), .int .i64 3] ?_; (with_reducible refine (cellarref0_Num.calls ((rd_T76 l0 x3_2).f0) 3 false _ A9.out).mono ?_); rintro e w' ⟨rfl, ⟨nd, rfl⟩⟩; refine ⟨_, rfl, ?_⟩))
        go_ret
        exact ⟨ze, zw0 HB.out⟩
       subst c10
       have H1 : (if (((rd_T76 l0 x3_2).f1).length : Int) > 32 then (some false) else (if ((rd_T76 l0 x3_2).f0) = 1 then ((cellarref7_Bytes.f k2 ((rd_T76 l0 x3_2).f1)).bind fun t137 => (if t137 = true then (cellarref7_Mem.l0 k2 l0 (wrap64 (x3_2 + 1))) else (some false))) else (if (((rd_T76 l0 x3_2).f1).length : Int) > 0 then (some false) else ((cellarref7_Bytes.f k2 ((rd_T76 l0 x3_2).f1)).bind fun t140 => (if t140 = true then (cellarref7_Mem.l0 k2 l0 (wrap64 (x3_2 + 1))) else (some false)))))) = some r := by rw [if_pos rfl] at H; exact H
       clear H
       have H := H1
       clear H1
       by_cases c11 : (((rd_T76 l0 x3_2).f1).length : Int) > 32
       ·rw [if_pos c11] at H
        have c11b0 : decide (32 < (((rd_T76 l0 x3_2).f1).length : Int)) = true := decide_eq_true c11
        have c11b1 : decide (32 < ((rd_T76 l0 x3_2).f1).length) = true := decide_eq_true (by omega)
        clear c11
        obtain rfl := Option.some.inj H
        have p132 : 0 ≤ (x3_2 : Int) := zdec
        have q132 : x3_2 < (l0.length : Int) := zdec
        obtain ⟨ad132, A132_1, c132_1, e132, hx132_0, hx132_1, hl132_1, hi132_1⟩ := at_T76 HR0.out x3_2 p132 q132
        cases e132
        replace hx132_0 := zh HB.out hx132_0
        replace hx132_1 := zh HB.out hx132_1
        have HR132_1 := Aside0.mk hi132_1
        have HC132_1 := Aside0.mk hl132_1
        clear hi132_1 hl132_1
        replace p132 := eq_true p132
        replace q132 := eq_true q132
        go_wp2_with (first | ((with_reducible refine gate_callee (f := 18) rfl ?_); refine zgo (some 26) Try.func18 #[.int .i64 ((rd_T76 l0 x3_2).f0), .int .i64 3] ?_; (with_reducible refine (cellarref0_Num.calls ((rd_T76 l0 x3_2).f0) 3 true _ A9.out).mono ?_); rintro e w' ⟨rfl, ⟨nd, rfl⟩⟩; refine ⟨_, rfl, ?_⟩; have p134 : 0 ≤ (x3_2 : Int) := zdec; have q134 : x3_2 < (l0.length : Int) := zdec; obtain ⟨ad134, A134_1, c134_1, e134, hx134_0, hx134_1, hl134_1, hi134_1⟩ := at_T76 HR0.out x3_2 p134 q134; obtain rfl : ad132 = ad134 := (by injection e134); replace hx134_0 := zh HB.out hx134_0; replace hx134_1 := zh HB.out hx134_1; have HR134_1 := Aside0.mk hi134_1; have HC134_1 := Aside0.mk hl134_1; clear hi134_1 hl134_1; replace p134 := eq_true p134; replace q134 := eq_true q134; have ea_ := Option.some.inj (hx132_1.symm.trans hx134_1); injection ea_ with ea_ en_ ec_; subst ea_; subst ec_; clear en_))
        go_ret
        exact ⟨ze, zw0 HB.out⟩
       rw [if_neg c11] at H
       have c11b0 : decide (32 < (((rd_T76 l0 x3_2).f1).length : Int)) = false := decide_eq_false c11
       have c11b1 : decide (32 < ((rd_T76 l0 x3_2).f1).length) = false := decide_eq_false (by omega)
       clear c11
       by_cases c12 : ((rd_T76 l0 x3_2).f0) = 1
       ·rw [if_pos c12] at H
        have c12b0 : (((rd_T76 l0 x3_2).f0) == 1) = true := beq_iff_eq.mpr c12
        have c12b1 : (((rd_T76 l0 x3_2).f0) != 1) = false := bne_eq_false_iff_eq.mpr c12
        clear c12
        replace H := Option.bind_eq_some_iff.mp H
        obtain ⟨t137, A130, H⟩ := H
        replace H : (if t137 = true then (cellarref7_Mem.l0 k2 l0 (wrap64 (x3_2 + 1))) else (some false)) = some r := H
        have A13 := Aside0.mk A130
        clear A130
        by_cases c14 : t137 = true
        rotate_left
        ·replace c14 := Bool.eq_false_iff.mpr c14
         subst c14
         have H1 : (some false) = some r := by rw [if_neg (show ¬ (false = true) by decide)] at H; exact H
         clear H
         have H := H1
         clear H1
         obtain rfl := Option.some.inj H
         have p132 : 0 ≤ (x3_2 : Int) := zdec
         have q132 : x3_2 < (l0.length : Int) := zdec
         obtain ⟨ad132, A132_1, c132_1, e132, hx132_0, hx132_1, hl132_1, hi132_1⟩ := at_T76 HR0.out x3_2 p132 q132
         cases e132
         replace hx132_0 := zh HB.out hx132_0
         replace hx132_1 := zh HB.out hx132_1
         have HR132_1 := Aside0.mk hi132_1
         have HC132_1 := Aside0.mk hl132_1
         clear hi132_1 hl132_1
         replace p132 := eq_true p132
         replace q132 := eq_true q132
         go_wp2_with (first | ((with_reducible refine gate_callee (f := 18) rfl ?_); refine zgo (some 26) Try.func18 #[.int .i64 ((rd_T76 l0 x3_2).f0), .int .i64 3] ?_; (with_reducible refine (cellarref0_Num.calls ((rd_T76 l0 x3_2).f0) 3 true _ A9.out).mono ?_); rintro e w' ⟨rfl, ⟨nd, rfl⟩⟩; refine ⟨_, rfl, ?_⟩; have p134 : 0 ≤ (x3_2 : Int) := zdec; have q134 : x3_2 < (l0.length : Int) := zdec; obtain ⟨ad134, A134_1, c134_1, e134, hx134_0, hx134_1, hl134_1, hi134_1⟩ := at_T76 HR0.out x3_2 p134 q134; obtain rfl : ad132 = ad134 := (by injection e134); replace hx134_0 := zh HB.out hx134_0; replace hx134_1 := zh HB.out hx134_1; have HR134_1 := Aside0.mk hi134_1; have HC134_1 := Aside0.mk hl134_1; clear hi134_1 hl134_1; replace p134 := eq_true p134; replace q134 := eq_true q134; have ea_ := Option.some.inj (hx132_1.symm.trans hx134_1); injection ea_ with ea_ en_ ec_; subst ea_; subst ec_; clear en_; have p135 : 0 ≤ (x3_2 : Int) := zdec; have q135 : x3_2 < (l0.length : Int) := zdec; obtain ⟨ad135, A135_1, c135_1, e135, hx135_0, hx135_1, hl135_1, hi135_1⟩ := at_T76 HR0.out x3_2 p135 q135; obtain rfl : ad132 = ad135 := (by injection e135); replace hx135_0 := zh HB.out hx135_0; replace hx135_1 := zh HB.out hx135_1; have HR135_1 := Aside0.mk hi135_1; have HC135_1 := Aside0.mk hl135_1; clear hi135_1 hl135_1; replace p135 := eq_true p135; replace q135 := eq_true q135; have ea_ := Option.some.inj (hx132_1.symm.trans hx135_1); injection ea_ with ea_ en_ ec_; subst ea_; subst ec_; clear en_; have p136 : 0 ≤ (x3_2 : Int) := zdec; have q136 : x3_2 < (l0.length : Int) := zdec; obtain ⟨ad136, A136_1, c136_1, e136, hx136_0, hx136_1, hl136_1, hi136_1⟩ := at_T76 HR0.out x3_2 p136 q136; obtain rfl : ad132 = ad136 := (by injection e136); replace hx136_0 := zh HB.out hx136_0; replace hx136_1 := zh HB.out hx136_1; have HR136_1 := Aside0.mk hi136_1; have HC136_1 := Aside0.mk hl136_1; clear hi136_1 hl136_1; replace p136 := eq_true p136; replace q136 := eq_true q136; have ea_ := Option.some.inj (hx132_1.symm.trans hx136_1); injection ea_ with ea_ en_ ec_; subst ea_; subst ec_; clear en_) | (go_at_call 65; (with_reducible refine (cellarref7_Bytes.calls k2 _ _ ((rd_T76 l0 x3_2).f1) false _ ?side1 ?side2 A13.out).mono ?_); (case side1 => repeat (first | exact (Kd.C_below HR136_1.out (zw0 HB.out)) | (with_reducible refine Kd.C_alloc ?_ _) | (with_reducible refine Kd.C_drewN ?_ _) | (with_reducible refine Kd.C_drew ?_))); (case side2 => exact HC136_1.out); rintro e w16 ⟨rfl, hb⟩; have n0_ := Aside0.mk (below_step (zw0 HB.out) hb); clear HB; have HB := n0_; clear n0_; (try clear hb); (try clear hb2); (try clear hk); (try clear hi)))
         go_ret
         exact ⟨ze, zw0 HB.out⟩
        subst c14
        have H1 : (cellarref7_Mem.l0 k2 l0 (wrap64 (x3_2 + 1))) = some r := by rw [if_pos rfl] at H; exact H
        clear H
        have H := H1
        clear H1
        have H' := Aside0.mk H
        clear H
        have p132 : 0 ≤ (x3_2 : Int) := zdec
        have q132 : x3_2 < (l0.length : Int) := zdec
        obtain ⟨ad132, A132_1, c132_1, e132, hx132_0, hx132_1, hl132_1, hi132_1⟩ := at_T76 HR0.out x3_2 p132 q132
        cases e132
        replace hx132_0 := zh HB.out hx132_0
        replace hx132_1 := zh HB.out hx132_1
        have HR132_1 := Aside0.mk hi132_1
        have HC132_1 := Aside0.mk hl132_1
        clear hi132_1 hl132_1
        replace p132 := eq_true p132
        replace q132 := eq_true q132
        go_wp2_with (first | ((with_reducible refine gate_callee (f := 18) rfl ?_); refine zgo (some 26) Try.func18 #[.int .i64 ((rd_T76 l0 x3_2).f0), .int .i64 3] ?_; (with_reducible refine (cellarref0_Num.calls ((rd_T76 l0 x3_2).f0) 3 true _ A9.out).mono ?_); rintro e w' ⟨rfl, ⟨nd, rfl⟩⟩; refine ⟨_, rfl, ?_⟩; have p134 : 0 ≤ (x3_2 : Int) := zdec; have q134 : x3_2 < (l0.length : Int) := zdec; obtain ⟨ad134, A134_1, c134_1, e134, hx134_0, hx134_1, hl134_1, hi134_1⟩ := at_T76 HR0.out x3_2 p134 q134; obtain rfl : ad132 = ad134 := (by injection e134); replace hx134_0 := zh HB.out hx134_0; replace hx134_1 := zh HB.out hx134_1; have HR134_1 := Aside0.mk hi134_1; have HC134_1 := Aside0.mk hl134_1; clear hi134_1 hl134_1; replace p134 := eq_true p134; replace q134 := eq_true q134; have ea_ := Option.some.inj (hx132_1.symm.trans hx134_1); injection ea_ with ea_ en_ ec_; subst ea_; subst ec_; clear en_; have p135 : 0 ≤ (x3_2 : Int) := zdec; have q135 : x3_2 < (l0.length : Int) := zdec; obtain ⟨ad135, A135_1, c135_1, e135, hx135_0, hx135_1, hl135_1, hi135_1⟩ := at_T76 HR0.out x3_2 p135 q135; obtain rfl : ad132 = ad135 := (by injection e135); replace hx135_0 := zh HB.out hx135_0; replace hx135_1 := zh HB.out hx135_1; have HR135_1 := Aside0.mk hi135_1; have HC135_1 := Aside0.mk hl135_1; clear hi135_1 hl135_1; replace p135 := eq_true p135; replace q135 := eq_true q135; have ea_ := Option.some.inj (hx132_1.symm.trans hx135_1); injection ea_ with ea_ en_ ec_; subst ea_; subst ec_; clear en_; have p136 : 0 ≤ (x3_2 : Int) := zdec; have q136 : x3_2 < (l0.length : Int) := zdec; obtain ⟨ad136, A136_1, c136_1, e136, hx136_0, hx136_1, hl136_1, hi136_1⟩ := at_T76 HR0.out x3_2 p136 q136; obtain rfl : ad132 = ad136 := (by injection e136); replace hx136_0 := zh HB.out hx136_0; replace hx136_1 := zh HB.out hx136_1; have HR136_1 := Aside0.mk hi136_1; have HC136_1 := Aside0.mk hl136_1; clear hi136_1 hl136_1; replace p136 := eq_true p136; replace q136 := eq_true q136; have ea_ := Option.some.inj (hx132_1.symm.trans hx136_1); injection ea_ with ea_ en_ ec_; subst ea_; subst ec_; clear en_) | (go_at_call 65; (with_reducible refine (cellarref7_Bytes.calls k2 _ _ ((rd_T76 l0 x3_2).f1) true _ ?side1 ?side2 A13.out).mono ?_); (case side1 => repeat (first | exact (Kd.C_below HR136_1.out (zw0 HB.out)) | (with_reducible refine Kd.C_alloc ?_ _) | (with_reducible refine Kd.C_drewN ?_ _) | (with_reducible refine Kd.C_drew ?_))); (case side2 => exact HC136_1.out); rintro e w15 ⟨rfl, hb⟩; have n0_ := Aside0.mk (below_step (zw0 HB.out) hb); clear HB; have HB := n0_; clear n0_; (try clear hb); (try clear hb2); (try clear hk); (try clear hi)))
        go_roundg k2
        case measure => have := HJ1.out; have := HK2.out; omega
        case rel => exact ⟨(wrap64 (x3_2 + 1)), (zr), H', ⟨by have := HJ1.out; have := HK2.out; omega⟩, ⟨zw0 HB.out⟩⟩
       rw [if_neg c12] at H
       have c12b0 : (((rd_T76 l0 x3_2).f0) == 1) = false := beq_eq_false_iff_ne.mpr c12
       have c12b1 : (((rd_T76 l0 x3_2).f0) != 1) = true := bne_iff_ne.mpr c12
       by_cases c17 : (((rd_T76 l0 x3_2).f1).length : Int) > 0
       ·rw [if_pos c17] at H
        have c17b0 : decide (0 < (((rd_T76 l0 x3_2).f1).length : Int)) = true := decide_eq_true c17
        have c17b1 : decide (0 < ((rd_T76 l0 x3_2).f1).length) = true := decide_eq_true (by omega)
        clear c17
        obtain rfl := Option.some.inj H
        have p132 : 0 ≤ (x3_2 : Int) := zdec
        have q132 : x3_2 < (l0.length : Int) := zdec
        obtain ⟨ad132, A132_1, c132_1, e132, hx132_0, hx132_1, hl132_1, hi132_1⟩ := at_T76 HR0.out x3_2 p132 q132
        cases e132
        replace hx132_0 := zh HB.out hx132_0
        replace hx132_1 := zh HB.out hx132_1
        have HR132_1 := Aside0.mk hi132_1
        have HC132_1 := Aside0.mk hl132_1
        clear hi132_1 hl132_1
        replace p132 := eq_true p132
        replace q132 := eq_true q132
        go_wp2_with (first | ((with_reducible refine gate_callee (f := 18) rfl ?_); refine zgo (some 26) Try.func18 #[.int .i64 ((rd_T76 l0 x3_2).f0), .int .i64 3] ?_; (with_reducible refine (cellarref0_Num.calls ((rd_T76 l0 x3_2).f0) 3 true _ A9.out).mono ?_); rintro e w' ⟨rfl, ⟨nd, rfl⟩⟩; refine ⟨_, rfl, ?_⟩; have p134 : 0 ≤ (x3_2 : Int) := zdec; have q134 : x3_2 < (l0.length : Int) := zdec; obtain ⟨ad134, A134_1, c134_1, e134, hx134_0, hx134_1, hl134_1, hi134_1⟩ := at_T76 HR0.out x3_2 p134 q134; obtain rfl : ad132 = ad134 := (by injection e134); replace hx134_0 := zh HB.out hx134_0; replace hx134_1 := zh HB.out hx134_1; have HR134_1 := Aside0.mk hi134_1; have HC134_1 := Aside0.mk hl134_1; clear hi134_1 hl134_1; replace p134 := eq_true p134; replace q134 := eq_true q134; have ea_ := Option.some.inj (hx132_1.symm.trans hx134_1); injection ea_ with ea_ en_ ec_; subst ea_; subst ec_; clear en_; have p135 : 0 ≤ (x3_2 : Int) := zdec; have q135 : x3_2 < (l0.length : Int) := zdec; obtain ⟨ad135, A135_1, c135_1, e135, hx135_0, hx135_1, hl135_1, hi135_1⟩ := at_T76 HR0.out x3_2 p135 q135; obtain rfl : ad132 = ad135 := (by injection e135); replace hx135_0 := zh HB.out hx135_0; replace hx135_1 := zh HB.out hx135_1; have HR135_1 := Aside0.mk hi135_1; have HC135_1 := Aside0.mk hl135_1; clear hi135_1 hl135_1; replace p135 := eq_true p135; replace q135 := eq_true q135; have ea_ := Option.some.inj (hx132_1.symm.trans hx135_1); injection ea_ with ea_ en_ ec_; subst ea_; subst ec_; clear en_; have p138 : 0 ≤ (x3_2 : Int) := zdec; have q138 : x3_2 < (l0.length : Int) := zdec; obtain ⟨ad138, A138_1, c138_1, e138, hx138_0, hx138_1, hl138_1, hi138_1⟩ := at_T76 HR0.out x3_2 p138 q138; obtain rfl : ad132 = ad138 := (by injection e138); replace hx138_0 := zh HB.out hx138_0; replace hx138_1 := zh HB.out hx138_1; have HR138_1 := Aside0.mk hi138_1; have HC138_1 := Aside0.mk hl138_1; clear hi138_1 hl138_1; replace p138 := eq_true p138; replace q138 := eq_true q138; have ea_ := Option.some.inj (hx132_1.symm.trans hx138_1); injection ea_ with ea_ en_ ec_; subst ea_; subst ec_; clear en_))
        go_ret
        exact ⟨ze, zw0 HB.out⟩
       rw [if_neg c17] at H
       have c17b0 : decide (0 < (((rd_T76 l0 x3_2).f1).length : Int)) = false := decide_eq_false c17
       have c17b1 : decide (0 < ((rd_T76 l0 x3_2).f1).length) = false := decide_eq_false (by omega)
       clear c17
       replace H := Option.bind_eq_some_iff.mp H
       obtain ⟨t140, A180, H⟩ := H
       replace H : (if t140 = true then (cellarref7_Mem.l0 k2 l0 (wrap64 (x3_2 + 1))) else (some false)) = some r := H
       have A18 := Aside0.mk A180
       clear A180
       by_cases c19 : t140 = true
       rotate_left
       ·replace c19 := Bool.eq_false_iff.mpr c19
        subst c19
        have H1 : (some false) = some r := by rw [if_neg (show ¬ (false = true) by decide)] at H; exact H
        clear H
        have H := H1
        clear H1
        obtain rfl := Option.some.inj H
        have p132 : 0 ≤ (x3_2 : Int) := zdec
        have q132 : x3_2 < (l0.length : Int) := zdec
        obtain ⟨ad132, A132_1, c132_1, e132, hx132_0, hx132_1, hl132_1, hi132_1⟩ := at_T76 HR0.out x3_2 p132 q132
        cases e132
        replace hx132_0 := zh HB.out hx132_0
        replace hx132_1 := zh HB.out hx132_1
        have HR132_1 := Aside0.mk hi132_1
        have HC132_1 := Aside0.mk hl132_1
        clear hi132_1 hl132_1
        replace p132 := eq_true p132
        replace q132 := eq_true q132
        go_wp2_with (first | ((with_reducible refine gate_callee (f := 18) rfl ?_); refine zgo (some 26) Try.func18 #[.int .i64 ((rd_T76 l0 x3_2).f0), .int .i64 3] ?_; (with_reducible refine (cellarref0_Num.calls ((rd_T76 l0 x3_2).f0) 3 true _ A9.out).mono ?_); rintro e w' ⟨rfl, ⟨nd, rfl⟩⟩; refine ⟨_, rfl, ?_⟩; have p134 : 0 ≤ (x3_2 : Int) := zdec; have q134 : x3_2 < (l0.length : Int) := zdec; obtain ⟨ad134, A134_1, c134_1, e134, hx134_0, hx134_1, hl134_1, hi134_1⟩ := at_T76 HR0.out x3_2 p134 q134; obtain rfl : ad132 = ad134 := (by injection e134); replace hx134_0 := zh HB.out hx134_0; replace hx134_1 := zh HB.out hx134_1; have HR134_1 := Aside0.mk hi134_1; have HC134_1 := Aside0.mk hl134_1; clear hi134_1 hl134_1; replace p134 := eq_true p134; replace q134 := eq_true q134; have ea_ := Option.some.inj (hx132_1.symm.trans hx134_1); injection ea_ with ea_ en_ ec_; subst ea_; subst ec_; clear en_; have p135 : 0 ≤ (x3_2 : Int) := zdec; have q135 : x3_2 < (l0.length : Int) := zdec; obtain ⟨ad135, A135_1, c135_1, e135, hx135_0, hx135_1, hl135_1, hi135_1⟩ := at_T76 HR0.out x3_2 p135 q135; obtain rfl : ad132 = ad135 := (by injection e135); replace hx135_0 := zh HB.out hx135_0; replace hx135_1 := zh HB.out hx135_1; have HR135_1 := Aside0.mk hi135_1; have HC135_1 := Aside0.mk hl135_1; clear hi135_1 hl135_1; replace p135 := eq_true p135; replace q135 := eq_true q135; have ea_ := Option.some.inj (hx132_1.symm.trans hx135_1); injection ea_ with ea_ en_ ec_; subst ea_; subst ec_; clear en_; have p138 : 0 ≤ (x3_2 : Int) := zdec; have q138 : x3_2 < (l0.length : Int) := zdec; obtain ⟨ad138, A138_1, c138_1, e138, hx138_0, hx138_1, hl138_1, hi138_1⟩ := at_T76 HR0.out x3_2 p138 q138; obtain rfl : ad132 = ad138 := (by injection e138); replace hx138_0 := zh HB.out hx138_0; replace hx138_1 := zh HB.out hx138_1; have HR138_1 := Aside0.mk hi138_1; have HC138_1 := Aside0.mk hl138_1; clear hi138_1 hl138_1; replace p138 := eq_true p138; replace q138 := eq_true q138; have ea_ := Option.some.inj (hx132_1.symm.trans hx138_1); injection ea_ with ea_ en_ ec_; subst ea_; subst ec_; clear en_; have p139 : 0 ≤ (x3_2 : Int) := zdec; have q139 : x3_2 < (l0.length : Int) := zdec; obtain ⟨ad139, A139_1, c139_1, e139, hx139_0, hx139_1, hl139_1, hi139_1⟩ := at_T76 HR0.out x3_2 p139 q139; obtain rfl : ad132 = ad139 := (by injection e139); replace hx139_0 := zh HB.out hx139_0; replace hx139_1 := zh HB.out hx139_1; have HR139_1 := Aside0.mk hi139_1; have HC139_1 := Aside0.mk hl139_1; clear hi139_1 hl139_1; replace p139 := eq_true p139; replace q139 := eq_true q139; have ea_ := Option.some.inj (hx132_1.symm.trans hx139_1); injection ea_ with ea_ en_ ec_; subst ea_; subst ec_; clear en_) | (go_at_call 65; (with_reducible refine (cellarref7_Bytes.calls k2 _ _ ((rd_T76 l0 x3_2).f1) false _ ?side1 ?side2 A18.out).mono ?_); (case side1 => repeat (first | exact (Kd.C_below HR139_1.out (zw0 HB.out)) | (with_reducible refine Kd.C_alloc ?_ _) | (with_reducible refine Kd.C_drewN ?_ _) | (with_reducible refine Kd.C_drew ?_))); (case side2 => exact HC139_1.out); rintro e w21 ⟨rfl, hb⟩; have n0_ := Aside0.mk (below_step (zw0 HB.out) hb); clear HB; have HB := n0_; clear n0_; (try clear hb); (try clear hb2); (try clear hk); (try clear hi)))
        go_ret
        exact ⟨ze, zw0 HB.out⟩
       subst c19
       have H1 : (cellarref7_Mem.l0 k2 l0 (wrap64 (x3_2 + 1))) = some r := by rw [if_pos rfl] at H; exact H
       clear H
       have H := H1
       clear H1
       have H' := Aside0.mk H
       clear H
       have p132 : 0 ≤ (x3_2 : Int) := zdec
       have q132 : x3_2 < (l0.length : Int) := zdec
       obtain ⟨ad132, A132_1, c132_1, e132, hx132_0, hx132_1, hl132_1, hi132_1⟩ := at_T76 HR0.out x3_2 p132 q132
       cases e132
       replace hx132_0 := zh HB.out hx132_0
       replace hx132_1 := zh HB.out hx132_1
       have HR132_1 := Aside0.mk hi132_1
       have HC132_1 := Aside0.mk hl132_1
       clear hi132_1 hl132_1
       replace p132 := eq_true p132
       replace q132 := eq_true q132
       go_wp2_with (first | ((with_reducible refine gate_callee (f := 18) rfl ?_); refine zgo (some 26) Try.func18 #[.int .i64 ((rd_T76 l0 x3_2).f0), .int .i64 3] ?_; (with_reducible refine (cellarref0_Num.calls ((rd_T76 l0 x3_2).f0) 3 true _ A9.out).mono ?_); rintro e w' ⟨rfl, ⟨nd, rfl⟩⟩; refine ⟨_, rfl, ?_⟩; have p134 : 0 ≤ (x3_2 : Int) := zdec; have q134 : x3_2 < (l0.length : Int) := zdec; obtain ⟨ad134, A134_1, c134_1, e134, hx134_0, hx134_1, hl134_1, hi134_1⟩ := at_T76 HR0.out x3_2 p134 q134; obtain rfl : ad132 = ad134 := (by injection e134); replace hx134_0 := zh HB.out hx134_0; replace hx134_1 := zh HB.out hx134_1; have HR134_1 := Aside0.mk hi134_1; have HC134_1 := Aside0.mk hl134_1; clear hi134_1 hl134_1; replace p134 := eq_true p134; replace q134 := eq_true q134; have ea_ := Option.some.inj (hx132_1.symm.trans hx134_1); injection ea_ with ea_ en_ ec_; subst ea_; subst ec_; clear en_; have p135 : 0 ≤ (x3_2 : Int) := zdec; have q135 : x3_2 < (l0.length : Int) := zdec; obtain ⟨ad135, A135_1, c135_1, e135, hx135_0, hx135_1, hl135_1, hi135_1⟩ := at_T76 HR0.out x3_2 p135 q135; obtain rfl : ad132 = ad135 := (by injection e135); replace hx135_0 := zh HB.out hx135_0; replace hx135_1 := zh HB.out hx135_1; have HR135_1 := Aside0.mk hi135_1; have HC135_1 := Aside0.mk hl135_1; clear hi135_1 hl135_1; replace p135 := eq_true p135; replace q135 := eq_true q135; have ea_ := Option.some.inj (hx132_1.symm.trans hx135_1); injection ea_ with ea_ en_ ec_; subst ea_; subst ec_; clear en_; have p138 : 0 ≤ (x3_2 : Int) := zdec; have q138 : x3_2 < (l0.length : Int) := zdec; obtain ⟨ad138, A138_1, c138_1, e138, hx138_0, hx138_1, hl138_1, hi138_1⟩ := at_T76 HR0.out x3_2 p138 q138; obtain rfl : ad132 = ad138 := (by injection e138); replace hx138_0 := zh HB.out hx138_0; replace hx138_1 := zh HB.out hx138_1; have HR138_1 := Aside0.mk hi138_1; have HC138_1 := Aside0.mk hl138_1; clear hi138_1 hl138_1; replace p138 := eq_true p138; replace q138 := eq_true q138; have ea_ := Option.some.inj (hx132_1.symm.trans hx138_1); injection ea_ with ea_ en_ ec_; subst ea_; subst ec_; clear en_; have p139 : 0 ≤ (x3_2 : Int) := zdec; have q139 : x3_2 < (l0.length : Int) := zdec; obtain ⟨ad139, A139_1, c139_1, e139, hx139_0, hx139_1, hl139_1, hi139_1⟩ := at_T76 HR0.out x3_2 p139 q139; obtain rfl : ad132 = ad139 := (by injection e139); replace hx139_0 := zh HB.out hx139_0; replace hx139_1 := zh HB.out hx139_1; have HR139_1 := Aside0.mk hi139_1; have HC139_1 := Aside0.mk hl139_1; clear hi139_1 hl139_1; replace p139 := eq_true p139; replace q139 := eq_true q139; have ea_ := Option.some.inj (hx132_1.symm.trans hx139_1); injection ea_ with ea_ en_ ec_; subst ea_; subst ec_; clear en_) | (go_at_call 65; (with_reducible refine (cellarref7_Bytes.calls k2 _ _ ((rd_T76 l0 x3_2).f1) true _ ?side1 ?side2 A18.out).mono ?_); (case side1 => repeat (first | exact (Kd.C_below HR139_1.out (zw0 HB.out)) | (with_reducible refine Kd.C_alloc ?_ _) | (with_reducible refine Kd.C_drewN ?_ _) | (with_reducible refine Kd.C_drew ?_))); (case side2 => exact HC139_1.out); rintro e w20 ⟨rfl, hb⟩; have n0_ := Aside0.mk (below_step (zw0 HB.out) hb); clear HB; have HB := n0_; clear n0_; (try clear hb); (try clear hb2); (try clear hk); (try clear hi)))
       go_roundg k2
       case measure => have := HJ1.out; have := HK2.out; omega
       case rel => exact ⟨(wrap64 (x3_2 + 1)), (zr), H', ⟨by have := HJ1.out; have := HK2.out; omega⟩, ⟨zw0 HB.out⟩⟩
      ·rw [if_neg c7] at H
       have c7b0 : decide (x3_2 < (l0.length : Int)) = false := decide_eq_false c7
       clear c7
       obtain rfl := Option.some.inj H
       go_wp2
       go_ret
       exact ⟨ze, zw0 HB.out⟩

end Go.Proofs.Ytjoplkillkhiaaa.M
