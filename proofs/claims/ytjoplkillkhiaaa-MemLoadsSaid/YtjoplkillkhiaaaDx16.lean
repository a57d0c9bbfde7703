-- Written by this session's own edition of the print.
import Derived.Test.YtjoplkillkhiaaaDx0
import Derived.Test.YtjoplkillkhiaaaDx1
import Derived.Test.YtjoplkillkhiaaaDx3
import Derived.Test.YtjoplkillkhiaaaDx4
import Derived.Test.YtjoplkillkhiaaaDx5
import Derived.Test.YtjoplkillkhiaaaDx6
import Derived.Test.YtjoplkillkhiaaaDx12
import Derived.Test.YtjoplkillkhiaaaDx15
import Derived.Test.YtjoplkillkhiaaaSq
import Derived.Test.YtjoplkillkhiaaaSq2
namespace Go.Proofs.Ytjoplkillkhiaaa.D
open Go.RowKit Go.Proofs.Ytjoplkillkhiaaa.Fn Go.Proofs.YtjoplkillkhiaaaW.PrintWords Go.Proofs.YtjoplkillkhiaaaW.PrintLast Go.Proofs.YtjoplkillkhiaaaW.PrintMore
attribute [local go_sem] max2_int min2_int max_two min_two max_three min_three max_four min_four   -- for this text's walks alone
set_option linter.unusedVariables false
set_option linter.unusedSimpArgs false

attribute [local go_sem high] eqA62
/-! cellarlaw9_MemLoads -/
mutual
def cellarlaw9_MemLoads.l0 : Nat → List (S29) → Int → List (List (S76)) → List (S62) → List Int → List (S29) → Option (Bool)
 | 0, _, _, _, _, _, _ => none
 | k + 1, x3, x4, x354000, x354001, x354002, x354003 => if x4 < (x354000.length : Int) then (cellarlaw9_MemLoads.j1 k x3 x4 (decide (x4 < 5)) x354000 x354001 x354002 x354003) else (cellarlaw9_MemLoads.j1 k x3 x4 false x354000 x354001 x354002 x354003)
def cellarlaw9_MemLoads.j1 : Nat → List (S29) → Int → Bool → List (List (S76)) → List (S62) → List Int → List (S29) → Option (Bool)
 | 0, _, _, _, _, _, _, _ => none
 | k + 1, x3, x4, x30, x354000, x354001, x354002, x354003 => if x30 = true then (if 0 ≤ x4 then (if x4 < (x354000.length : Int) then ((cellarref0_CopyBlocks.f k (rd_L4 x354000 x4)).bind fun t360 => ((cellarref7_Mem.f k (rd_L4 x354000 x4)).bind fun t364 => ((mem_Check.f t360).bind fun t365 => ((cellarlaw9_num.f t365).bind fun t366 => (if ((t366 == 0) != t364) = true then (some false) else ((cellarlaw9_pointers.f k x354000 x354001 x354002 x354003 t360).bind fun t367 => (cellarlaw9_MemLoads.l1 k x3 x4 t360 t364 t367 0 x354000 x354001 x354002 x354003))))))) else (none)) else (none)) else ((cellarlaw9_wakes.f k).bind fun t358 => (some t358))
def cellarlaw9_MemLoads.l1 : Nat → List (S29) → Int → List (S76) → Bool → List (S62) → Int → List (List (S76)) → List (S62) → List Int → List (S29) → Option (Bool)
 | 0, _, _, _, _, _, _, _, _, _, _ => none
 | k + 1, x3, x4, x5, x6, x7, x8, x354000, x354001, x354002, x354003 => if x8 < (x7.length : Int) then (cellarlaw9_MemLoads.l2 k x3 x4 x5 x6 x7 x8 0 x354000 x354001 x354002 x354003) else (if 0 ≤ x4 then (if x4 < (x354000.length : Int) then ((cellarref0_EqBlocks.f k x5 (rd_L4 x354000 x4)).bind fun t393 => (if t393 = true then (cellarlaw9_MemLoads.l0 k x3 (wrap64 (x4 + 1)) x354000 x354001 x354002 x354003) else (some false))) else (none)) else (none))
def cellarlaw9_MemLoads.l2 : Nat → List (S29) → Int → List (S76) → Bool → List (S62) → Int → Int → List (List (S76)) → List (S62) → List Int → List (S29) → Option (Bool)
 | 0, _, _, _, _, _, _, _, _, _, _, _ => none
 | k + 1, x3, x4, x5, x6, x7, x8, x9, x354000, x354001, x354002, x354003 => if x9 ≤ 11 then (if (x3.length : Int) = 0 then (none) else (if 0 ≤ (Int.tmod (wrap64 (x8 + x9)) (x3.length : Int)) then (if (Int.tmod (wrap64 (x8 + x9)) (x3.length : Int)) < (x3.length : Int) then (if 0 ≤ x8 then (if x8 < (x7.length : Int) then ((mem_Load.f k ((rd_T29 x3 (Int.tmod (wrap64 (x8 + x9)) (x3.length : Int))).f0) ((rd_T29 x3 (Int.tmod (wrap64 (x8 + x9)) (x3.length : Int))).f1) x5 ((rd_T62 x7 x8).f0) ((rd_T62 x7 x8).f1) ((rd_T62 x7 x8).f2) ((rd_T62 x7 x8).f3) x9).bind fun bt373 => (if x6 = true then ((cellarref1_Abi.f ((rd_T29 x3 (Int.tmod (wrap64 (x8 + x9)) (x3.length : Int))).f0) ((rd_T29 x3 (Int.tmod (wrap64 (x8 + x9)) (x3.length : Int))).f1)).bind fun t381 => (if t381 = true then ((cellarref1_Kind.f x9).bind fun t382 => (if t382 = true then ((cellarref7_Pointer.f k x5 ((rd_T62 x7 x8).f0) ((rd_T62 x7 x8).f1) ((rd_T62 x7 x8).f2) ((rd_T62 x7 x8).f3)).bind fun t384 => (cellarlaw9_MemLoads.j4 k x3 x4 x5 x6 x7 x8 x9 bt373.2.2.2.2.1 bt373.2.2.2.2.2 1 0 t384 x354000 x354001 x354002 x354003 ((rd_T29 x3 (Int.tmod (wrap64 (x8 + x9)) (x3.length : Int))).f0) ((rd_T29 x3 (Int.tmod (wrap64 (x8 + x9)) (x3.length : Int))).f1) bt373.1 bt373.2.1 bt373.2.2.1 bt373.2.2.2.1 false 0 0 0)) else (cellarlaw9_MemLoads.j4 k x3 x4 x5 x6 x7 x8 x9 bt373.2.2.2.2.1 bt373.2.2.2.2.2 1 0 false x354000 x354001 x354002 x354003 ((rd_T29 x3 (Int.tmod (wrap64 (x8 + x9)) (x3.length : Int))).f0) ((rd_T29 x3 (Int.tmod (wrap64 (x8 + x9)) (x3.length : Int))).f1) bt373.1 bt373.2.1 bt373.2.2.1 bt373.2.2.2.1 false 0 0 0))) else (cellarlaw9_MemLoads.j4 k x3 x4 x5 x6 x7 x8 x9 bt373.2.2.2.2.1 bt373.2.2.2.2.2 1 0 false x354000 x354001 x354002 x354003 ((rd_T29 x3 (Int.tmod (wrap64 (x8 + x9)) (x3.length : Int))).f0) ((rd_T29 x3 (Int.tmod (wrap64 (x8 + x9)) (x3.length : Int))).f1) bt373.1 bt373.2.1 bt373.2.2.1 bt373.2.2.2.1 false 0 0 0))) else (cellarlaw9_MemLoads.j4 k x3 x4 x5 x6 x7 x8 x9 bt373.2.2.2.2.1 bt373.2.2.2.2.2 1 0 false x354000 x354001 x354002 x354003 ((rd_T29 x3 (Int.tmod (wrap64 (x8 + x9)) (x3.length : Int))).f0) ((rd_T29 x3 (Int.tmod (wrap64 (x8 + x9)) (x3.length : Int))).f1) bt373.1 bt373.2.1 bt373.2.2.1 bt373.2.2.2.1 false 0 0 0))) else (none)) else (none)) else (none)) else (none))) else (cellarlaw9_MemLoads.l1 k x3 x4 x5 x6 x7 (wrap64 (x8 + 1)) x354000 x354001 x354002 x354003)
def cellarlaw9_MemLoads.j4 : Nat → List (S29) → Int → List (S76) → Bool → List (S62) → Int → Int → Int → Int → Int → Int → Bool → List (List (S76)) → List (S62) → List Int → List (S29) → Bool → Int → Bool → Int → Int → Int → Bool → Int → Int → Int → Option (Bool)
 | 0, _, _, _, _, _, _, _, _, _, _, _, _, _, _, _, _, _, _, _, _, _, _, _, _, _, _ => none
 | k + 1, x3, x4, x5, x6, x7, x8, x9, x12, x13, x14, x16, x102, x354000, x354001, x354002, x354003, x372000, x372001, x380000, x380001, x380002, x380003, x381000, x381001, x381002, x381003 => if x102 = true then (if 0 ≤ x8 then (if x8 < (x7.length : Int) then ((cellarref7_Load.f k x372000 x372001 x5 ((rd_T62 x7 x8).f0) ((rd_T62 x7 x8).f1) ((rd_T62 x7 x8).f2) ((rd_T62 x7 x8).f3) x9).bind fun bt386 => (cellarlaw9_MemLoads.j5 k x3 x4 x5 x6 x7 x8 x9 x12 x13 0 bt386.2.2.2.2 x354000 x354001 x354002 x354003 x380000 x380001 x380002 x380003 bt386.1 bt386.2.1 bt386.2.2.1 bt386.2.2.2.1)) else (none)) else (none)) else (cellarlaw9_MemLoads.j5 k x3 x4 x5 x6 x7 x8 x9 x12 x13 x14 x16 x354000 x354001 x354002 x354003 x380000 x380001 x380002 x380003 x381000 x381001 x381002 x381003)
def cellarlaw9_MemLoads.j5 : Nat → List (S29) → Int → List (S76) → Bool → List (S62) → Int → Int → Int → Int → Int → Int → List (List (S76)) → List (S62) → List Int → List (S29) → Bool → Int → Int → Int → Bool → Int → Int → Int → Option (Bool)
 | 0, _, _, _, _, _, _, _, _, _, _, _, _, _, _, _, _, _, _, _, _, _, _, _ => none
 | k + 1, x3, x4, x5, x6, x7, x8, x9, x12, x13, x14, x16, x354000, x354001, x354002, x354003, x380000, x380001, x380002, x380003, x381000, x381001, x381002, x381003 => (cellarlaw9_num.f x13).bind fun t391 => (if t391 = x14 then (if (!(x380000 == x381000) || (!(x380001 == x381001) || (!(x380002 == x381002) || (!(x380003 == x381003))))) = true then (cellarlaw9_MemLoads.j6 k x3 x4 x5 x6 x7 x8 x9 true x354000 x354001 x354002 x354003) else (cellarlaw9_MemLoads.j6 k x3 x4 x5 x6 x7 x8 x9 (x12 != x16) x354000 x354001 x354002 x354003)) else (cellarlaw9_MemLoads.j6 k x3 x4 x5 x6 x7 x8 x9 true x354000 x354001 x354002 x354003))
def cellarlaw9_MemLoads.j6 : Nat → List (S29) → Int → List (S76) → Bool → List (S62) → Int → Int → Bool → List (List (S76)) → List (S62) → List Int → List (S29) → Option (Bool)
 | 0, _, _, _, _, _, _, _, _, _, _, _, _ => none
 | k + 1, x3, x4, x5, x6, x7, x8, x9, x127, x354000, x354001, x354002, x354003 => if x127 = true then (some false) else (cellarlaw9_MemLoads.l2 k x3 x4 x5 x6 x7 x8 (wrap64 (x9 + 1)) x354000 x354001 x354002 x354003)
end
def cellarlaw9_MemLoads.f (k : Nat) (l0_0 : List (List (S76))) (l0_1 : List (S62)) (l0_2 : List Int) (l0_3 : List (S29)) : Option (Bool) := (cellarlaw9_Heavy.f k l0_0 l0_1 l0_2 l0_3).bind fun t354 => (if t354 = true then (some true) else ((cellarlaw8_Machines.f l0_3).bind fun t355 => (cellarlaw9_MemLoads.l0 k t355 0 l0_0 l0_1 l0_2 l0_3)))
theorem cellarlaw9_MemLoads.mono_l : ∀ k, (∀ y0 y1 y2 y3 y4 y5, LeO (cellarlaw9_MemLoads.l0 k y0 y1 y2 y3 y4 y5) (cellarlaw9_MemLoads.l0 (k + 1) y0 y1 y2 y3 y4 y5)) ∧ (∀ y0 y1 y2 y3 y4 y5 y6, LeO (cellarlaw9_MemLoads.j1 k y0 y1 y2 y3 y4 y5 y6) (cellarlaw9_MemLoads.j1 (k + 1) y0 y1 y2 y3 y4 y5 y6)) ∧ (∀ y0 y1 y2 y3 y4 y5 y6 y7 y8 y9, LeO (cellarlaw9_MemLoads.l1 k y0 y1 y2 y3 y4 y5 y6 y7 y8 y9) (cellarlaw9_MemLoads.l1 (k + 1) y0 y1 y2 y3 y4 y5 y6 y7 y8 y9)) ∧ (∀ y0 y1 y2 y3 y4 y5 y6 y7 y8 y9 y10, LeO (cellarlaw9_MemLoads.l2 k y0 y1 y2 y3 y4 y5 y6 y7 y8 y9 y10) (cellarlaw9_MemLoads.l2 (k + 1) y0 y1 y2 y3 y4 y5 y6 y7 y8 y9 y10)) ∧ (∀ y0 y1 y2 y3 y4 y5 y6 y7 y8 y9 y10 y11 y12 y13 y14 y15 y16 y17 y18 y19 y20 y21 y22 y23 y24 y25, LeO (cellarlaw9_MemLoads.j4 k y0 y1 y2 y3 y4 y5 y6 y7 y8 y9 y10 y11 y12 y13 y14 y15 y16 y17 y18 y19 y20 y21 y22 y23 y24 y25) (cellarlaw9_MemLoads.j4 (k + 1) y0 y1 y2 y3 y4 y5 y6 y7 y8 y9 y10 y11 y12 y13 y14 y15 y16 y17 y18 y19 y20 y21 y22 y23 y24 y25)) ∧ (∀ y0 y1 y2 y3 y4 y5 y6 y7 y8 y9 y10 y11 y12 y13 y14 y15 y16 y17 y18 y19 y20 y21 y22, LeO (cellarlaw9_MemLoads.j5 k y0 y1 y2 y3 y4 y5 y6 y7 y8 y9 y10 y11 y12 y13 y14 y15 y16 y17 y18 y19 y20 y21 y22) (cellarlaw9_MemLoads.j5 (k + 1) y0 y1 y2 y3 y4 y5 y6 y7 y8 y9 y10 y11 y12 y13 y14 y15 y16 y17 y18 y19 y20 y21 y22)) ∧ (∀ y0 y1 y2 y3 y4 y5 y6 y7 y8 y9 y10 y11, LeO (cellarlaw9_MemLoads.j6 k y0 y1 y2 y3 y4 y5 y6 y7 y8 y9 y10 y11) (cellarlaw9_MemLoads.j6 (k + 1) y0 y1 y2 y3 y4 y5 y6 y7 y8 y9 y10 y11))
 | 0 => ⟨fun _ _ _ _ _ _ r h => by simp [cellarlaw9_MemLoads.l0] at h, fun _ _ _ _ _ _ _ r h => by simp [cellarlaw9_MemLoads.j1] at h, fun _ _ _ _ _ _ _ _ _ _ r h => by simp [cellarlaw9_MemLoads.l1] at h, fun _ _ _ _ _ _ _ _ _ _ _ r h => by simp [cellarlaw9_MemLoads.l2] at h, fun _ _ _ _ _ _ _ _ _ _ _ _ _ _ _ _ _ _ _ _ _ _ _ _ _ _ r h => by simp [cellarlaw9_MemLoads.j4] at h, fun _ _ _ _ _ _ _ _ _ _ _ _ _ _ _ _ _ _ _ _ _ _ _ r h => by simp [cellarlaw9_MemLoads.j5] at h, fun _ _ _ _ _ _ _ _ _ _ _ _ r h => by simp [cellarlaw9_MemLoads.j6] at h⟩
 | k + 1 => by
  obtain ⟨ih0, ih1, ih2, ih3, ih4, ih5, ih6⟩ := cellarlaw9_MemLoads.mono_l k
  refine ⟨?_, ?_, ?_, ?_, ?_, ?_, ?_⟩
  ·intro y0 y1 y2 y3 y4 y5
   unfold cellarlaw9_MemLoads.l0
   repeat' first
   | (with_reducible apply ih0)
   | (with_reducible apply ih1)
   | (with_reducible apply ih2)
   | (with_reducible apply ih3)
   | (with_reducible apply ih4)
   | (with_reducible apply ih5)
   | (with_reducible apply ih6)
   | (with_reducible apply cellarlaw9_Heavy.mono)
   | (with_reducible apply cellarlaw9_pointers.mono)
   | (with_reducible apply cellarlaw9_wakes.mono)
   | (with_reducible apply cellarref0_CopyBlocks.mono)
   | (with_reducible apply cellarref0_EqBlocks.mono)
   | (with_reducible apply cellarref7_Load.mono)
   | (with_reducible apply cellarref7_Mem.mono)
   | (with_reducible apply cellarref7_Pointer.mono)
   | (with_reducible apply mem_Load.mono)
   | (with_reducible apply LeO.refl)
   | (with_reducible apply LeO.none)
   | (with_reducible refine LeO.ite ?_ ?_)
   | (with_reducible refine LeO.bind ?_ (fun _ => ?_))
  ·intro y0 y1 y2 y3 y4 y5 y6
   unfold cellarlaw9_MemLoads.j1
   repeat' first
   | (with_reducible apply ih0)
   | (with_reducible apply ih1)
   | (with_reducible apply ih2)
   | (with_reducible apply ih3)
   | (with_reducible apply ih4)
   | (with_reducible apply ih5)
   | (with_reducible apply ih6)
   | (with_reducible apply cellarlaw9_Heavy.mono)
   | (with_reducible apply cellarlaw9_pointers.mono)
   | (with_reducible apply cellarlaw9_wakes.mono)
   | (with_reducible apply cellarref0_CopyBlocks.mono)
   | (with_reducible apply cellarref0_EqBlocks.mono)
   | (with_reducible apply cellarref7_Load.mono)
   | (with_reducible apply cellarref7_Mem.mono)
   | (with_reducible apply cellarref7_Pointer.mono)
   | (with_reducible apply mem_Load.mono)
   | (with_reducible apply LeO.refl)
   | (with_reducible apply LeO.none)
   | (with_reducible refine LeO.ite ?_ ?_)
   | (with_reducible refine LeO.bind ?_ (fun _ => ?_))
  ·intro y0 y1 y2 y3 y4 y5 y6 y7 y8 y9
   unfold cellarlaw9_MemLoads.l1
   repeat' first
   | (with_reducible apply ih0)
   | (with_reducible apply ih1)
   | (with_reducible apply ih2)
   | (with_reducible apply ih3)
   | (with_reducible apply ih4)
   | (with_reducible apply ih5)
   | (with_reducible apply ih6)
   | (with_reducible apply cellarlaw9_Heavy.mono)
   | (with_reducible apply cellarlaw9_pointers.mono)
   | (with_reducible apply cellarlaw9_wakes.mono)
   | (with_reducible apply cellarref0_CopyBlocks.mono)
   | (with_reducible apply cellarref0_EqBlocks.mono)
   | (with_reducible apply cellarref7_Load.mono)
   | (with_reducible apply cellarref7_Mem.mono)
   | (with_reducible apply cellarref7_Pointer.mono)
   | (with_reducible apply mem_Load.mono)
   | (with_reducible apply LeO.refl)
   | (with_reducible apply LeO.none)
   | (with_reducible refine LeO.ite ?_ ?_)
   | (with_reducible refine LeO.bind ?_ (fun _ => ?_))
  ·intro y0 y1 y2 y3 y4 y5 y6 y7 y8 y9 y10
   unfold cellarlaw9_MemLoads.l2
   repeat' first
   | (with_reducible apply ih0)
   | (with_reducible apply ih1)
   | (with_reducible apply ih2)
   | (with_reducible apply ih3)
   | (with_reducible apply ih4)
   | (with_reducible apply ih5)
   | (with_reducible apply ih6)
   | (with_reducible apply cellarlaw9_Heavy.mono)
   | (with_reducible apply cellarlaw9_pointers.mono)
   | (with_reducible apply cellarlaw9_wakes.mono)
   | (with_reducible apply cellarref0_CopyBlocks.mono)
   | (with_reducible apply cellarref0_EqBlocks.mono)
   | (with_reducible apply cellarref7_Load.mono)
   | (with_reducible apply cellarref7_Mem.mono)
   | (with_reducible apply cellarref7_Pointer.mono)
   | (with_reducible apply mem_Load.mono)
   | (with_reducible apply LeO.refl)
   | (with_reducible apply LeO.none)
   | (with_reducible refine LeO.ite ?_ ?_)
   | (with_reducible refine LeO.bind ?_ (fun _ => ?_))
  ·intro y0 y1 y2 y3 y4 y5 y6 y7 y8 y9 y10 y11 y12 y13 y14 y15 y16 y17 y18 y19 y20 y21 y22 y23 y24 y25
   unfold cellarlaw9_MemLoads.j4
   repeat' first
   | (with_reducible apply ih0)
   | (with_reducible apply ih1)
   | (with_reducible apply ih2)
   | (with_reducible apply ih3)
   | (with_reducible apply ih4)
   | (with_reducible apply ih5)
   | (with_reducible apply ih6)
   | (with_reducible apply cellarlaw9_Heavy.mono)
   | (with_reducible apply cellarlaw9_pointers.mono)
   | (with_reducible apply cellarlaw9_wakes.mono)
   | (with_reducible apply cellarref0_CopyBlocks.mono)
   | (with_reducible apply cellarref0_EqBlocks.mono)
   | (with_reducible apply cellarref7_Load.mono)
   | (with_reducible apply cellarref7_Mem.mono)
   | (with_reducible apply cellarref7_Pointer.mono)
   | (with_reducible apply mem_Load.mono)
   | (with_reducible apply LeO.refl)
   | (with_reducible apply LeO.none)
   | (with_reducible refine LeO.ite ?_ ?_)
   | (with_reducible refine LeO.bind ?_ (fun _ => ?_))
  ·intro y0 y1 y2 y3 y4 y5 y6 y7 y8 y9 y10 y11 y12 y13 y14 y15 y16 y17 y18 y19 y20 y21 y22
   unfold cellarlaw9_MemLoads.j5
   repeat' first
   | (with_reducible apply ih0)
   | (with_reducible apply ih1)
   | (with_reducible apply ih2)
   | (with_reducible apply ih3)
   | (with_reducible apply ih4)
   | (with_reducible apply ih5)
   | (with_reducible apply ih6)
   | (with_reducible apply cellarlaw9_Heavy.mono)
   | (with_reducible apply cellarlaw9_pointers.mono)
   | (with_reducible apply cellarlaw9_wakes.mono)
   | (with_reducible apply cellarref0_CopyBlocks.mono)
   | (with_reducible apply cellarref0_EqBlocks.mono)
   | (with_reducible apply cellarref7_Load.mono)
   | (with_reducible apply cellarref7_Mem.mono)
   | (with_reducible apply cellarref7_Pointer.mono)
   | (with_reducible apply mem_Load.mono)
   | (with_reducible apply LeO.refl)
   | (with_reducible apply LeO.none)
   | (with_reducible refine LeO.ite ?_ ?_)
   | (with_reducible refine LeO.bind ?_ (fun _ => ?_))
  ·intro y0 y1 y2 y3 y4 y5 y6 y7 y8 y9 y10 y11
   unfold cellarlaw9_MemLoads.j6
   repeat' first
   | (with_reducible apply ih0)
   | (with_reducible apply ih1)
   | (with_reducible apply ih2)
   | (with_reducible apply ih3)
   | (with_reducible apply ih4)
   | (with_reducible apply ih5)
   | (with_reducible apply ih6)
   | (with_reducible apply cellarlaw9_Heavy.mono)
   | (with_reducible apply cellarlaw9_pointers.mono)
   | (with_reducible apply cellarlaw9_wakes.mono)
   | (with_reducible apply cellarref0_CopyBlocks.mono)
   | (with_reducible apply cellarref0_EqBlocks.mono)
   | (with_reducible apply cellarref7_Load.mono)
   | (with_reducible apply cellarref7_Mem.mono)
   | (with_reducible apply cellarref7_Pointer.mono)
   | (with_reducible apply mem_Load.mono)
   | (with_reducible apply LeO.refl)
   | (with_reducible apply LeO.none)
   | (with_reducible refine LeO.ite ?_ ?_)
   | (with_reducible refine LeO.bind ?_ (fun _ => ?_))
theorem cellarlaw9_MemLoads.mono : ∀ a0 a1 a2 a3 k, LeO (cellarlaw9_MemLoads.f k a0 a1 a2 a3) (cellarlaw9_MemLoads.f (k + 1) a0 a1 a2 a3) := by
 intro a0 a1 a2 a3 k
 obtain ⟨ih0, ih1, ih2, ih3, ih4, ih5, ih6⟩ := cellarlaw9_MemLoads.mono_l k
 unfold cellarlaw9_MemLoads.f
 repeat' first
   | (with_reducible apply ih0)
   | (with_reducible apply ih1)
   | (with_reducible apply ih2)
   | (with_reducible apply ih3)
   | (with_reducible apply ih4)
   | (with_reducible apply ih5)
   | (with_reducible apply ih6)
   | (with_reducible apply cellarlaw9_Heavy.mono)
   | (with_reducible apply cellarlaw9_pointers.mono)
   | (with_reducible apply cellarlaw9_wakes.mono)
   | (with_reducible apply cellarref0_CopyBlocks.mono)
   | (with_reducible apply cellarref0_EqBlocks.mono)
   | (with_reducible apply cellarref7_Load.mono)
   | (with_reducible apply cellarref7_Mem.mono)
   | (with_reducible apply cellarref7_Pointer.mono)
   | (with_reducible apply mem_Load.mono)
   | (with_reducible apply LeO.refl)
   | (with_reducible apply LeO.none)
   | (with_reducible refine LeO.ite ?_ ?_)
   | (with_reducible refine LeO.bind ?_ (fun _ => ?_))
def cellarlaw9_MemLoads.T19 : Bool × List (List Nat × List Nat) := (true, [([], []), ([], []), ([], []), ([], []), ([2, 3], [2, 3]), ([4], [4]), ([], []), ([0, 1, 5, 6], [0, 1, 5, 6]), ([7], [7]), ([8], [8]), ([8], [8]), ([8], [8]), ([], []), ([12, 9, 7, 0, 1, 2, 3, 4, 5, 6, 7, 8, 9, 12], [9, 12]), ([10, 13, 0, 1, 2, 3, 4, 5, 6, 7, 8, 9, 10, 12, 13], [10]), ([11, 14, 0, 1, 2, 3, 4, 5, 6, 7, 8, 9, 10, 11, 12, 13, 14], [11])])
def cellarlaw9_MemLoads.B19 : List Nat := [0, 0, 0, 0, 12, 28, 0, 127, 255, 511, 511, 511, 0, 5119, 14335, 32767]
theorem cellarlaw9_MemLoads.tab19 : rtab .any (opsOf Try.f8 19) = cellarlaw9_MemLoads.T19 := by kernel_rfl
theorem cellarlaw9_MemLoads.bits19 : waitsOk cellarlaw9_MemLoads.T19.2 cellarlaw9_MemLoads.B19 = true := by kernel_rfl
def cellarlaw9_MemLoads.T23 : Bool × List (List Nat × List Nat) := (true, [([], []), ([], []), ([], []), ([], []), ([2, 3], [2, 3]), ([4], [4]), ([], []), ([0, 1, 5, 6], [0, 1, 5, 6]), ([7], [7]), ([8], [8]), ([8], [8]), ([9, 7, 0, 1, 2, 3, 4, 5, 6, 7, 8, 9], [9]), ([10, 11, 0, 1, 2, 3, 4, 5, 6, 7, 8, 9, 10, 11], [10])])
def cellarlaw9_MemLoads.B23 : List Nat := [0, 0, 0, 0, 12, 28, 0, 127, 255, 511, 511, 1023, 4095]
theorem cellarlaw9_MemLoads.tab23 : rtab .any (opsOf Try.f8 23) = cellarlaw9_MemLoads.T23 := by kernel_rfl
theorem cellarlaw9_MemLoads.bits23 : waitsOk cellarlaw9_MemLoads.T23.2 cellarlaw9_MemLoads.B23 = true := by kernel_rfl
abbrev cellarlaw9_MemLoads.b0 : Array Bool := #[false,false,false,false,false,false,false,false,false,false,false,false,false,false,false,false]
abbrev cellarlaw9_MemLoads.b1 : Array Bool := #[false,true,false,false,false,false,false,false,false,false,false,false,false,false,false,false]
abbrev cellarlaw9_MemLoads.b2 : Array Bool := #[false,true,true,false,false,false,false,false,false,false,false,false,false,false,false,false]
abbrev cellarlaw9_MemLoads.b3 : Array Bool := #[false,true,true,true,false,false,false,false,false,false,false,false,false,false,false,false]
abbrev cellarlaw9_MemLoads.b4 : Array Bool := #[false,true,true,true,true,false,false,false,false,false,false,false,false,false,false,false]
abbrev cellarlaw9_MemLoads.b5 : Array Bool := #[false,true,true,true,true,false,true,false,false,false,false,false,false,false,false,false]
abbrev cellarlaw9_MemLoads.b6 : Array Bool := #[true,true,true,true,true,false,true,false,false,false,false,false,false,false,false,false]
abbrev cellarlaw9_MemLoads.b7 : Array Bool := #[true,true,true,true,true,true,true,false,false,false,false,false,false,false,false,false]
abbrev cellarlaw9_MemLoads.b8 : Array Bool := #[true,true,true,true,true,true,true,true,true,true,true,true,true,false,false,false]
abbrev cellarlaw9_MemLoads.b9 : Array Bool := #[true,true,true,true,true,true,true,true,false,false,false,false,false,false,false,false]
abbrev cellarlaw9_MemLoads.b10 : Array Bool := #[true,true,true,true,true,true,true,false,false,false,false,false,true,false,false,false]
abbrev cellarlaw9_MemLoads.b11 : Array Bool := #[true,true,true,true,true,true,true,true,true,false,false,false,false,false,false,false]
abbrev cellarlaw9_MemLoads.b12 : Array Bool := #[true,true,true,true,true,true,true,true,true,true,false,false,false,false,false,false]
abbrev cellarlaw9_MemLoads.b13 : Array Bool := #[true,true,true,true,true,true,true,true,true,true,true,false,false,false,false,false]
abbrev cellarlaw9_MemLoads.b14 : Array Bool := #[true,true,true,true,true,true,true,true,true,true,true,true,false,false,false,false]
abbrev cellarlaw9_MemLoads.b15 : Array Bool := #[true,true,true,true,true,true,true,true,false,false,false,false,true,false,false,false]
abbrev cellarlaw9_MemLoads.b16 : Array Bool := #[true,true,true,true,true,true,true,true,true,false,false,false,true,false,false,false]
abbrev cellarlaw9_MemLoads.b17 : Array Bool := #[true,true,true,true,true,true,true,true,true,true,false,false,true,false,false,false]
abbrev cellarlaw9_MemLoads.b18 : Array Bool := #[true,true,true,true,true,true,true,true,true,true,true,false,true,false,false,false]
abbrev cellarlaw9_MemLoads.b19 : Array Bool := #[true,true,true,true,true,true,true,true,true,true,true,true,true,true,false,false]
abbrev cellarlaw9_MemLoads.b20 : Array Bool := #[true,true,true,true,true,true,true,true,true,true,true,true,true,true,true,false]
abbrev cellarlaw9_MemLoads.b21 : Array Bool := #[true,true,true,true,true,true,true,true,true,true,true,true,true,true,true,true]
abbrev cellarlaw9_MemLoads.b22 : Array Bool := #[false,false,false,false,false,false,false,false,false,false,false,false,false]
abbrev cellarlaw9_MemLoads.b23 : Array Bool := #[false,true,false,false,false,false,false,false,false,false,false,false,false]
abbrev cellarlaw9_MemLoads.b24 : Array Bool := #[false,true,true,false,false,false,false,false,false,false,false,false,false]
abbrev cellarlaw9_MemLoads.b25 : Array Bool := #[false,true,true,true,false,false,false,false,false,false,false,false,false]
abbrev cellarlaw9_MemLoads.b26 : Array Bool := #[false,true,true,true,true,false,false,false,false,false,false,false,false]
abbrev cellarlaw9_MemLoads.b27 : Array Bool := #[false,true,true,true,true,false,true,false,false,false,false,false,false]
abbrev cellarlaw9_MemLoads.b28 : Array Bool := #[true,true,true,true,true,false,true,false,false,false,false,false,false]
abbrev cellarlaw9_MemLoads.b29 : Array Bool := #[true,true,true,true,true,true,true,false,false,false,false,false,false]
abbrev cellarlaw9_MemLoads.b30 : Array Bool := #[true,true,true,true,true,true,true,true,false,false,false,false,false]
abbrev cellarlaw9_MemLoads.b31 : Array Bool := #[true,true,true,true,true,true,true,true,true,false,false,false,false]
abbrev cellarlaw9_MemLoads.b32 : Array Bool := #[true,true,true,true,true,true,true,true,true,true,false,false,false]
abbrev cellarlaw9_MemLoads.b33 : Array Bool := #[true,true,true,true,true,true,true,true,true,true,true,false,false]
abbrev cellarlaw9_MemLoads.b34 : Array Bool := #[true,true,true,true,true,true,true,true,true,true,true,true,false]
abbrev cellarlaw9_MemLoads.b35 : Array Bool := #[true,true,true,true,true,true,true,true,true,true,true,true,true]
set_option maxHeartbeats 8000000 in
set_option maxRecDepth 100000 in
theorem cellarlaw9_MemLoads.calls (k : Nat) (A0_0 : Option Addr) (c0_0 : Nat) (l0_0 : List (List (S76))) (A0_1 : Option Addr) (c0_1 : Nat) (l0_1 : List (S62)) (A0_2 : Option Addr) (c0_2 : Nat) (l0_2 : List Int) (A0_3 : Option Addr) (c0_3 : Nat) (l0_3 : List (S29)) (r : Bool) (w : World) (hr0_0 : Kd.C (Kd.slice 76 k76) w A0_0 l0_0.length l0_0) (hc0_0 : l0_0.length ≤ c0_0) (hr0_1 : Kd.C k62 w A0_1 l0_1.length l0_1) (hc0_1 : l0_1.length ≤ c0_1) (hr0_2 : Kd.C (Kd.int .i64) w A0_2 l0_2.length l0_2) (hc0_2 : l0_2.length ≤ c0_2) (hr0_3 : Kd.C k29 w A0_3 l0_3.length l0_3) (hc0_3 : l0_3.length ≤ c0_3) (h : cellarlaw9_MemLoads.f k l0_0 l0_1 l0_2 l0_3 = some r) :
  Calls Try.prog 8 #[.agg #[.slice A0_0 l0_0.length c0_0, .slice A0_1 l0_1.length c0_1, .slice A0_2 l0_2.length c0_2, .slice A0_3 l0_3.length c0_3]] w fun e w' => e = .returned (.bool r) ∧ Below w.heap.size w w' := by
 have hu54 := Try.underlying54
 have hu29 := Try.underlying29
 have hu62 := Try.underlying62
 have HR0_0 := Aside0.mk hr0_0
 have HC0_0 := Aside0.mk hc0_0
 clear hr0_0 hc0_0
 have HR0_1 := Aside0.mk hr0_1
 have HC0_1 := Aside0.mk hc0_1
 clear hr0_1 hc0_1
 have HR0_2 := Aside0.mk hr0_2
 have HC0_2 := Aside0.mk hc0_2
 clear hr0_2 hc0_2
 have HR0_3 := Aside0.mk hr0_3
 have HC0_3 := Aside0.mk hc0_3
 clear hr0_3 hc0_3
 have HB := Aside0.mk (Below.refl w.heap.size w)
 have H : ((cellarlaw9_Heavy.f k l0_0 l0_1 l0_2 l0_3).bind fun t354 => (if t354 = true then (some true) else ((cellarlaw8_Machines.f l0_3).bind fun t355 => (cellarlaw9_MemLoads.l0 k t355 0 l0_0 l0_1 l0_2 l0_3)))) = some r := h
 clear h
 replace H := Option.bind_eq_some_iff.mp H
 obtain ⟨t354, A20, H⟩ := H
 replace H : (if t354 = true then (some true) else ((cellarlaw8_Machines.f l0_3).bind fun t355 => (cellarlaw9_MemLoads.l0 k t355 0 l0_0 l0_1 l0_2 l0_3))) = some r := H
 have A2 := Aside0.mk A20
 clear A20
 by_cases c3 : t354 = true
 ·subst c3
  have H1 : (some true) = some r := by rw [if_pos rfl] at H; exact H
  clear H
  have H := H1
  clear H1
  obtain rfl := Option.some.inj H
  go_enter Try.func8, Try.ntmps8
  go_wp2_with (first | ((with_reducible refine gate_dst (N := 1) rfl ?_); refine zbox (N := 1) (cs := #[.slice A0_0 l0_0.length c0_0, .slice A0_1 l0_1.length c0_1, .slice A0_2 l0_2.length c0_2, .slice A0_3 l0_3.length c0_3]) (t := 54) ?_; intro gb353 hg w4 hbox hb; have n0_ := Aside0.mk (below_step (zw0 HB.out) hb); have BK353 := Aside0.mk (hbox); have GW353 := Aside0.mk (zg hg (below_size (zw0 HB.out))); have GE353 := GW353; clear HB; have HB := n0_; clear n0_; clear hb hbox hg; have hcz5_0 := zc BK353.out 0; have hcz5_1 := zc BK353.out 1; have hcz5_2 := zc BK353.out 2; have hcz5_3 := zc BK353.out 3; have hfz5_0 := blk_frozen BK353.out 0; have hfz5_1 := blk_frozen BK353.out 1; have hfz5_2 := blk_frozen BK353.out 2; have hfz5_3 := blk_frozen BK353.out 3) | ((with_reducible refine gate_callee (f := 25) rfl ?_); refine zgo (some 18) Try.func25 #[.agg #[.slice A0_0 l0_0.length c0_0, .slice A0_1 l0_1.length c0_1, .slice A0_2 l0_2.length c0_2, .slice A0_3 l0_3.length c0_3]] ?_; (with_reducible refine (cellarlaw9_Heavy.calls k _ _ l0_0 _ _ l0_1 _ _ l0_2 _ _ l0_3 true _ ?side1 ?side2 ?side3 ?side4 ?side5 ?side6 ?side7 ?side8 A2.out).mono ?_); (case side1 => repeat (first | exact (Kd.C_below HR0_0.out HB.out) | (with_reducible refine Kd.C_alloc ?_ _) | (with_reducible refine Kd.C_drewN ?_ _) | (with_reducible refine Kd.C_drew ?_))); (case side2 => exact HC0_0.out); (case side3 => repeat (first | exact (Kd.C_below HR0_1.out HB.out) | (with_reducible refine Kd.C_alloc ?_ _) | (with_reducible refine Kd.C_drewN ?_ _) | (with_reducible refine Kd.C_drew ?_))); (case side4 => exact HC0_1.out); (case side5 => repeat (first | exact (Kd.C_below HR0_2.out HB.out) | (with_reducible refine Kd.C_alloc ?_ _) | (with_reducible refine Kd.C_drewN ?_ _) | (with_reducible refine Kd.C_drew ?_))); (case side6 => exact HC0_2.out); (case side7 => repeat (first | exact (Kd.C_below HR0_3.out HB.out) | (with_reducible refine Kd.C_alloc ?_ _) | (with_reducible refine Kd.C_drewN ?_ _) | (with_reducible refine Kd.C_drew ?_))); (case side8 => exact HC0_3.out); rintro e w6 ⟨rfl, hb⟩; refine ⟨_, rfl, ?_⟩; have n0_ := Aside0.mk (zbb BK353.out hb); have n1_ := Aside0.mk (below_step (zw1 HB.out GE353.out) hb); clear BK353 HB; have BK353 := n0_; have HB := n1_; clear n0_ n1_; (try clear hb); (try clear hb2); (try clear hk); (try clear hi)))
  go_ret
  exact ⟨ze, zw1 HB.out GE353.out⟩
 ·replace c3 := Bool.eq_false_iff.mpr c3
  subst c3
  have H1 : ((cellarlaw8_Machines.f l0_3).bind fun t355 => (cellarlaw9_MemLoads.l0 k t355 0 l0_0 l0_1 l0_2 l0_3)) = some r := by rw [if_neg (show ¬ (false = true) by decide)] at H; exact H
  clear H
  have H := H1
  clear H1
  replace H := Option.bind_eq_some_iff.mp H
  obtain ⟨t355, A70, H⟩ := H
  replace H : (cellarlaw9_MemLoads.l0 k t355 0 l0_0 l0_1 l0_2 l0_3) = some r := H
  have A7 := Aside0.mk A70
  clear A70
  have H' := Aside0.mk H
  clear H
  go_enter Try.func8, Try.ntmps8
  go_wp2_with (first | ((with_reducible refine gate_dst (N := 1) rfl ?_); refine zbox (N := 1) (cs := #[.slice A0_0 l0_0.length c0_0, .slice A0_1 l0_1.length c0_1, .slice A0_2 l0_2.length c0_2, .slice A0_3 l0_3.length c0_3]) (t := 54) ?_; intro gb353 hg w8 hbox hb; have n0_ := Aside0.mk (below_step (zw0 HB.out) hb); have BK353 := Aside0.mk (hbox); have GW353 := Aside0.mk (zg hg (below_size (zw0 HB.out))); have GE353 := GW353; clear HB; have HB := n0_; clear n0_; clear hb hbox hg; have hcz9_0 := zc BK353.out 0; have hcz9_1 := zc BK353.out 1; have hcz9_2 := zc BK353.out 2; have hcz9_3 := zc BK353.out 3; have hfz9_0 := blk_frozen BK353.out 0; have hfz9_1 := blk_frozen BK353.out 1; have hfz9_2 := blk_frozen BK353.out 2; have hfz9_3 := blk_frozen BK353.out 3) | ((with_reducible refine gate_callee (f := 25) rfl ?_); refine zgo (some 18) Try.func25 #[.agg #[.slice A0_0 l0_0.length c0_0, .slice A0_1 l0_1.length c0_1, .slice A0_2 l0_2.length c0_2, .slice A0_3 l0_3.length c0_3]] ?_; (with_reducible refine (cellarlaw9_Heavy.calls k _ _ l0_0 _ _ l0_1 _ _ l0_2 _ _ l0_3 false _ ?side1 ?side2 ?side3 ?side4 ?side5 ?side6 ?side7 ?side8 A2.out).mono ?_); (case side1 => repeat (first | exact (Kd.C_below HR0_0.out HB.out) | (with_reducible refine Kd.C_alloc ?_ _) | (with_reducible refine Kd.C_drewN ?_ _) | (with_reducible refine Kd.C_drew ?_))); (case side2 => exact HC0_0.out); (case side3 => repeat (first | exact (Kd.C_below HR0_1.out HB.out) | (with_reducible refine Kd.C_alloc ?_ _) | (with_reducible refine Kd.C_drewN ?_ _) | (with_reducible refine Kd.C_drew ?_))); (case side4 => exact HC0_1.out); (case side5 => repeat (first | exact (Kd.C_below HR0_2.out HB.out) | (with_reducible refine Kd.C_alloc ?_ _) | (with_reducible refine Kd.C_drewN ?_ _) | (with_reducible refine Kd.C_drew ?_))); (case side6 => exact HC0_2.out); (case side7 => repeat (first | exact (Kd.C_below HR0_3.out HB.out) | (with_reducible refine Kd.C_alloc ?_ _) | (with_reducible refine Kd.C_drewN ?_ _) | (with_reducible refine Kd.C_drew ?_))); (case side8 => exact HC0_3.out); rintro e w10 ⟨rfl, hb⟩; refine ⟨_, rfl, ?_⟩; have n0_ := Aside0.mk (zbb BK353.out hb); have n1_ := Aside0.mk (below_step (zw1 HB.out GE353.out) hb); clear BK353 HB; have BK353 := n0_; have HB := n1_; clear n0_ n1_; (try clear hb); (try clear hb2); (try clear hk); (try clear hi); have hcz11_0 := zc BK353.out 0; have hcz11_1 := zc BK353.out 1; have hcz11_2 := zc BK353.out 2; have hcz11_3 := zc BK353.out 3; have hfz11_0 := blk_frozen BK353.out 0; have hfz11_1 := blk_frozen BK353.out 1; have hfz11_2 := blk_frozen BK353.out 2; have hfz11_3 := blk_frozen BK353.out 3) | ((with_reducible refine gate_callee (f := 26) rfl ?_); refine zgo (some 21) Try.func26 #[.slice A0_3 l0_3.length c0_3] ?_; (with_reducible refine (cellarlaw8_Machines.calls _ _ l0_3 t355 _ ?side1 ?side2 A7.out).mono ?_); (case side1 => repeat (first | exact (Kd.C_below HR0_3.out HB.out) | (with_reducible refine Kd.C_alloc ?_ _) | (with_reducible refine Kd.C_drewN ?_ _) | (with_reducible refine Kd.C_drew ?_))); (case side2 => exact HC0_3.out); rintro e w12 ⟨v356, rfl, ho0, hb⟩; refine ⟨_, rfl, ?_⟩; have HO357 := Aside0.mk (Kd.R_lower ho0 (below_size (zw1 HB.out GE353.out))); have n1_ := Aside0.mk (zbb BK353.out hb); have n2_ := Aside0.mk (below_step (zw1 HB.out GE353.out) hb); clear BK353 HB; have BK353 := n1_; have HB := n2_; clear n1_ n2_; (try clear hb); (try clear hb2); (try clear hk); (try clear hi); (try clear ho0)))
  go_loopg [4] k (fun kq v4 w' => ∃ (x4_1 : Int), v4 = .int .i64 x4_1 ∧ Aside0 (cellarlaw9_MemLoads.l0 kq t355 x4_1 l0_0 l0_1 l0_2 l0_3 = some r) ∧ Aside0 (kq ≤ k) ∧ Aside0 (Kd.R k29 29 w' w.heap.size (fun _ => True) v356 t355) ∧ Aside0 (w'.heap[gb353]? = some (.cells #[(.slice A0_0 l0_0.length c0_0), (.slice A0_1 l0_1.length c0_1), (.slice A0_2 l0_2.length c0_2), (.slice A0_3 l0_3.length c0_3)] 54 (0, 0))) ∧ Aside0 (Below w.heap.size w w'))
  case atStart => exact ⟨(0), (zr), H', ⟨Nat.le_refl _⟩, ⟨by (with_reducible repeat (first | apply Kd.R_alloc | apply Kd.R_drewN | apply Kd.R_drew)); exact HO357.out⟩, ⟨zb BK353.out⟩, ⟨zw1 HB.out GE353.out⟩⟩
  case round =>
   clear H'
   try clear c2
   try clear p2
   try clear c3
   try clear c8
   try clear hcz11_0
   try clear hcz11_1
   try clear hcz11_2
   try clear hcz11_3
   try clear hcz5_0
   try clear hcz5_1
   try clear hcz5_2
   try clear hcz5_3
   try clear hcz9_0
   try clear hcz9_1
   try clear hcz9_2
   try clear hcz9_3
   try clear hfz11_0
   try clear hfz11_1
   try clear hfz11_2
   try clear hfz11_3
   try clear hfz5_0
   try clear hfz5_1
   try clear hfz5_2
   try clear hfz5_3
   try clear hfz9_0
   try clear hfz9_1
   try clear hfz9_2
   try clear hfz9_3
   obtain ⟨x4_1, rfl, HA, HK1, HO_3, BK353, HB⟩ := hrel
   cases gk with
   | zero => exact absurd HA.out (by simp [cellarlaw9_MemLoads.l0])
   | succ k1 =>
    have H := HA.out
    clear HA
    simp only [cellarlaw9_MemLoads.l0] at H
    have HC13 := Aside0.mk H
    clear H
    go_upto_region 5 with (fail)
    go_cut [30] (fun v30 wc => ∃ (kq : Nat) (x30_12 : Bool), v30 = .bool x30_12 ∧ Aside0 (cellarlaw9_MemLoads.j1 kq t355 x4_1 x30_12 l0_0 l0_1 l0_2 l0_3 = some r) ∧ Aside0 (kq ≤ k1) ∧ Aside0 (Kd.R k29 29 wc w.heap.size (fun _ => True) v356 t355) ∧ Aside0 (wc.heap[gb353]? = some (.cells #[(.slice A0_0 l0_0.length c0_0), (.slice A0_1 l0_1.length c0_1), (.slice A0_2 l0_2.length c0_2), (.slice A0_3 l0_3.length c0_3)] 54 (0, 0))) ∧ Aside0 (Below w.heap.size w wc))
    case first =>
     have H := HC13.out
     clear HC13
     by_cases c14 : x4_1 < (l0_0.length : Int)
     rotate_left
     ·rw [if_neg c14] at H
      have c14b0 : decide (x4_1 < (l0_0.length : Int)) = false := decide_eq_false c14
      clear c14
      (first | rw [c14b0] | (simp only [i64_w, i32_w]; rw [c14b0]) | skip)
      have H' := Aside0.mk H
      clear H
      have hcz16_0 := zc BK353.out 0
      have hcz16_1 := zc BK353.out 1
      have hcz16_2 := zc BK353.out 2
      have hcz16_3 := zc BK353.out 3
      have hfz16_0 := blk_frozen BK353.out 0
      have hfz16_1 := blk_frozen BK353.out 1
      have hfz16_2 := blk_frozen BK353.out 2
      have hfz16_3 := blk_frozen BK353.out 3
      go_wp2
      go_meet
      case rel => exact ⟨_, (false), (zr), H', ⟨by have := HK1.out; first | omega | exact Nat.le_refl _⟩, ⟨by (with_reducible repeat (first | apply Kd.R_alloc | apply Kd.R_drewN | apply Kd.R_drew)); exact HO_3.out⟩, ⟨zb BK353.out⟩, ⟨zw1 HB.out GE353.out⟩⟩
     rw [if_pos c14] at H
     have c14b0 : decide (x4_1 < (l0_0.length : Int)) = true := decide_eq_true c14
     clear c14
     (first | rw [c14b0] | (simp only [i64_w, i32_w]; rw [c14b0]) | skip)
     have H' := Aside0.mk H
     clear H
     have hcz15_0 := zc BK353.out 0
     have hcz15_1 := zc BK353.out 1
     have hcz15_2 := zc BK353.out 2
     have hcz15_3 := zc BK353.out 3
     have hfz15_0 := blk_frozen BK353.out 0
     have hfz15_1 := blk_frozen BK353.out 1
     have hfz15_2 := blk_frozen BK353.out 2
     have hfz15_3 := blk_frozen BK353.out 3
     go_wp2
     go_meet
     case rel => exact ⟨_, (decide (x4_1 < 5)), (zr), H', ⟨by have := HK1.out; first | omega | exact Nat.le_refl _⟩, ⟨by (with_reducible repeat (first | apply Kd.R_alloc | apply Kd.R_drewN | apply Kd.R_drew)); exact HO_3.out⟩, ⟨zb BK353.out⟩, ⟨zw1 HB.out GE353.out⟩⟩
    case rest =>
     clear HC13
     try clear c1
     try clear c2
     try clear p2
     try clear c3
     try clear c8
     try clear c14
     try clear c14b0
     try clear hcz11_0
     try clear hcz11_1
     try clear hcz11_2
     try clear hcz11_3
     try clear hcz15_0
     try clear hcz15_1
     try clear hcz15_2
     try clear hcz15_3
     try clear hcz16_0
     try clear hcz16_1
     try clear hcz16_2
     try clear hcz16_3
     try clear hcz5_0
     try clear hcz5_1
     try clear hcz5_2
     try clear hcz5_3
     try clear hcz9_0
     try clear hcz9_1
     try clear hcz9_2
     try clear hcz9_3
     try clear hfz11_0
     try clear hfz11_1
     try clear hfz11_2
     try clear hfz11_3
     try clear hfz15_0
     try clear hfz15_1
     try clear hfz15_2
     try clear hfz15_3
     try clear hfz16_0
     try clear hfz16_1
     try clear hfz16_2
     try clear hfz16_3
     try clear hfz5_0
     try clear hfz5_1
     try clear hfz5_2
     try clear hfz5_3
     try clear hfz9_0
     try clear hfz9_1
     try clear hfz9_2
     try clear hfz9_3
     try clear p2
     obtain ⟨kq, x30_12, rfl, HA, HJ12, HO_3, BK353, HB⟩ := hcut
     cases kq with
     | zero => exact absurd HA.out (by simp [cellarlaw9_MemLoads.j1])
     | succ kj12 =>
      have H := HA.out
      clear HA
      simp only [cellarlaw9_MemLoads.j1] at H
      by_cases c17 : x30_12 = true
      ·subst c17
       have H1 : (if 0 ≤ x4_1 then (if x4_1 < (l0_0.length : Int) then ((cellarref0_CopyBlocks.f kj12 (rd_L4 l0_0 x4_1)).bind fun t360 => ((cellarref7_Mem.f kj12 (rd_L4 l0_0 x4_1)).bind fun t364 => ((mem_Check.f t360).bind fun t365 => ((cellarlaw9_num.f t365).bind fun t366 => (if ((t366 == 0) != t364) = true then (some false) else ((cellarlaw9_pointers.f kj12 l0_0 l0_1 l0_2 l0_3 t360).bind fun t367 => (cellarlaw9_MemLoads.l1 kj12 t355 x4_1 t360 t364 t367 0 l0_0 l0_1 l0_2 l0_3))))))) else (none)) else (none)) = some r := by rw [if_pos rfl] at H; exact H
       clear H
       have H := H1
       clear H1
       by_cases c18 : 0 ≤ x4_1
       rotate_left
       ·rw [if_neg c18] at H
        exact absurd H (by simp)
       rw [if_pos c18] at H
       have c18b0 : decide (0 ≤ x4_1) = true := decide_eq_true c18
       clear c18
       by_cases c19 : x4_1 < (l0_0.length : Int)
       rotate_left
       ·rw [if_neg c19] at H
        exact absurd H (by simp)
       rw [if_pos c19] at H
       have c19b0 : decide (x4_1 < (l0_0.length : Int)) = true := decide_eq_true c19
       clear c19
       replace H := Option.bind_eq_some_iff.mp H
       obtain ⟨t360, A200, H⟩ := H
       replace H : ((cellarref7_Mem.f kj12 (rd_L4 l0_0 x4_1)).bind fun t364 => ((mem_Check.f t360).bind fun t365 => ((cellarlaw9_num.f t365).bind fun t366 => (if ((t366 == 0) != t364) = true then (some false) else ((cellarlaw9_pointers.f kj12 l0_0 l0_1 l0_2 l0_3 t360).bind fun t367 => (cellarlaw9_MemLoads.l1 kj12 t355 x4_1 t360 t364 t367 0 l0_0 l0_1 l0_2 l0_3)))))) = some r := H
       have A20 := Aside0.mk A200
       clear A200
       replace H := Option.bind_eq_some_iff.mp H
       obtain ⟨t364, A210, H⟩ := H
       replace H : ((mem_Check.f t360).bind fun t365 => ((cellarlaw9_num.f t365).bind fun t366 => (if ((t366 == 0) != t364) = true then (some false) else ((cellarlaw9_pointers.f kj12 l0_0 l0_1 l0_2 l0_3 t360).bind fun t367 => (cellarlaw9_MemLoads.l1 kj12 t355 x4_1 t360 t364 t367 0 l0_0 l0_1 l0_2 l0_3))))) = some r := H
       have A21 := Aside0.mk A210
       clear A210
       replace H := Option.bind_eq_some_iff.mp H
       obtain ⟨t365, A220, H⟩ := H
       replace H : ((cellarlaw9_num.f t365).bind fun t366 => (if ((t366 == 0) != t364) = true then (some false) else ((cellarlaw9_pointers.f kj12 l0_0 l0_1 l0_2 l0_3 t360).bind fun t367 => (cellarlaw9_MemLoads.l1 kj12 t355 x4_1 t360 t364 t367 0 l0_0 l0_1 l0_2 l0_3)))) = some r := H
       have A22 := Aside0.mk A220
       clear A220
       replace H := Option.bind_eq_some_iff.mp H
       obtain ⟨t366, A230, H⟩ := H
       replace H : (if ((t366 == 0) != t364) = true then (some false) else ((cellarlaw9_pointers.f kj12 l0_0 l0_1 l0_2 l0_3 t360).bind fun t367 => (cellarlaw9_MemLoads.l1 kj12 t355 x4_1 t360 t364 t367 0 l0_0 l0_1 l0_2 l0_3))) = some r := H
       have A23 := Aside0.mk A230
       clear A230
       by_cases c24 : ((t366 == 0) != t364) = true
       ·rw [if_pos c24] at H
        have c24b0 : ((t366 == 0) != t364) = true := c24
        (try (have c24b1 : decide ((t366 == 0) = t364) = false := by simpa using c24))
        (try (have c24b2 : ((t366 == 0) == t364) = false := by simpa using c24))
        (try (have c24b3 : ¬ ((t366 == 0) = t364) := by simpa using c24))
        clear c24
        obtain rfl := Option.some.inj H
        have hcz25_0 := zc BK353.out 0
        have hcz25_1 := zc BK353.out 1
        have hcz25_2 := zc BK353.out 2
        have hcz25_3 := zc BK353.out 3
        have hfz25_0 := blk_frozen BK353.out 0
        have hfz25_1 := blk_frozen BK353.out 1
        have hfz25_2 := blk_frozen BK353.out 2
        have hfz25_3 := blk_frozen BK353.out 3
        have p359 : 0 ≤ (x4_1 : Int) := zdec
        have q359 : x4_1 < (l0_0.length : Int) := zdec
        obtain ⟨ad359, A359_0, c359_0, e359, hx359_0, hl359_0, hi359_0⟩ := at_L4 HR0_0.out x4_1 p359 q359
        cases e359
        replace hx359_0 := zh HB.out hx359_0
        have HR359_0 := Aside0.mk hi359_0
        have HC359_0 := Aside0.mk hl359_0
        clear hi359_0 hl359_0
        replace p359 := eq_true p359
        replace q359 := eq_true q359
        go_wp2_with (first | ((with_reducible refine gate_callee (f := 27) rfl ?_); refine zgo (some 38) Try.func27 #[.slice A359_0 (rd_L4 l0_0 x4_1).length c359_0] ?_; (with_reducible refine (cellarref0_CopyBlocks.calls kj12 _ _ (rd_L4 l0_0 x4_1) t360 _ ?side1 ?side2 A20.out).mono ?_); (case side1 => repeat (first | exact (Kd.C_below HR359_0.out HB.out) | (with_reducible refine Kd.C_alloc ?_ _) | (with_reducible refine Kd.C_drewN ?_ _) | (with_reducible refine Kd.C_drew ?_))); (case side2 => exact HC359_0.out); rintro e w26 ⟨v361, rfl, ho0, hb⟩; refine ⟨_, rfl, ?_⟩; have n0_ := Aside0.mk (Kd.R_below (by (with_reducible repeat (first | apply Kd.R_alloc | apply Kd.R_drewN | apply Kd.R_drew)); exact HO_3.out) hb); have HO362 := Aside0.mk (Kd.S_lower ho0 (below_size (zw1 HB.out GE353.out))); have n2_ := Aside0.mk (zbb BK353.out hb); have n3_ := Aside0.mk (below_step (zw1 HB.out GE353.out) hb); clear HO_3 BK353 HB; have HO_3 := n0_; have BK353 := n2_; have HB := n3_; clear n0_ n2_ n3_; (try clear hb); (try clear hb2); (try clear hk); (try clear hi); (try clear ho0); have hcz27_0 := zc BK353.out 0; have hcz27_1 := zc BK353.out 1; have hcz27_2 := zc BK353.out 2; have hcz27_3 := zc BK353.out 3; have hfz27_0 := blk_frozen BK353.out 0; have hfz27_1 := blk_frozen BK353.out 1; have hfz27_2 := blk_frozen BK353.out 2; have hfz27_3 := blk_frozen BK353.out 3; have p363 : 0 ≤ (x4_1 : Int) := zdec; have q363 : x4_1 < (l0_0.length : Int) := zdec; obtain ⟨ad363, A363_0, c363_0, e363, hx363_0, hl363_0, hi363_0⟩ := at_L4 HR0_0.out x4_1 p363 q363; obtain rfl : ad359 = ad363 := (by injection e363); replace hx363_0 := zh HB.out hx363_0; have HR363_0 := Aside0.mk hi363_0; have HC363_0 := Aside0.mk hl363_0; clear hi363_0 hl363_0; replace p363 := eq_true p363; replace q363 := eq_true q363) | ((with_reducible refine gate_callee (f := 28) rfl ?_); refine zgo (some 44) Try.func28 #[.slice A363_0 (rd_L4 l0_0 x4_1).length c363_0] ?_; (with_reducible refine (cellarref7_Mem.calls kj12 _ _ (rd_L4 l0_0 x4_1) t364 _ ?side1 ?side2 A21.out).mono ?_); (case side1 => repeat (first | exact (Kd.C_below HR363_0.out HB.out) | (with_reducible refine Kd.C_alloc ?_ _) | (with_reducible refine Kd.C_drewN ?_ _) | (with_reducible refine Kd.C_drew ?_))); (case side2 => exact HC363_0.out); rintro e w28 ⟨rfl, hb⟩; refine ⟨_, rfl, ?_⟩; have n0_ := Aside0.mk (Kd.R_below (by (with_reducible repeat (first | apply Kd.R_alloc | apply Kd.R_drewN | apply Kd.R_drew)); exact HO_3.out) hb); have n1_ := Aside0.mk (Kd.S_below (by (with_reducible repeat (first | apply Kd.S_alloc | apply Kd.S_drewN | apply Kd.S_drew)); exact HO362.out) hb); have n2_ := Aside0.mk (zbb BK353.out hb); have n3_ := Aside0.mk (below_step (zw1 HB.out GE353.out) hb); clear HO_3 HO362 BK353 HB; have HO_3 := n0_; have HO362 := n1_; have BK353 := n2_; have HB := n3_; clear n0_ n1_ n2_ n3_; (try clear hb); (try clear hb2); (try clear hk); (try clear hi); obtain ⟨Ao29, co29, eo29⟩ := Kd.S_slice HO362.out; subst eo29) | ((with_reducible refine gate_callee (f := 42) rfl ?_); refine zgo (some 46) Try.func42 #[.slice Ao29 t360.length co29] ?_; (with_reducible refine (mem_Check.calls _ _ t360 t365 _ ?side1 ?side2 A22.out).mono ?_); (case side1 => repeat (first | exact (Kd.S_reads' HO362.out).2.2 | (with_reducible refine Kd.C_alloc ?_ _) | (with_reducible refine Kd.C_drewN ?_ _) | (with_reducible refine Kd.C_drew ?_))); (case side2 => exact (Kd.S_reads' HO362.out).2.1); rintro e w30 ⟨rfl, hb⟩; refine ⟨_, rfl, ?_⟩; have n0_ := Aside0.mk (Kd.R_below (by (with_reducible repeat (first | apply Kd.R_alloc | apply Kd.R_drewN | apply Kd.R_drew)); exact HO_3.out) hb); have n1_ := Aside0.mk (Kd.S_below (by (with_reducible repeat (first | apply Kd.S_alloc | apply Kd.S_drewN | apply Kd.S_drew)); exact HO362.out) hb); have n2_ := Aside0.mk (zbb BK353.out hb); have n3_ := Aside0.mk (below_step (zw1 HB.out GE353.out) hb); clear HO_3 HO362 BK353 HB; have HO_3 := n0_; have HO362 := n1_; have BK353 := n2_; have HB := n3_; clear n0_ n1_ n2_ n3_; (try clear hb); (try clear hb2); (try clear hk); (try clear hi)) | ((with_reducible refine gate_callee (f := 35) rfl ?_); refine zgo (some 47) Try.func35 #[.int .i64 t365] ?_; (with_reducible refine (cellarlaw9_num.calls t365 t366 _ A23.out).mono ?_); rintro e w' ⟨rfl, ⟨nd, rfl⟩⟩; refine ⟨_, rfl, ?_⟩))
        go_ret
        exact ⟨ze, zw1 HB.out GE353.out⟩
       rw [if_neg c24] at H
       have c24b0 : ((t366 == 0) != t364) = false := by simpa using c24
       (try (have c24b1 : decide ((t366 == 0) = t364) = true := by simpa using c24))
       (try (have c24b2 : ((t366 == 0) == t364) = true := by simpa using c24))
       clear c24
       replace H := Option.bind_eq_some_iff.mp H
       obtain ⟨t367, A310, H⟩ := H
       replace H : (cellarlaw9_MemLoads.l1 kj12 t355 x4_1 t360 t364 t367 0 l0_0 l0_1 l0_2 l0_3) = some r := H
       have A31 := Aside0.mk A310
       clear A310
       have H' := Aside0.mk H
       clear H
       have hcz32_0 := zc BK353.out 0
       have hcz32_1 := zc BK353.out 1
       have hcz32_2 := zc BK353.out 2
       have hcz32_3 := zc BK353.out 3
       have hfz32_0 := blk_frozen BK353.out 0
       have hfz32_1 := blk_frozen BK353.out 1
       have hfz32_2 := blk_frozen BK353.out 2
       have hfz32_3 := blk_frozen BK353.out 3
       have p359 : 0 ≤ (x4_1 : Int) := zdec
       have q359 : x4_1 < (l0_0.length : Int) := zdec
       obtain ⟨ad359, A359_0, c359_0, e359, hx359_0, hl359_0, hi359_0⟩ := at_L4 HR0_0.out x4_1 p359 q359
       cases e359
       replace hx359_0 := zh HB.out hx359_0
       have HR359_0 := Aside0.mk hi359_0
       have HC359_0 := Aside0.mk hl359_0
       clear hi359_0 hl359_0
       replace p359 := eq_true p359
       replace q359 := eq_true q359
       go_wp2_with (first | ((with_reducible refine gate_callee (f := 27) rfl ?_); refine zgo (some 38) Try.func27 #[.slice A359_0 (rd_L4 l0_0 x4_1).length c359_0] ?_; (with_reducible refine (cellarref0_CopyBlocks.calls kj12 _ _ (rd_L4 l0_0 x4_1) t360 _ ?side1 ?side2 A20.out).mono ?_); (case side1 => repeat (first | exact (Kd.C_below HR359_0.out HB.out) | (with_reducible refine Kd.C_alloc ?_ _) | (with_reducible refine Kd.C_drewN ?_ _) | (with_reducible refine Kd.C_drew ?_))); (case side2 => exact HC359_0.out); rintro e w33 ⟨v361, rfl, ho0, hb⟩; refine ⟨_, rfl, ?_⟩; have n0_ := Aside0.mk (Kd.R_below (by (with_reducible repeat (first | apply Kd.R_alloc | apply Kd.R_drewN | apply Kd.R_drew)); exact HO_3.out) hb); have HO362 := Aside0.mk (Kd.S_lower ho0 (below_size (zw1 HB.out GE353.out))); have n2_ := Aside0.mk (zbb BK353.out hb); have n3_ := Aside0.mk (below_step (zw1 HB.out GE353.out) hb); clear HO_3 BK353 HB; have HO_3 := n0_; have BK353 := n2_; have HB := n3_; clear n0_ n2_ n3_; (try clear hb); (try clear hb2); (try clear hk); (try clear hi); (try clear ho0); have hcz34_0 := zc BK353.out 0; have hcz34_1 := zc BK353.out 1; have hcz34_2 := zc BK353.out 2; have hcz34_3 := zc BK353.out 3; have hfz34_0 := blk_frozen BK353.out 0; have hfz34_1 := blk_frozen BK353.out 1; have hfz34_2 := blk_frozen BK353.out 2; have hfz34_3 := blk_frozen BK353.out 3; have p363 : 0 ≤ (x4_1 : Int) := zdec; have q363 : x4_1 < (l0_0.length : Int) := zdec; obtain ⟨ad363, A363_0, c363_0, e363, hx363_0, hl363_0, hi363_0⟩ := at_L4 HR0_0.out x4_1 p363 q363; obtain rfl : ad359 = ad363 := (by injection e363); replace hx363_0 := zh HB.out hx363_0; have HR363_0 := Aside0.mk hi363_0; have HC363_0 := Aside0.mk hl363_0; clear hi363_0 hl363_0; replace p363 := eq_true p363; replace q363 := eq_true q363) | ((with_reducible refine gate_callee (f := 28) rfl ?_); refine zgo (some 44) Try.func28 #[.slice A363_0 (rd_L4 l0_0 x4_1).length c363_0] ?_; (with_reducible refine (cellarref7_Mem.calls kj12 _ _ (rd_L4 l0_0 x4_1) t364 _ ?side1 ?side2 A21.out).mono ?_); (case side1 => repeat (first | exact (Kd.C_below HR363_0.out HB.out) | (with_reducible refine Kd.C_alloc ?_ _) | (with_reducible refine Kd.C_drewN ?_ _) | (with_reducible refine Kd.C_drew ?_))); (case side2 => exact HC363_0.out); rintro e w35 ⟨rfl, hb⟩; refine ⟨_, rfl, ?_⟩; have n0_ := Aside0.mk (Kd.R_below (by (with_reducible repeat (first | apply Kd.R_alloc | apply Kd.R_drewN | apply Kd.R_drew)); exact HO_3.out) hb); have n1_ := Aside0.mk (Kd.S_below (by (with_reducible repeat (first | apply Kd.S_alloc | apply Kd.S_drewN | apply Kd.S_drew)); exact HO362.out) hb); have n2_ := Aside0.mk (zbb BK353.out hb); have n3_ := Aside0.mk (below_step (zw1 HB.out GE353.out) hb); clear HO_3 HO362 BK353 HB; have HO_3 := n0_; have HO362 := n1_; have BK353 := n2_; have HB := n3_; clear n0_ n1_ n2_ n3_; (try clear hb); (try clear hb2); (try clear hk); (try clear hi); obtain ⟨Ao36, co36, eo36⟩ := Kd.S_slice HO362.out; subst eo36) | ((with_reducible refine gate_callee (f := 42) rfl ?_); refine zgo (some 46) Try.func42 #[.slice Ao36 t360.length co36] ?_; (with_reducible refine (mem_Check.calls _ _ t360 t365 _ ?side1 ?side2 A22.out).mono ?_); (case side1 => repeat (first | exact (Kd.S_reads' HO362.out).2.2 | (with_reducible refine Kd.C_alloc ?_ _) | (with_reducible refine Kd.C_drewN ?_ _) | (with_reducible refine Kd.C_drew ?_))); (case side2 => exact (Kd.S_reads' HO362.out).2.1); rintro e w37 ⟨rfl, hb⟩; refine ⟨_, rfl, ?_⟩; have n0_ := Aside0.mk (Kd.R_below (by (with_reducible repeat (first | apply Kd.R_alloc | apply Kd.R_drewN | apply Kd.R_drew)); exact HO_3.out) hb); have n1_ := Aside0.mk (Kd.S_below (by (with_reducible repeat (first | apply Kd.S_alloc | apply Kd.S_drewN | apply Kd.S_drew)); exact HO362.out) hb); have n2_ := Aside0.mk (zbb BK353.out hb); have n3_ := Aside0.mk (below_step (zw1 HB.out GE353.out) hb); clear HO_3 HO362 BK353 HB; have HO_3 := n0_; have HO362 := n1_; have BK353 := n2_; have HB := n3_; clear n0_ n1_ n2_ n3_; (try clear hb); (try clear hb2); (try clear hk); (try clear hi)) | ((with_reducible refine gate_callee (f := 35) rfl ?_); refine zgo (some 47) Try.func35 #[.int .i64 t365] ?_; (with_reducible refine (cellarlaw9_num.calls t365 t366 _ A23.out).mono ?_); rintro e w' ⟨rfl, ⟨nd, rfl⟩⟩; refine ⟨_, rfl, ?_⟩; have hcz38_0 := zc BK353.out 0; have hcz38_1 := zc BK353.out 1; have hcz38_2 := zc BK353.out 2; have hcz38_3 := zc BK353.out 3; have hfz38_0 := blk_frozen BK353.out 0; have hfz38_1 := blk_frozen BK353.out 1; have hfz38_2 := blk_frozen BK353.out 2; have hfz38_3 := blk_frozen BK353.out 3) | ((with_reducible refine gate_callee (f := 29) rfl ?_); refine zgo (some 53) Try.func29 #[.agg #[.slice (some ad359) l0_0.length c0_0, .slice A0_1 l0_1.length c0_1, .slice A0_2 l0_2.length c0_2, .slice A0_3 l0_3.length c0_3], .slice Ao36 t360.length co36] ?_; (with_reducible refine (cellarlaw9_pointers.calls kj12 _ _ l0_0 _ _ l0_1 _ _ l0_2 _ _ l0_3 _ _ t360 t367 _ ?side1 ?side2 ?side3 ?side4 ?side5 ?side6 ?side7 ?side8 ?side9 ?side10 A31.out).mono ?_); (case side1 => repeat (first | exact (Kd.C_below HR0_0.out (zw1 HB.out GE353.out)) | (with_reducible refine Kd.C_alloc ?_ _) | (with_reducible refine Kd.C_drewN ?_ _) | (with_reducible refine Kd.C_drew ?_))); (case side2 => exact HC0_0.out); (case side3 => repeat (first | exact (Kd.C_below HR0_1.out (zw1 HB.out GE353.out)) | (with_reducible refine Kd.C_alloc ?_ _) | (with_reducible refine Kd.C_drewN ?_ _) | (with_reducible refine Kd.C_drew ?_))); (case side4 => exact HC0_1.out); (case side5 => repeat (first | exact (Kd.C_below HR0_2.out (zw1 HB.out GE353.out)) | (with_reducible refine Kd.C_alloc ?_ _) | (with_reducible refine Kd.C_drewN ?_ _) | (with_reducible refine Kd.C_drew ?_))); (case side6 => exact HC0_2.out); (case side7 => repeat (first | exact (Kd.C_below HR0_3.out (zw1 HB.out GE353.out)) | (with_reducible refine Kd.C_alloc ?_ _) | (with_reducible refine Kd.C_drewN ?_ _) | (with_reducible refine Kd.C_drew ?_))); (case side8 => exact HC0_3.out); (case side9 => repeat (first | exact (Kd.S_reads' HO362.out).2.2 | (with_reducible refine Kd.C_alloc ?_ _) | (with_reducible refine Kd.C_drewN ?_ _) | (with_reducible refine Kd.C_drew ?_))); (case side10 => exact (Kd.S_reads' HO362.out).2.1); rintro e w39 ⟨v368, rfl, ho0, hb⟩; refine ⟨_, rfl, ?_⟩; have n0_ := Aside0.mk (Kd.R_below (by (with_reducible repeat (first | apply Kd.R_alloc | apply Kd.R_drewN | apply Kd.R_drew)); exact HO_3.out) hb); have n1_ := Aside0.mk (Kd.S_below (by (with_reducible repeat (first | apply Kd.S_alloc | apply Kd.S_drewN | apply Kd.S_drew)); exact HO362.out) hb); have HO369 := Aside0.mk (Kd.R_lower ho0 (below_size (zw1 HB.out GE353.out))); have n3_ := Aside0.mk (zbb BK353.out hb); have n4_ := Aside0.mk (below_step (zw1 HB.out GE353.out) hb); clear HO_3 HO362 BK353 HB; have HO_3 := n0_; have HO362 := n1_; have BK353 := n3_; have HB := n4_; clear n0_ n1_ n3_ n4_; (try clear hb); (try clear hb2); (try clear hk); (try clear hi); (try clear ho0)))
       go_loopg [8] kj12 (fun kq v8 w' => ∃ (x8_3 : Int), v8 = .int .i64 x8_3 ∧ Aside0 (cellarlaw9_MemLoads.l1 kq t355 x4_1 t360 t364 t367 x8_3 l0_0 l0_1 l0_2 l0_3 = some r) ∧ Aside0 (kq ≤ kj12) ∧ Aside0 (Kd.R k29 29 w' w.heap.size (fun _ => True) v356 t355) ∧ Aside0 (Kd.S k76 76 w' w.heap.size (fun _ => True) (.slice Ao36 t360.length co36) t360) ∧ Aside0 (Kd.R k62 62 w' w.heap.size (fun _ => True) v368 t367) ∧ Aside0 (w'.heap[gb353]? = some (.cells #[(.slice (some ad359) l0_0.length c0_0), (.slice A0_1 l0_1.length c0_1), (.slice A0_2 l0_2.length c0_2), (.slice A0_3 l0_3.length c0_3)] 54 (0, 0))) ∧ Aside0 (Below w.heap.size w w'))
       case atStart => exact ⟨(0), (zr), H', ⟨Nat.le_refl _⟩, ⟨by (with_reducible repeat (first | apply Kd.R_alloc | apply Kd.R_drewN | apply Kd.R_drew)); exact HO_3.out⟩, ⟨by (with_reducible repeat (first | apply Kd.S_alloc | apply Kd.S_drewN | apply Kd.S_drew)); exact HO362.out⟩, ⟨by (with_reducible repeat (first | apply Kd.R_alloc | apply Kd.R_drewN | apply Kd.R_drew)); exact HO369.out⟩, ⟨zb BK353.out⟩, ⟨zw1 HB.out GE353.out⟩⟩
       case round =>
        clear H'
        try clear c1
        try clear c2
        try clear p2
        try clear c3
        try clear p3
        try clear q3
        try clear hx3
        try clear c4
        try clear c8
        try clear c14
        try clear c14b0
        try clear c17
        try clear c18
        try clear c18b0
        try clear c19
        try clear c19b0
        try clear c24
        try clear c24b0
        try clear c24b1
        try clear c24b2
        try clear c25
        try clear c26
        try clear c27
        try clear c28
        try clear c29
        try clear c35
        try clear p35
        try clear q35
        try clear hx35
        try clear c36
        try clear p36
        try clear q36
        try clear hx36
        try clear hcz11_0
        try clear hcz11_1
        try clear hcz11_2
        try clear hcz11_3
        try clear hcz15_0
        try clear hcz15_1
        try clear hcz15_2
        try clear hcz15_3
        try clear hcz16_0
        try clear hcz16_1
        try clear hcz16_2
        try clear hcz16_3
        try clear hcz25_0
        try clear hcz25_1
        try clear hcz25_2
        try clear hcz25_3
        try clear hcz27_0
        try clear hcz27_1
        try clear hcz27_2
        try clear hcz27_3
        try clear hcz32_0
        try clear hcz32_1
        try clear hcz32_2
        try clear hcz32_3
        try clear hcz34_0
        try clear hcz34_1
        try clear hcz34_2
        try clear hcz34_3
        try clear hcz38_0
        try clear hcz38_1
        try clear hcz38_2
        try clear hcz38_3
        try clear hcz5_0
        try clear hcz5_1
        try clear hcz5_2
        try clear hcz5_3
        try clear hcz9_0
        try clear hcz9_1
        try clear hcz9_2
        try clear hcz9_3
        try clear hfz11_0
        try clear hfz11_1
        try clear hfz11_2
        try clear hfz11_3
        try clear hfz15_0
        try clear hfz15_1
        try clear hfz15_2
        try clear hfz15_3
        try clear hfz16_0
        try clear hfz16_1
        try clear hfz16_2
        try clear hfz16_3
        try clear hfz25_0
        try clear hfz25_1
        try clear hfz25_2
        try clear hfz25_3
        try clear hfz27_0
        try clear hfz27_1
        try clear hfz27_2
        try clear hfz27_3
        try clear hfz32_0
        try clear hfz32_1
        try clear hfz32_2
        try clear hfz32_3
        try clear hfz34_0
        try clear hfz34_1
        try clear hfz34_2
        try clear hfz34_3
        try clear hfz38_0
        try clear hfz38_1
        try clear hfz38_2
        try clear hfz38_3
        try clear hfz5_0
        try clear hfz5_1
        try clear hfz5_2
        try clear hfz5_3
        try clear hfz9_0
        try clear hfz9_1
        try clear hfz9_2
        try clear hfz9_3
        try clear hx359_0
        try clear hx363_0
        try clear p2
        try clear p359
        try clear p363
        try clear q359
        try clear q363
        obtain ⟨x8_3, rfl, HA, HK3, HO_3, HO_5, HO_7, BK353, HB⟩ := hrel
        cases gk with
        | zero => exact absurd HA.out (by simp [cellarlaw9_MemLoads.l1])
        | succ k3 =>
         have H := HA.out
         clear HA
         simp only [cellarlaw9_MemLoads.l1] at H
         by_cases c40 : x8_3 < (t367.length : Int)
         rotate_left
         ·rw [if_neg c40] at H
          have c40b0 : decide (x8_3 < (t367.length : Int)) = false := decide_eq_false c40
          clear c40
          by_cases c121 : 0 ≤ x4_1
          rotate_left
          ·rw [if_neg c121] at H
           exact absurd H (by simp)
          rw [if_pos c121] at H
          have c121b0 : decide (0 ≤ x4_1) = true := decide_eq_true c121
          clear c121
          by_cases c122 : x4_1 < (l0_0.length : Int)
          rotate_left
          ·rw [if_neg c122] at H
           exact absurd H (by simp)
          rw [if_pos c122] at H
          have c122b0 : decide (x4_1 < (l0_0.length : Int)) = true := decide_eq_true c122
          clear c122
          replace H := Option.bind_eq_some_iff.mp H
          obtain ⟨t393, A1230, H⟩ := H
          replace H : (if t393 = true then (cellarlaw9_MemLoads.l0 k3 t355 (wrap64 (x4_1 + 1)) l0_0 l0_1 l0_2 l0_3) else (some false)) = some r := H
          have A123 := Aside0.mk A1230
          clear A1230
          by_cases c124 : t393 = true
          rotate_left
          ·replace c124 := Bool.eq_false_iff.mpr c124
           subst c124
           have H1 : (some false) = some r := by rw [if_neg (show ¬ (false = true) by decide)] at H; exact H
           clear H
           have H := H1
           clear H1
           obtain rfl := Option.some.inj H
           obtain ⟨Ao128, co128, eo128⟩ := Kd.R_slice HO_7.out
           subst eo128
           have hcz129_0 := zc BK353.out 0
           have hcz129_1 := zc BK353.out 1
           have hcz129_2 := zc BK353.out 2
           have hcz129_3 := zc BK353.out 3
           have hfz129_0 := blk_frozen BK353.out 0
           have hfz129_1 := blk_frozen BK353.out 1
           have hfz129_2 := blk_frozen BK353.out 2
           have hfz129_3 := blk_frozen BK353.out 3
           have p392 : 0 ≤ (x4_1 : Int) := zdec
           have q392 : x4_1 < (l0_0.length : Int) := zdec
           obtain ⟨ad392, A392_0, c392_0, e392, hx392_0, hl392_0, hi392_0⟩ := at_L4 HR0_0.out x4_1 p392 q392
           obtain rfl : ad359 = ad392 := (by injection e392)
           replace hx392_0 := zh HB.out hx392_0
           have HR392_0 := Aside0.mk hi392_0
           have HC392_0 := Aside0.mk hl392_0
           clear hi392_0 hl392_0
           replace p392 := eq_true p392
           replace q392 := eq_true q392
           go_wp2_with (first | ((with_reducible refine gate_callee (f := 36) rfl ?_); refine zgo (some 134) Try.func36 #[.slice Ao36 t360.length co36, .slice A392_0 (rd_L4 l0_0 x4_1).length c392_0] ?_; (with_reducible refine (cellarref0_EqBlocks.calls k3 _ _ t360 _ _ (rd_L4 l0_0 x4_1) false _ ?side1 ?side2 ?side3 ?side4 A123.out).mono ?_); (case side1 => repeat (first | exact (Kd.S_reads' HO_5.out).2.2 | (with_reducible refine Kd.C_alloc ?_ _) | (with_reducible refine Kd.C_drewN ?_ _) | (with_reducible refine Kd.C_drew ?_))); (case side2 => exact (Kd.S_reads' HO_5.out).2.1); (case side3 => repeat (first | exact (Kd.C_below HR392_0.out HB.out) | (with_reducible refine Kd.C_alloc ?_ _) | (with_reducible refine Kd.C_drewN ?_ _) | (with_reducible refine Kd.C_drew ?_))); (case side4 => exact HC392_0.out); rintro e w130 ⟨rfl, hb⟩; refine ⟨_, rfl, ?_⟩; have n0_ := Aside0.mk (Kd.R_below (by (with_reducible repeat (first | apply Kd.R_alloc | apply Kd.R_drewN | apply Kd.R_drew)); exact HO_3.out) hb); have n1_ := Aside0.mk (Kd.S_below (by (with_reducible repeat (first | apply Kd.S_alloc | apply Kd.S_drewN | apply Kd.S_drew)); exact HO_5.out) hb); have n2_ := Aside0.mk (Kd.R_below (by (with_reducible repeat (first | apply Kd.R_alloc | apply Kd.R_drewN | apply Kd.R_drew)); exact HO_7.out) hb); have n3_ := Aside0.mk (zbb BK353.out hb); have n4_ := Aside0.mk (below_step (zw1 HB.out GE353.out) hb); clear HO_3 HO_5 HO_7 BK353 HB; have HO_3 := n0_; have HO_5 := n1_; have HO_7 := n2_; have BK353 := n3_; have HB := n4_; clear n0_ n1_ n2_ n3_ n4_; (try clear hb); (try clear hb2); (try clear hk); (try clear hi)))
           go_ret
           exact ⟨ze, zw1 HB.out GE353.out⟩
          subst c124
          have H1 : (cellarlaw9_MemLoads.l0 k3 t355 (wrap64 (x4_1 + 1)) l0_0 l0_1 l0_2 l0_3) = some r := by rw [if_pos rfl] at H; exact H
          clear H
          have H := H1
          clear H1
          have H' := Aside0.mk H
          clear H
          obtain ⟨Ao125, co125, eo125⟩ := Kd.R_slice HO_7.out
          subst eo125
          have hcz126_0 := zc BK353.out 0
          have hcz126_1 := zc BK353.out 1
          have hcz126_2 := zc BK353.out 2
          have hcz126_3 := zc BK353.out 3
          have hfz126_0 := blk_frozen BK353.out 0
          have hfz126_1 := blk_frozen BK353.out 1
          have hfz126_2 := blk_frozen BK353.out 2
          have hfz126_3 := blk_frozen BK353.out 3
          have p392 : 0 ≤ (x4_1 : Int) := zdec
          have q392 : x4_1 < (l0_0.length : Int) := zdec
          obtain ⟨ad392, A392_0, c392_0, e392, hx392_0, hl392_0, hi392_0⟩ := at_L4 HR0_0.out x4_1 p392 q392
          obtain rfl : ad359 = ad392 := (by injection e392)
          replace hx392_0 := zh HB.out hx392_0
          have HR392_0 := Aside0.mk hi392_0
          have HC392_0 := Aside0.mk hl392_0
          clear hi392_0 hl392_0
          replace p392 := eq_true p392
          replace q392 := eq_true q392
          go_wp2_with (first | ((with_reducible refine gate_callee (f := 36) rfl ?_); refine zgo (some 134) Try.func36 #[.slice Ao36 t360.length co36, .slice A392_0 (rd_L4 l0_0 x4_1).length c392_0] ?_; (with_reducible refine (cellarref0_EqBlocks.calls k3 _ _ t360 _ _ (rd_L4 l0_0 x4_1) true _ ?side1 ?side2 ?side3 ?side4 A123.out).mono ?_); (case side1 => repeat (first | exact (Kd.S_reads' HO_5.out).2.2 | (with_reducible refine Kd.C_alloc ?_ _) | (with_reducible refine Kd.C_drewN ?_ _) | (with_reducible refine Kd.C_drew ?_))); (case side2 => exact (Kd.S_reads' HO_5.out).2.1); (case side3 => repeat (first | exact (Kd.C_below HR392_0.out HB.out) | (with_reducible refine Kd.C_alloc ?_ _) | (with_reducible refine Kd.C_drewN ?_ _) | (with_reducible refine Kd.C_drew ?_))); (case side4 => exact HC392_0.out); rintro e w127 ⟨rfl, hb⟩; refine ⟨_, rfl, ?_⟩; have n0_ := Aside0.mk (Kd.R_below (by (with_reducible repeat (first | apply Kd.R_alloc | apply Kd.R_drewN | apply Kd.R_drew)); exact HO_3.out) hb); have n1_ := Aside0.mk (Kd.S_below (by (with_reducible repeat (first | apply Kd.S_alloc | apply Kd.S_drewN | apply Kd.S_drew)); exact HO_5.out) hb); have n2_ := Aside0.mk (Kd.R_below (by (with_reducible repeat (first | apply Kd.R_alloc | apply Kd.R_drewN | apply Kd.R_drew)); exact HO_7.out) hb); have n3_ := Aside0.mk (zbb BK353.out hb); have n4_ := Aside0.mk (below_step (zw1 HB.out GE353.out) hb); clear HO_3 HO_5 HO_7 BK353 HB; have HO_3 := n0_; have HO_5 := n1_; have HO_7 := n2_; have BK353 := n3_; have HB := n4_; clear n0_ n1_ n2_ n3_ n4_; (try clear hb); (try clear hb2); (try clear hk); (try clear hi)))
          go_roundg k3
          case measure => have := HK1.out; have := HJ12.out; have := HK3.out; omega
          case rel => exact ⟨(wrap64 (x4_1 + 1)), (zr), H', ⟨by have := HK1.out; have := HJ12.out; have := HK3.out; omega⟩, ⟨by (with_reducible repeat (first | apply Kd.R_alloc | apply Kd.R_drewN | apply Kd.R_drew)); exact HO_3.out⟩, ⟨zb BK353.out⟩, ⟨zw1 HB.out GE353.out⟩⟩
         rw [if_pos c40] at H
         have c40b0 : decide (x8_3 < (t367.length : Int)) = true := decide_eq_true c40
         clear c40
         have H' := Aside0.mk H
         clear H
         obtain ⟨Ao41, co41, eo41⟩ := Kd.R_slice HO_7.out
         subst eo41
         go_wp2
         go_loopg [9] k3 (fun kq v9 w' => ∃ (x9_4 : Int), v9 = .int .i64 x9_4 ∧ Aside0 (cellarlaw9_MemLoads.l2 kq t355 x4_1 t360 t364 t367 x8_3 x9_4 l0_0 l0_1 l0_2 l0_3 = some r) ∧ Aside0 (kq ≤ k3) ∧ Aside0 (Kd.R k29 29 w' w.heap.size (fun _ => True) v356 t355) ∧ Aside0 (Kd.S k76 76 w' w.heap.size (fun _ => True) (.slice Ao36 t360.length co36) t360) ∧ Aside0 (Kd.R k62 62 w' w.heap.size (fun _ => True) (.slice Ao41 t367.length co41) t367) ∧ Aside0 (w'.heap[gb353]? = some (.cells #[(.slice (some ad359) l0_0.length c0_0), (.slice A0_1 l0_1.length c0_1), (.slice A0_2 l0_2.length c0_2), (.slice A0_3 l0_3.length c0_3)] 54 (0, 0))) ∧ Aside0 (Below w.heap.size w w'))
         case atStart => exact ⟨(0), (zr), H', ⟨Nat.le_refl _⟩, ⟨by (with_reducible repeat (first | apply Kd.R_alloc | apply Kd.R_drewN | apply Kd.R_drew)); exact HO_3.out⟩, ⟨by (with_reducible repeat (first | apply Kd.S_alloc | apply Kd.S_drewN | apply Kd.S_drew)); exact HO_5.out⟩, ⟨by (with_reducible repeat (first | apply Kd.R_alloc | apply Kd.R_drewN | apply Kd.R_drew)); exact HO_7.out⟩, ⟨zb BK353.out⟩, ⟨zw1 HB.out GE353.out⟩⟩
         case round =>
          clear H'
          try clear c1
          try clear c2
          try clear p2
          try clear c3
          try clear p3
          try clear q3
          try clear hx3
          try clear c4
          try clear c8
          try clear c14
          try clear c14b0
          try clear c17
          try clear c18
          try clear c18b0
          try clear c19
          try clear c19b0
          try clear c24
          try clear c24b0
          try clear c24b1
          try clear c24b2
          try clear c25
          try clear c26
          try clear c27
          try clear c28
          try clear c29
          try clear c35
          try clear p35
          try clear q35
          try clear hx35
          try clear c36
          try clear p36
          try clear q36
          try clear hx36
          try clear c40
          try clear c40b0
          try clear hcz11_0
          try clear hcz11_1
          try clear hcz11_2
          try clear hcz11_3
          try clear hcz15_0
          try clear hcz15_1
          try clear hcz15_2
          try clear hcz15_3
          try clear hcz16_0
          try clear hcz16_1
          try clear hcz16_2
          try clear hcz16_3
          try clear hcz25_0
          try clear hcz25_1
          try clear hcz25_2
          try clear hcz25_3
          try clear hcz27_0
          try clear hcz27_1
          try clear hcz27_2
          try clear hcz27_3
          try clear hcz32_0
          try clear hcz32_1
          try clear hcz32_2
          try clear hcz32_3
          try clear hcz34_0
          try clear hcz34_1
          try clear hcz34_2
          try clear hcz34_3
          try clear hcz38_0
          try clear hcz38_1
          try clear hcz38_2
          try clear hcz38_3
          try clear hcz5_0
          try clear hcz5_1
          try clear hcz5_2
          try clear hcz5_3
          try clear hcz9_0
          try clear hcz9_1
          try clear hcz9_2
          try clear hcz9_3
          try clear hfz11_0
          try clear hfz11_1
          try clear hfz11_2
          try clear hfz11_3
          try clear hfz15_0
          try clear hfz15_1
          try clear hfz15_2
          try clear hfz15_3
          try clear hfz16_0
          try clear hfz16_1
          try clear hfz16_2
          try clear hfz16_3
          try clear hfz25_0
          try clear hfz25_1
          try clear hfz25_2
          try clear hfz25_3
          try clear hfz27_0
          try clear hfz27_1
          try clear hfz27_2
          try clear hfz27_3
          try clear hfz32_0
          try clear hfz32_1
          try clear hfz32_2
          try clear hfz32_3
          try clear hfz34_0
          try clear hfz34_1
          try clear hfz34_2
          try clear hfz34_3
          try clear hfz38_0
          try clear hfz38_1
          try clear hfz38_2
          try clear hfz38_3
          try clear hfz5_0
          try clear hfz5_1
          try clear hfz5_2
          try clear hfz5_3
          try clear hfz9_0
          try clear hfz9_1
          try clear hfz9_2
          try clear hfz9_3
          try clear hx359_0
          try clear hx363_0
          try clear p2
          try clear p3
          try clear p35
          try clear p359
          try clear p36
          try clear p363
          try clear q3
          try clear q35
          try clear q359
          try clear q36
          try clear q363
          obtain ⟨x9_4, rfl, HA, HK4, HO_3, HO_5, HO_7, BK353, HB⟩ := hrel
          cases gk with
          | zero => exact absurd HA.out (by simp [cellarlaw9_MemLoads.l2])
          | succ k4 =>
           have H := HA.out
           clear HA
           simp only [cellarlaw9_MemLoads.l2] at H
           by_cases c42 : x9_4 ≤ 11
           rotate_left
           ·rw [if_neg c42] at H
            have c42b0 : decide (x9_4 ≤ 11) = false := decide_eq_false c42
            clear c42
            have H' := Aside0.mk H
            clear H
            go_wp2
            go_roundg k4
            case measure => have := HK1.out; have := HJ12.out; have := HK3.out; have := HK4.out; omega
            case rel => exact ⟨(wrap64 (x8_3 + 1)), (zr), H', ⟨by have := HK1.out; have := HJ12.out; have := HK3.out; have := HK4.out; omega⟩, ⟨by (with_reducible repeat (first | apply Kd.R_alloc | apply Kd.R_drewN | apply Kd.R_drew)); exact HO_3.out⟩, ⟨by (with_reducible repeat (first | apply Kd.S_alloc | apply Kd.S_drewN | apply Kd.S_drew)); exact HO_5.out⟩, ⟨by (with_reducible repeat (first | apply Kd.R_alloc | apply Kd.R_drewN | apply Kd.R_drew)); exact HO_7.out⟩, ⟨zb BK353.out⟩, ⟨zw1 HB.out GE353.out⟩⟩
           rw [if_pos c42] at H
           have c42b0 : decide (x9_4 ≤ 11) = true := decide_eq_true c42
           clear c42
           by_cases c43 : (t355.length : Int) = 0
           ·rw [if_pos c43] at H
            exact absurd H (by simp)
           rw [if_neg c43] at H
           have c43b0 : ((t355.length : Int) == 0) = false := beq_eq_false_iff_ne.mpr c43
           have c43b1 : ((t355.length : Int) != 0) = true := bne_iff_ne.mpr c43
           have c43b2 : ¬ (t355 = []) := fun h_ => c43 (by rw [h_]; rfl)
           obtain ⟨ji44, hji44⟩ : ∃ j_ : Int, (Int.tmod (wrap64 (x8_3 + x9_4)) (t355.length : Int)) = j_ := ⟨_, rfl⟩
           replace H : (if 0 ≤ (ji44) then (if (ji44) < (t355.length : Int) then (if 0 ≤ x8_3 then (if x8_3 < (t367.length : Int) then ((mem_Load.f k4 ((rd_T29 t355 (ji44)).f0) ((rd_T29 t355 (ji44)).f1) t360 ((rd_T62 t367 x8_3).f0) ((rd_T62 t367 x8_3).f1) ((rd_T62 t367 x8_3).f2) ((rd_T62 t367 x8_3).f3) x9_4).bind fun bt373 => (if t364 = true then ((cellarref1_Abi.f ((rd_T29 t355 (ji44)).f0) ((rd_T29 t355 (ji44)).f1)).bind fun t381 => (if t381 = true then ((cellarref1_Kind.f x9_4).bind fun t382 => (if t382 = true then ((cellarref7_Pointer.f k4 t360 ((rd_T62 t367 x8_3).f0) ((rd_T62 t367 x8_3).f1) ((rd_T62 t367 x8_3).f2) ((rd_T62 t367 x8_3).f3)).bind fun t384 => (cellarlaw9_MemLoads.j4 k4 t355 x4_1 t360 t364 t367 x8_3 x9_4 bt373.2.2.2.2.1 bt373.2.2.2.2.2 1 0 t384 l0_0 l0_1 l0_2 l0_3 ((rd_T29 t355 (ji44)).f0) ((rd_T29 t355 (ji44)).f1) bt373.1 bt373.2.1 bt373.2.2.1 bt373.2.2.2.1 false 0 0 0)) else (cellarlaw9_MemLoads.j4 k4 t355 x4_1 t360 t364 t367 x8_3 x9_4 bt373.2.2.2.2.1 bt373.2.2.2.2.2 1 0 false l0_0 l0_1 l0_2 l0_3 ((rd_T29 t355 (ji44)).f0) ((rd_T29 t355 (ji44)).f1) bt373.1 bt373.2.1 bt373.2.2.1 bt373.2.2.2.1 false 0 0 0))) else (cellarlaw9_MemLoads.j4 k4 t355 x4_1 t360 t364 t367 x8_3 x9_4 bt373.2.2.2.2.1 bt373.2.2.2.2.2 1 0 false l0_0 l0_1 l0_2 l0_3 ((rd_T29 t355 (ji44)).f0) ((rd_T29 t355 (ji44)).f1) bt373.1 bt373.2.1 bt373.2.2.1 bt373.2.2.2.1 false 0 0 0))) else (cellarlaw9_MemLoads.j4 k4 t355 x4_1 t360 t364 t367 x8_3 x9_4 bt373.2.2.2.2.1 bt373.2.2.2.2.2 1 0 false l0_0 l0_1 l0_2 l0_3 ((rd_T29 t355 (ji44)).f0) ((rd_T29 t355 (ji44)).f1) bt373.1 bt373.2.1 bt373.2.2.1 bt373.2.2.2.1 false 0 0 0))) else (none)) else (none)) else (none)) else (none)) = some r := by first | (rw [hji44] at H; exact H) | (simp only [hji44] at H ⊢; exact H)
           by_cases c45 : 0 ≤ (ji44)
           rotate_left
           ·rw [if_neg c45] at H
            exact absurd H (by simp)
           rw [if_pos c45] at H
           have c45b0 : decide (0 ≤ (ji44)) = true := decide_eq_true c45
           clear c45
           by_cases c46 : (ji44) < (t355.length : Int)
           rotate_left
           ·rw [if_neg c46] at H
            exact absurd H (by simp)
           rw [if_pos c46] at H
           have c46b0 : decide ((ji44) < (t355.length : Int)) = true := decide_eq_true c46
           clear c46
           by_cases c47 : 0 ≤ x8_3
           rotate_left
           ·rw [if_neg c47] at H
            exact absurd H (by simp)
           rw [if_pos c47] at H
           have c47b0 : decide (0 ≤ x8_3) = true := decide_eq_true c47
           clear c47
           by_cases c48 : x8_3 < (t367.length : Int)
           rotate_left
           ·rw [if_neg c48] at H
            exact absurd H (by simp)
           rw [if_pos c48] at H
           have c48b0 : decide (x8_3 < (t367.length : Int)) = true := decide_eq_true c48
           clear c48
           replace H := Option.bind_eq_some_iff.mp H
           obtain ⟨⟨t373, t374, t375, t376, t377, t378⟩, A490, H⟩ := H
           replace H : (if t364 = true then ((cellarref1_Abi.f ((rd_T29 t355 (ji44)).f0) ((rd_T29 t355 (ji44)).f1)).bind fun t381 => (if t381 = true then ((cellarref1_Kind.f x9_4).bind fun t382 => (if t382 = true then ((cellarref7_Pointer.f k4 t360 ((rd_T62 t367 x8_3).f0) ((rd_T62 t367 x8_3).f1) ((rd_T62 t367 x8_3).f2) ((rd_T62 t367 x8_3).f3)).bind fun t384 => (cellarlaw9_MemLoads.j4 k4 t355 x4_1 t360 t364 t367 x8_3 x9_4 t377 t378 1 0 t384 l0_0 l0_1 l0_2 l0_3 ((rd_T29 t355 (ji44)).f0) ((rd_T29 t355 (ji44)).f1) t373 t374 t375 t376 false 0 0 0)) else (cellarlaw9_MemLoads.j4 k4 t355 x4_1 t360 t364 t367 x8_3 x9_4 t377 t378 1 0 false l0_0 l0_1 l0_2 l0_3 ((rd_T29 t355 (ji44)).f0) ((rd_T29 t355 (ji44)).f1) t373 t374 t375 t376 false 0 0 0))) else (cellarlaw9_MemLoads.j4 k4 t355 x4_1 t360 t364 t367 x8_3 x9_4 t377 t378 1 0 false l0_0 l0_1 l0_2 l0_3 ((rd_T29 t355 (ji44)).f0) ((rd_T29 t355 (ji44)).f1) t373 t374 t375 t376 false 0 0 0))) else (cellarlaw9_MemLoads.j4 k4 t355 x4_1 t360 t364 t367 x8_3 x9_4 t377 t378 1 0 false l0_0 l0_1 l0_2 l0_3 ((rd_T29 t355 (ji44)).f0) ((rd_T29 t355 (ji44)).f1) t373 t374 t375 t376 false 0 0 0)) = some r := H
           have A49 := Aside0.mk A490
           clear A490
           have HC50 := Aside0.mk H
           clear H
           obtain ⟨Ao51, co51, eo51⟩ := Kd.R_slice HO_3.out
           subst eo51
           have p370 : 0 ≤ ((ji44) : Int) := zdec
           have q370 : (ji44) < (t355.length : Int) := zdec
           obtain ⟨ad370, e370, hx370_0, hx370_1⟩ := at_T29 (Kd.R_reads' HO_3.out).2.2 (ji44) p370 q370
           cases e370
           replace p370 := eq_true p370
           replace q370 := eq_true q370
           try go_wp2_with (first | ((with_reducible refine gate_dst (N := 10) rfl ?_); refine zbox (N := 10) (cs := #[.bool false, .int .i64 0]) (t := 29) ?_; intro gb371 hg w52 hbox hb; have n0_ := Aside0.mk (Kd.R_below (Kd.R_elderB (by (with_reducible repeat (first | apply Kd.R_alloc | apply Kd.R_drewN | apply Kd.R_drew)); exact HO_3.out) gb371 (Nat.le_of_eq hg.symm)) hb); have n1_ := Aside0.mk (Kd.S_below (by (with_reducible repeat (first | apply Kd.S_alloc | apply Kd.S_drewN | apply Kd.S_drew)); exact HO_5.out) hb); have n2_ := Aside0.mk (Kd.R_below (by (with_reducible repeat (first | apply Kd.R_alloc | apply Kd.R_drewN | apply Kd.R_drew)); exact HO_7.out) hb); have n3_ := Aside0.mk (zbb BK353.out hb); have n4_ := Aside0.mk (below_step (zw1 HB.out GE353.out) hb); have BK371 := Aside0.mk (hbox); have GW371 := Aside0.mk (zg hg (below_size (zw1 HB.out GE353.out))); have GE371 := GW371; have NB353_371 := Aside0.mk (zlt hg BK353.out); have NB371_353 := Aside0.mk (zgt hg BK353.out); clear HO_3 HO_5 HO_7 BK353 HB; have HO_3 := n0_; have HO_5 := n1_; have HO_7 := n2_; have BK353 := n3_; have HB := n4_; clear n0_ n1_ n2_ n3_ n4_; clear hb hbox hg; have hnb53 := NB371_353.out; have hnc53 := NB353_371.out; have hcz54_0 := zc BK371.out 0; have hcz54_1 := zc BK371.out 1; have hfz54_0 := blk_frozen BK371.out 0; have hfz54_1 := blk_frozen BK371.out 1))
           have n0_ : Aside0 (Kd.R k29 29 ((w52.setCell ⟨gb371, 0, none⟩ (.bool ((rd_T29 t355 (ji44)).f0))).setCell ⟨gb371, 1, none⟩ (.int .i64 ((rd_T29 t355 (ji44)).f1))) w.heap.size (fun k_ => k_ ≠ gb371) (.slice (some ad370) t355.length co51) t355) := ⟨by (with_reducible repeat (first | apply Kd.R_alloc | apply Kd.R_drewN | apply Kd.R_drew)); exact Kd.R_mono (Kd.R_far (p := ⟨gb371, 1, none⟩) (Kd.R_far (p := ⟨gb371, 0, none⟩) (Kd.R_mono HO_3.out (fun k_ hk => (⟨hk, hk.2⟩ : _ ∧ k_ ≠ gb371))) (fun _ hk => hk.2) (.bool ((rd_T29 t355 (ji44)).f0))) (fun _ hk => hk.2) (.int .i64 ((rd_T29 t355 (ji44)).f1))) (fun _ hk => hk.1.2)⟩
           have n1_ : Aside0 (Kd.S k76 76 ((w52.setCell ⟨gb371, 0, none⟩ (.bool ((rd_T29 t355 (ji44)).f0))).setCell ⟨gb371, 1, none⟩ (.int .i64 ((rd_T29 t355 (ji44)).f1))) w.heap.size (fun _ => True) (.slice Ao36 t360.length co36) t360) := ⟨by (with_reducible repeat (first | apply Kd.S_alloc | apply Kd.S_drewN | apply Kd.S_drew)); exact Kd.S_mono (Kd.S_far (p := ⟨gb371, 1, none⟩) (Kd.S_far (p := ⟨gb371, 0, none⟩) (Kd.S_types HO_5.out BK371.out (by decide)) (fun _ hk => hk.2) (.bool ((rd_T29 t355 (ji44)).f0))) (fun _ hk => hk.2) (.int .i64 ((rd_T29 t355 (ji44)).f1))) (fun _ hk => trivial)⟩
           have n2_ : Aside0 (Kd.R k62 62 ((w52.setCell ⟨gb371, 0, none⟩ (.bool ((rd_T29 t355 (ji44)).f0))).setCell ⟨gb371, 1, none⟩ (.int .i64 ((rd_T29 t355 (ji44)).f1))) w.heap.size (fun _ => True) (.slice Ao41 t367.length co41) t367) := ⟨by (with_reducible repeat (first | apply Kd.R_alloc | apply Kd.R_drewN | apply Kd.R_drew)); exact Kd.R_mono (Kd.R_far (p := ⟨gb371, 1, none⟩) (Kd.R_far (p := ⟨gb371, 0, none⟩) (Kd.R_types HO_7.out BK371.out (by decide)) (fun _ hk => hk.2) (.bool ((rd_T29 t355 (ji44)).f0))) (fun _ hk => hk.2) (.int .i64 ((rd_T29 t355 (ji44)).f1))) (fun _ hk => trivial)⟩
           have n3_ : Aside0 (((w52.setCell ⟨gb371, 0, none⟩ (.bool ((rd_T29 t355 (ji44)).f0))).setCell ⟨gb371, 1, none⟩ (.int .i64 ((rd_T29 t355 (ji44)).f1))).heap[gb353]? = some (.cells #[.slice (some ad359) l0_0.length c0_0, .slice A0_1 l0_1.length c0_1, .slice A0_2 l0_2.length c0_2, .slice A0_3 l0_3.length c0_3] 54 (0, 0))) := ⟨zf1 BK353.out NB353_371.out⟩
           have n4_ : Aside0 (((w52.setCell ⟨gb371, 0, none⟩ (.bool ((rd_T29 t355 (ji44)).f0))).setCell ⟨gb371, 1, none⟩ (.int .i64 ((rd_T29 t355 (ji44)).f1))).heap[gb371]? = some (.cells #[.bool ((rd_T29 t355 (ji44)).f0), .int .i64 ((rd_T29 t355 (ji44)).f1)] 29 (0, 0))) := ⟨by (with_reducible repeat (first | refine blk_drewN ?_ _ | refine blk_drew ?_ | refine blk_alloc ?_ _)); refine blk_put (cs := #[.bool ((rd_T29 t355 (ji44)).f0), .int .i64 0]) ?_ 1 _ rfl; (with_reducible repeat (first | refine blk_drewN ?_ _ | refine blk_drew ?_ | refine blk_alloc ?_ _)); refine blk_put (cs := #[.bool false, .int .i64 0]) ?_ 0 _ rfl; (with_reducible repeat (first | refine blk_drewN ?_ _ | refine blk_drew ?_ | refine blk_alloc ?_ _)); exact BK371.out⟩
           have n5_ : Aside0 (Below w.heap.size w ((w52.setCell ⟨gb371, 0, none⟩ (.bool ((rd_T29 t355 (ji44)).f0))).setCell ⟨gb371, 1, none⟩ (.int .i64 ((rd_T29 t355 (ji44)).f1)))) := ⟨zw2 HB.out GE353.out GE371.out⟩
           (try clear HO_3)
           (try clear HO_5)
           (try clear HO_7)
           (try clear BK353)
           (try clear BK371)
           (try clear HB)
           generalize ((w52.setCell ⟨gb371, 0, none⟩ (.bool ((rd_T29 t355 (ji44)).f0))).setCell ⟨gb371, 1, none⟩ (.int .i64 ((rd_T29 t355 (ji44)).f1))) = w55 at n0_ n1_ n2_ n3_ n4_ n5_ ⊢
           have HO_3 := n0_
           have HO_5 := n1_
           have HO_7 := n2_
           have BK353 := n3_
           have BK371 := n4_
           have HB := n5_
           clear n0_ n1_ n2_ n3_ n4_ n5_
           have n0_ := Aside0.mk (Kd.R_drew HO_3.out)
           have n1_ := Aside0.mk (Kd.S_drew HO_5.out)
           have n2_ := Aside0.mk (Kd.R_drew HO_7.out)
           have n3_ := Aside0.mk (blk_drew BK353.out)
           have n4_ := Aside0.mk (blk_drew BK371.out)
           have n5_ := Aside0.mk (below_drew1 HB.out)
           clear HO_3
           clear HO_5
           clear HO_7
           clear BK353
           clear BK371
           clear HB
           have HO_3 := n0_
           have HO_5 := n1_
           have HO_7 := n2_
           have BK353 := n3_
           have BK371 := n4_
           have HB := n5_
           clear n0_ n1_ n2_ n3_ n4_ n5_
           have p372 : 0 ≤ (x8_3 : Int) := zdec
           have q372 : x8_3 < (t367.length : Int) := zdec
           obtain ⟨ad372, e372, hx372_0, hx372_1, hx372_2, hx372_3⟩ := at_T62 (Kd.R_reads' HO_7.out).2.2 x8_3 p372 q372
           cases e372
           replace p372 := eq_true p372
           replace q372 := eq_true q372
           refine start_ (n := 16) (S := fun w' => w'.cell? ⟨gb371, 0, none⟩ = some (.bool ((rd_T29 t355 (ji44)).f0)) ∧ w'.cell? ⟨gb371, 1, none⟩ = some (.int .i64 ((rd_T29 t355 (ji44)).f1)) ∧ w'.cell? (ad372.add ((x8_3).toNat * 4)) = some (.bool ((rd_T62 t367 x8_3).f0)) ∧ w'.cell? ⟨(ad372.add ((x8_3).toNat * 4)).block, (ad372.add ((x8_3).toNat * 4)).off + 1, none⟩ = some (.int .i64 ((rd_T62 t367 x8_3).f1)) ∧ w'.cell? ⟨(ad372.add ((x8_3).toNat * 4)).block, (ad372.add ((x8_3).toNat * 4)).off + 2, none⟩ = some (.int .i64 ((rd_T62 t367 x8_3).f2)) ∧ w'.cell? ⟨(ad372.add ((x8_3).toNat * 4)).block, (ad372.add ((x8_3).toNat * 4)).off + 3, none⟩ = some (.int .i64 ((rd_T62 t367 x8_3).f3))) (ds := []) cellarlaw9_MemLoads.b0 (by kernel_rfl) rfl rfl ⟨(blk_cell BK371.out 0).trans rfl, (blk_cell BK371.out 1).trans rfl, hx372_0, hx372_1, hx372_2, hx372_3⟩ (fun hHeld => ?_); refine with_tabW cellarlaw9_MemLoads.tab19 cellarlaw9_MemLoads.bits19 (fun HT_ HW_ => ?_)
           generalize w55.drew = w56 at HO_3 HO_5 HO_7 BK353 BK371 HB hx372_0 hx372_1 hx372_2 hx372_3 hHeld ⊢
           refine zp (i := 1) (N := some 75) cellarlaw9_MemLoads.b1 (any_of HT_.out (by kernel_rfl)) ?_
           refine zp (i := 2) (N := some 76) cellarlaw9_MemLoads.b2 (any_of HT_.out (by kernel_rfl)) ?_
           refine zp (i := 3) (N := some 77) cellarlaw9_MemLoads.b3 (any_of HT_.out (by kernel_rfl)) ?_
           refine zp (i := 4) (N := some 78) cellarlaw9_MemLoads.b4 (any_of HT_.out (by kernel_rfl)) ?_
           refine zp (i := 6) (N := some 80) cellarlaw9_MemLoads.b5 (any_of HT_.out (by kernel_rfl)) ?_
           refine take_ (i := 0) (N := some 74) (v := ?_) (a' := ?_) cellarlaw9_MemLoads.b6 rfl rfl (take_ofW HT_.out HW_.out (by kernel_rfl)) (fun _ _ _ h => h) (Or.inl ⟨by rfl, ?_⟩) hHeld ?_ ?_
           rotate_left
           ·rintro w' ⟨s0, s1, s2, s3, s4, s5⟩
            go_simp
            with_reducible rfl
           rotate_left
           ·simp only [Act.put, List.setIfInBounds_toArray, List.set_cons_zero, List.set_cons_succ, i64_w, i32_w]
            rfl
           refine take_ (i := 5) (N := some 79) (v := ?_) (a' := ?_) cellarlaw9_MemLoads.b7 rfl rfl (take_ofW HT_.out HW_.out (by kernel_rfl)) (fun _ _ _ h => h) (Or.inl ⟨by rfl, ?_⟩) hHeld ?_ ?_
           rotate_left
           ·rintro w' ⟨s0, s1, s2, s3, s4, s5⟩
            go_simp
            with_reducible rfl
           rotate_left
           ·simp only [Act.put, List.setIfInBounds_toArray, List.set_cons_zero, List.set_cons_succ, i64_w, i32_w]
            rfl
           refine join_ (σ := Nat) 3 cellarlaw9_MemLoads.b8 (fun s_ => [(81, .tuple #[.agg #[.bool t373, .int .i64 t374, .int .i64 t375, .int .i64 t376], .int .i64 t377, .int .i64 t378]), (11, .pointer (some ⟨s_, 0, none⟩)), (73, .tuple #[.agg #[.bool t373, .int .i64 t374, .int .i64 t375, .int .i64 t376], .int .i64 t377, .int .i64 t378]), (82, .agg #[.bool t373, .int .i64 t374, .int .i64 t375, .int .i64 t376]), (83, .int .i64 t377), (84, .int .i64 t378)]) (fun s_ w' => (w'.cell? ⟨gb371, 0, none⟩ = some (.bool ((rd_T29 t355 (ji44)).f0)) ∧ w'.cell? ⟨gb371, 1, none⟩ = some (.int .i64 ((rd_T29 t355 (ji44)).f1)) ∧ w'.cell? (ad372.add ((x8_3).toNat * 4)) = some (.bool ((rd_T62 t367 x8_3).f0)) ∧ w'.cell? ⟨(ad372.add ((x8_3).toNat * 4)).block, (ad372.add ((x8_3).toNat * 4)).off + 1, none⟩ = some (.int .i64 ((rd_T62 t367 x8_3).f1)) ∧ w'.cell? ⟨(ad372.add ((x8_3).toNat * 4)).block, (ad372.add ((x8_3).toNat * 4)).off + 2, none⟩ = some (.int .i64 ((rd_T62 t367 x8_3).f2)) ∧ w'.cell? ⟨(ad372.add ((x8_3).toNat * 4)).block, (ad372.add ((x8_3).toNat * 4)).off + 3, none⟩ = some (.int .i64 ((rd_T62 t367 x8_3).f3))) ∧ (Kd.R k29 29 w' w.heap.size (fun k_ => k_ ≠ gb371) (.slice (some ad370) t355.length co51) t355) ∧ (Kd.S k76 76 w' w.heap.size (fun _ => True) (.slice Ao36 t360.length co36) t360) ∧ (Kd.R k62 62 w' w.heap.size (fun k_ => k_ ≠ s_) (.slice (some ad372) t367.length co41) t367) ∧ (w'.heap[gb353]? = some (.cells #[.slice (some ad359) l0_0.length c0_0, .slice A0_1 l0_1.length c0_1, .slice A0_2 l0_2.length c0_2, .slice A0_3 l0_3.length c0_3] 54 (0, 0))) ∧ (w'.heap[gb371]? = some (.cells #[.bool ((rd_T29 t355 (ji44)).f0), .int .i64 ((rd_T29 t355 (ji44)).f1)] 29 (0, 0))) ∧ (w'.heap[s_]? = some (.cells #[.bool false, .int .i64 0, .int .i64 0, .int .i64 0] 62 (0, 0))) ∧ (w.heap.size ≤ s_) ∧ (w.heap.size ≤ s_) ∧ (gb353 ≠ s_) ∧ (s_ ≠ gb353) ∧ (gb371 ≠ s_) ∧ (s_ ≠ gb371) ∧ (Below w.heap.size w w')) ?_ ?_
           rotate_left
           ·intro hCont
            refine two_ (i := 7) (j := 12) (Ni := some 81) (Nj := some 11) cellarlaw9_MemLoads.b9 cellarlaw9_MemLoads.b10 rfl rfl rfl rfl (two_of HT_.out (by kernel_rfl)) (by decide) (by decide) (fun K hK => ?_) (fun K hK => ?_)
            ·skip
             refine goes_ Try.func39 (by kernel_rfl) rfl #[.agg #[.bool ((rd_T29 t355 (ji44)).f0), .int .i64 ((rd_T29 t355 (ji44)).f1)], .slice Ao36 t360.length co36, .agg #[.bool ((rd_T62 t367 x8_3).f0), .int .i64 ((rd_T62 t367 x8_3).f1), .int .i64 ((rd_T62 t367 x8_3).f2), .int .i64 ((rd_T62 t367 x8_3).f3)], .int .i64 x9_4] (by rfl) rfl rfl (by (try simp only [List.map_toArray, List.map_cons, List.map_nil]); first | done | (simp only [hji44]; rfl) | rfl | (simp only [List.length_drop, List.length_take]; rfl)) ?_
             with_reducible refine (mem_Load.calls k4 ((rd_T29 t355 (ji44)).f0) ((rd_T29 t355 (ji44)).f1) _ _ t360 ((rd_T62 t367 x8_3).f0) ((rd_T62 t367 x8_3).f1) ((rd_T62 t367 x8_3).f2) ((rd_T62 t367 x8_3).f3) x9_4 t373 t374 t375 t376 t377 t378 _ ?side1 ?side2 A49.out).mono ?_
             (case side1 => repeat (first | exact (Kd.S_reads' HO_5.out).2.2 | (with_reducible refine Kd.C_alloc ?_ _) | (with_reducible refine Kd.C_drewN ?_ _) | (with_reducible refine Kd.C_drew ?_)))
             (case side2 => exact (Kd.S_reads' HO_5.out).2.1)
             rintro e w57 ⟨rfl, hb⟩
             have HS2_ := (hb.cell (World.block_lt_of_cell? _ _ (hHeld.2.2.1))).trans (hHeld.2.2.1)
             have HS3_ := (hb.cell (World.block_lt_of_cell? _ _ (hHeld.2.2.2.1))).trans (hHeld.2.2.2.1)
             have HS4_ := (hb.cell (World.block_lt_of_cell? _ _ (hHeld.2.2.2.2.1))).trans (hHeld.2.2.2.2.1)
             have HS5_ := (hb.cell (World.block_lt_of_cell? _ _ (hHeld.2.2.2.2.2))).trans (hHeld.2.2.2.2.2)
             refine ⟨_, rfl, ?_⟩
             have n0_ := Aside0.mk (Kd.R_below (by (with_reducible repeat (first | apply Kd.R_alloc | apply Kd.R_drewN | apply Kd.R_drew)); exact HO_3.out) hb)
             have n1_ := Aside0.mk (Kd.S_below (by (with_reducible repeat (first | apply Kd.S_alloc | apply Kd.S_drewN | apply Kd.S_drew)); exact HO_5.out) hb)
             have n2_ := Aside0.mk (Kd.R_below (by (with_reducible repeat (first | apply Kd.R_alloc | apply Kd.R_drewN | apply Kd.R_drew)); exact HO_7.out) hb)
             have n3_ := Aside0.mk (zbb BK353.out hb)
             have n4_ := Aside0.mk (zbb BK371.out hb)
             have n5_ := Aside0.mk (below_step (zw2 HB.out GE353.out GE371.out) hb)
             clear HO_3
             clear HO_5
             clear HO_7
             clear BK353
             clear BK371
             clear HB
             have HO_3 := n0_
             have HO_5 := n1_
             have HO_7 := n2_
             have BK353 := n3_
             have BK371 := n4_
             have HB := n5_
             clear n0_ n1_ n2_ n3_ n4_ n5_
             (try clear hb)
             (try clear hb2)
             (try clear hk)
             (try clear hi)
             refine hK.out _ _ ⟨(blk_cell BK371.out 0).trans rfl, (blk_cell BK371.out 1).trans rfl, HS2_, HS3_, HS4_, HS5_⟩ (fun hHeld => ?_)
             clear hK K
             refine norm_ (a' := ?_) ?_ ?_
             rotate_left
             ·show Act.put _ (some 81) _ = _
              simp only [Act.put, List.setIfInBounds_toArray, List.set_cons_zero, List.set_cons_succ, i64_w, i32_w]
              rfl
             refine zp (i := 8) (N := some 73) cellarlaw9_MemLoads.b11 (any_of HT_.out (by kernel_rfl)) ?_
             refine zp (i := 9) (N := some 82) cellarlaw9_MemLoads.b12 (any_of HT_.out (by kernel_rfl)) ?_
             refine zp (i := 10) (N := some 83) cellarlaw9_MemLoads.b13 (any_of HT_.out (by kernel_rfl)) ?_
             refine zp (i := 11) (N := some 84) cellarlaw9_MemLoads.b14 (any_of HT_.out (by kernel_rfl)) ?_
             refine one_ (i := 12) (N := some 11) cellarlaw9_MemLoads.b8 rfl rfl (one_of HT_.out (by kernel_rfl)) (by decide) (fun K hK => ?_)
             refine box_step ?hg (N := 11) ?hd (cs := #[.bool false, .int .i64 0, .int .i64 0, .int .i64 0]) (t := 62) ?hr ?_; (case hd => rfl); (case hg => rfl); (case hr => first | (go_simp; done) | (go_simp; rfl))
             intro gb379 hg w58 hbox hb
             have HS2_ := (hb.cell (World.block_lt_of_cell? _ _ (hHeld.2.2.1))).trans (hHeld.2.2.1)
             have HS3_ := (hb.cell (World.block_lt_of_cell? _ _ (hHeld.2.2.2.1))).trans (hHeld.2.2.2.1)
             have HS4_ := (hb.cell (World.block_lt_of_cell? _ _ (hHeld.2.2.2.2.1))).trans (hHeld.2.2.2.2.1)
             have HS5_ := (hb.cell (World.block_lt_of_cell? _ _ (hHeld.2.2.2.2.2))).trans (hHeld.2.2.2.2.2)
             have n0_ := Aside0.mk (Kd.R_below (by (with_reducible repeat (first | apply Kd.R_alloc | apply Kd.R_drewN | apply Kd.R_drew)); exact HO_3.out) hb)
             have n1_ := Aside0.mk (Kd.S_below (by (with_reducible repeat (first | apply Kd.S_alloc | apply Kd.S_drewN | apply Kd.S_drew)); exact HO_5.out) hb)
             have n2_ := Aside0.mk (Kd.R_below (Kd.R_elderB (by (with_reducible repeat (first | apply Kd.R_alloc | apply Kd.R_drewN | apply Kd.R_drew)); exact HO_7.out) gb379 (Nat.le_of_eq hg.symm)) hb)
             have n3_ := Aside0.mk (zbb BK353.out hb)
             have n4_ := Aside0.mk (zbb BK371.out hb)
             have n5_ := Aside0.mk (below_step (zw2 HB.out GE353.out GE371.out) hb)
             have n6_ := Aside0.mk (hbox)
             have n7_ := Aside0.mk (zg hg (below_size (zw2 HB.out GE353.out GE371.out)))
             have n8_ := Aside0.mk (zg hg (below_size (zw2 HB.out GE353.out GE371.out)))
             have n9_ := Aside0.mk (zlt hg BK353.out)
             have n10_ := Aside0.mk (zgt hg BK353.out)
             have n11_ := Aside0.mk (zlt hg BK371.out)
             have n12_ := Aside0.mk (zgt hg BK371.out)
             clear HO_3
             clear HO_5
             clear HO_7
             clear BK353
             clear BK371
             clear HB
             have HO_3 := n0_
             have HO_5 := n1_
             have HO_7 := n2_
             have BK353 := n3_
             have BK371 := n4_
             have HB := n5_
             have BK379 := n6_
             have GW379 := n7_
             have GE379 := n8_
             have NB353_379 := n9_
             have NB379_353 := n10_
             have NB371_379 := n11_
             have NB379_371 := n12_
             clear n0_ n1_ n2_ n3_ n4_ n5_ n6_ n7_ n8_ n9_ n10_ n11_ n12_
             clear hb hbox hg
             refine hK.out _ _ ⟨(blk_cell BK371.out 0).trans rfl, (blk_cell BK371.out 1).trans rfl, HS2_, HS3_, HS4_, HS5_⟩ (fun hHeld => ?_)
             clear hK K
             refine norm_ (a' := ?_) ?_ ?_
             rotate_left
             ·show Act.put _ (some 11) _ = _
              simp only [Act.put, List.setIfInBounds_toArray, List.set_cons_zero, List.set_cons_succ, i64_w, i32_w]
              rfl
             exact norm_ (by simp only [putAll, Act.put, List.setIfInBounds_toArray, List.set_cons_zero, List.set_cons_succ]) (hCont (gb379) _ ⟨hHeld, (by (with_reducible repeat (first | apply Kd.R_alloc | apply Kd.R_drewN | apply Kd.R_drew)); exact HO_3.out), (by (with_reducible repeat (first | apply Kd.S_alloc | apply Kd.S_drewN | apply Kd.S_drew)); exact HO_5.out), (by (with_reducible repeat (first | apply Kd.R_alloc | apply Kd.R_drewN | apply Kd.R_drew)); exact Kd.R_mono HO_7.out (fun _ hk => hk.2)), (zb BK353.out), (zb BK371.out), (zb BK379.out), GW379.out, GE379.out, NB353_379.out, NB379_353.out, NB371_379.out, NB379_371.out, (zw3 HB.out GE353.out GE371.out GE379.out)⟩)
            ·skip
             refine box_step ?hg (N := 11) ?hd (cs := #[.bool false, .int .i64 0, .int .i64 0, .int .i64 0]) (t := 62) ?hr ?_; (case hd => rfl); (case hg => rfl); (case hr => first | (go_simp; done) | (go_simp; rfl))
             intro gb379 hg w57 hbox hb
             have HS2_ := (hb.cell (World.block_lt_of_cell? _ _ (hHeld.2.2.1))).trans (hHeld.2.2.1)
             have HS3_ := (hb.cell (World.block_lt_of_cell? _ _ (hHeld.2.2.2.1))).trans (hHeld.2.2.2.1)
             have HS4_ := (hb.cell (World.block_lt_of_cell? _ _ (hHeld.2.2.2.2.1))).trans (hHeld.2.2.2.2.1)
             have HS5_ := (hb.cell (World.block_lt_of_cell? _ _ (hHeld.2.2.2.2.2))).trans (hHeld.2.2.2.2.2)
             have n0_ := Aside0.mk (Kd.R_below (by (with_reducible repeat (first | apply Kd.R_alloc | apply Kd.R_drewN | apply Kd.R_drew)); exact HO_3.out) hb)
             have n1_ := Aside0.mk (Kd.S_below (by (with_reducible repeat (first | apply Kd.S_alloc | apply Kd.S_drewN | apply Kd.S_drew)); exact HO_5.out) hb)
             have n2_ := Aside0.mk (Kd.R_below (Kd.R_elderB (by (with_reducible repeat (first | apply Kd.R_alloc | apply Kd.R_drewN | apply Kd.R_drew)); exact HO_7.out) gb379 (Nat.le_of_eq hg.symm)) hb)
             have n3_ := Aside0.mk (zbb BK353.out hb)
             have n4_ := Aside0.mk (zbb BK371.out hb)
             have n5_ := Aside0.mk (below_step (zw2 HB.out GE353.out GE371.out) hb)
             have n6_ := Aside0.mk (hbox)
             have n7_ := Aside0.mk (zg hg (below_size (zw2 HB.out GE353.out GE371.out)))
             have n8_ := Aside0.mk (zg hg (below_size (zw2 HB.out GE353.out GE371.out)))
             have n9_ := Aside0.mk (zlt hg BK353.out)
             have n10_ := Aside0.mk (zgt hg BK353.out)
             have n11_ := Aside0.mk (zlt hg BK371.out)
             have n12_ := Aside0.mk (zgt hg BK371.out)
             clear HO_3
             clear HO_5
             clear HO_7
             clear BK353
             clear BK371
             clear HB
             have HO_3 := n0_
             have HO_5 := n1_
             have HO_7 := n2_
             have BK353 := n3_
             have BK371 := n4_
             have HB := n5_
             have BK379 := n6_
             have GW379 := n7_
             have GE379 := n8_
             have NB353_379 := n9_
             have NB379_353 := n10_
             have NB371_379 := n11_
             have NB379_371 := n12_
             clear n0_ n1_ n2_ n3_ n4_ n5_ n6_ n7_ n8_ n9_ n10_ n11_ n12_
             clear hb hbox hg
             refine hK.out _ _ ⟨(blk_cell BK371.out 0).trans rfl, (blk_cell BK371.out 1).trans rfl, HS2_, HS3_, HS4_, HS5_⟩ (fun hHeld => ?_)
             clear hK K
             refine norm_ (a' := ?_) ?_ ?_
             rotate_left
             ·show Act.put _ (some 11) _ = _
              simp only [Act.put, List.setIfInBounds_toArray, List.set_cons_zero, List.set_cons_succ, i64_w, i32_w]
              rfl
             refine one_ (i := 7) (N := some 81) cellarlaw9_MemLoads.b15 rfl rfl (one_of HT_.out (by kernel_rfl)) (by decide) (fun K hK => ?_)
             refine goes_ Try.func39 (by kernel_rfl) rfl #[.agg #[.bool ((rd_T29 t355 (ji44)).f0), .int .i64 ((rd_T29 t355 (ji44)).f1)], .slice Ao36 t360.length co36, .agg #[.bool ((rd_T62 t367 x8_3).f0), .int .i64 ((rd_T62 t367 x8_3).f1), .int .i64 ((rd_T62 t367 x8_3).f2), .int .i64 ((rd_T62 t367 x8_3).f3)], .int .i64 x9_4] (by rfl) rfl rfl (by (try simp only [List.map_toArray, List.map_cons, List.map_nil]); first | done | (simp only [hji44]; rfl) | rfl | (simp only [List.length_drop, List.length_take]; rfl)) ?_
             with_reducible refine (mem_Load.calls k4 ((rd_T29 t355 (ji44)).f0) ((rd_T29 t355 (ji44)).f1) _ _ t360 ((rd_T62 t367 x8_3).f0) ((rd_T62 t367 x8_3).f1) ((rd_T62 t367 x8_3).f2) ((rd_T62 t367 x8_3).f3) x9_4 t373 t374 t375 t376 t377 t378 _ ?side1 ?side2 A49.out).mono ?_
             (case side1 => repeat (first | exact (Kd.S_reads' HO_5.out).2.2 | (with_reducible refine Kd.C_alloc ?_ _) | (with_reducible refine Kd.C_drewN ?_ _) | (with_reducible refine Kd.C_drew ?_)))
             (case side2 => exact (Kd.S_reads' HO_5.out).2.1)
             rintro e w58 ⟨rfl, hb⟩
             have HS2_ := (hb.cell (World.block_lt_of_cell? _ _ (hHeld.2.2.1))).trans (hHeld.2.2.1)
             have HS3_ := (hb.cell (World.block_lt_of_cell? _ _ (hHeld.2.2.2.1))).trans (hHeld.2.2.2.1)
             have HS4_ := (hb.cell (World.block_lt_of_cell? _ _ (hHeld.2.2.2.2.1))).trans (hHeld.2.2.2.2.1)
             have HS5_ := (hb.cell (World.block_lt_of_cell? _ _ (hHeld.2.2.2.2.2))).trans (hHeld.2.2.2.2.2)
             refine ⟨_, rfl, ?_⟩
             have n0_ := Aside0.mk (Kd.R_below (by (with_reducible repeat (first | apply Kd.R_alloc | apply Kd.R_drewN | apply Kd.R_drew)); exact HO_3.out) hb)
             have n1_ := Aside0.mk (Kd.S_below (by (with_reducible repeat (first | apply Kd.S_alloc | apply Kd.S_drewN | apply Kd.S_drew)); exact HO_5.out) hb)
             have n2_ := Aside0.mk (Kd.R_below (by (with_reducible repeat (first | apply Kd.R_alloc | apply Kd.R_drewN | apply Kd.R_drew)); exact HO_7.out) hb)
             have n3_ := Aside0.mk (zbb BK353.out hb)
             have n4_ := Aside0.mk (zbb BK371.out hb)
             have n5_ := Aside0.mk (zbb BK379.out hb)
             have n6_ := Aside0.mk (below_step (zw3 HB.out GE353.out GE371.out GE379.out) hb)
             clear HO_3
             clear HO_5
             clear HO_7
             clear BK353
             clear BK371
             clear BK379
             clear HB
             have HO_3 := n0_
             have HO_5 := n1_
             have HO_7 := n2_
             have BK353 := n3_
             have BK371 := n4_
             have BK379 := n5_
             have HB := n6_
             clear n0_ n1_ n2_ n3_ n4_ n5_ n6_
             (try clear hb)
             (try clear hb2)
             (try clear hk)
             (try clear hi)
             refine hK.out _ _ ⟨(blk_cell BK371.out 0).trans rfl, (blk_cell BK371.out 1).trans rfl, HS2_, HS3_, HS4_, HS5_⟩ (fun hHeld => ?_)
             clear hK K
             refine norm_ (a' := ?_) ?_ ?_
             rotate_left
             ·show Act.put _ (some 81) _ = _
              simp only [Act.put, List.setIfInBounds_toArray, List.set_cons_zero, List.set_cons_succ, i64_w, i32_w]
              rfl
             refine zp (i := 8) (N := some 73) cellarlaw9_MemLoads.b16 (any_of HT_.out (by kernel_rfl)) ?_
             refine zp (i := 9) (N := some 82) cellarlaw9_MemLoads.b17 (any_of HT_.out (by kernel_rfl)) ?_
             refine zp (i := 10) (N := some 83) cellarlaw9_MemLoads.b18 (any_of HT_.out (by kernel_rfl)) ?_
             refine zp (i := 11) (N := some 84) cellarlaw9_MemLoads.b8 (any_of HT_.out (by kernel_rfl)) ?_
             exact norm_ (by simp only [putAll, Act.put, List.setIfInBounds_toArray, List.set_cons_zero, List.set_cons_succ]) (hCont (gb379) _ ⟨hHeld, (by (with_reducible repeat (first | apply Kd.R_alloc | apply Kd.R_drewN | apply Kd.R_drew)); exact HO_3.out), (by (with_reducible repeat (first | apply Kd.S_alloc | apply Kd.S_drewN | apply Kd.S_drew)); exact HO_5.out), (by (with_reducible repeat (first | apply Kd.R_alloc | apply Kd.R_drewN | apply Kd.R_drew)); exact Kd.R_mono HO_7.out (fun _ hk => hk.2)), (zb BK353.out), (zb BK371.out), (zb BK379.out), GW379.out, GE379.out, NB353_379.out, NB379_353.out, NB371_379.out, NB379_371.out, (zw3 HB.out GE353.out GE371.out GE379.out)⟩)
           rintro gb379 w59 ⟨hS_, h0_, h1_, h2_, h3_, h4_, h5_, h6_, h7_, h8_, h9_, h10_, h11_, h12_⟩
           have n0_ : Aside0 (Kd.R k29 29 w59 w.heap.size (fun k_ => k_ ≠ gb371) (.slice (some ad370) t355.length co51) t355) := ⟨h0_⟩
           have n1_ : Aside0 (Kd.S k76 76 w59 w.heap.size (fun _ => True) (.slice Ao36 t360.length co36) t360) := ⟨h1_⟩
           have n2_ : Aside0 (Kd.R k62 62 w59 w.heap.size (fun k_ => k_ ≠ gb379) (.slice (some ad372) t367.length co41) t367) := ⟨h2_⟩
           have n3_ : Aside0 (w59.heap[gb353]? = some (.cells #[.slice (some ad359) l0_0.length c0_0, .slice A0_1 l0_1.length c0_1, .slice A0_2 l0_2.length c0_2, .slice A0_3 l0_3.length c0_3] 54 (0, 0))) := ⟨h3_⟩
           have n4_ : Aside0 (w59.heap[gb371]? = some (.cells #[.bool ((rd_T29 t355 (ji44)).f0), .int .i64 ((rd_T29 t355 (ji44)).f1)] 29 (0, 0))) := ⟨h4_⟩
           have n5_ : Aside0 (w59.heap[gb379]? = some (.cells #[.bool false, .int .i64 0, .int .i64 0, .int .i64 0] 62 (0, 0))) := ⟨h5_⟩
           have n6_ : Aside0 (w.heap.size ≤ gb379) := ⟨h6_⟩
           have n7_ : Aside0 (w.heap.size ≤ gb379) := ⟨h7_⟩
           have n8_ : Aside0 (gb353 ≠ gb379) := ⟨h8_⟩
           have n9_ : Aside0 (gb379 ≠ gb353) := ⟨h9_⟩
           have n10_ : Aside0 (gb371 ≠ gb379) := ⟨h10_⟩
           have n11_ : Aside0 (gb379 ≠ gb371) := ⟨h11_⟩
           have n12_ : Aside0 (Below w.heap.size w w59) := ⟨h12_⟩
           clear HO_3
           clear HO_5
           clear HO_7
           clear BK353
           clear BK371
           clear HB
           clear h0_ h1_ h2_ h3_ h4_ h5_ h6_ h7_ h8_ h9_ h10_ h11_ h12_
           have HO_3 := n0_
           have HO_5 := n1_
           have HO_7 := n2_
           have BK353 := n3_
           have BK371 := n4_
           have BK379 := n5_
           have GW379 := n6_
           have GE379 := n7_
           have NB353_379 := n8_
           have NB379_353 := n9_
           have NB371_379 := n10_
           have NB379_371 := n11_
           have HB := n12_
           clear n0_ n1_ n2_ n3_ n4_ n5_ n6_ n7_ n8_ n9_ n10_ n11_ n12_
           have hHeld : w59.cell? ⟨gb371, 0, none⟩ = some (.bool ((rd_T29 t355 (ji44)).f0)) ∧ w59.cell? ⟨gb371, 1, none⟩ = some (.int .i64 ((rd_T29 t355 (ji44)).f1)) ∧ w59.cell? (ad372.add ((x8_3).toNat * 4)) = some (.bool ((rd_T62 t367 x8_3).f0)) ∧ w59.cell? ⟨(ad372.add ((x8_3).toNat * 4)).block, (ad372.add ((x8_3).toNat * 4)).off + 1, none⟩ = some (.int .i64 ((rd_T62 t367 x8_3).f1)) ∧ w59.cell? ⟨(ad372.add ((x8_3).toNat * 4)).block, (ad372.add ((x8_3).toNat * 4)).off + 2, none⟩ = some (.int .i64 ((rd_T62 t367 x8_3).f2)) ∧ w59.cell? ⟨(ad372.add ((x8_3).toNat * 4)).block, (ad372.add ((x8_3).toNat * 4)).off + 3, none⟩ = some (.int .i64 ((rd_T62 t367 x8_3).f3)) := hS_
           refine norm_ (a' := ?_) ?_ ?_
           rotate_left
           ·simp only [putAll, Act.put, List.setIfInBounds_toArray, List.set_cons_zero, List.set_cons_succ]
            rfl
           refine one_ (i := 13) (N := none) cellarlaw9_MemLoads.b19 rfl rfl (one_of HT_.out (by kernel_rfl)) (by decide) (fun K hK => ?_)
           have hs60 : w59.cell? ⟨gb379, 0, none⟩ = some (.bool false) := (blk_cell BK379.out 0).trans rfl
           have hfs60 := blk_frozen BK379.out 0
           have hns60_0 := NB353_379.out
           have hns60_1 := NB371_379.out
           have hms60_0 := NB379_353.out
           have hms60_1 := NB379_371.out
           have hs61 : w59.cell? ⟨gb379, 1, none⟩ = some (.int .i64 0) := (blk_cell BK379.out 1).trans rfl
           have hfs61 := blk_frozen BK379.out 1
           have hns61_0 := NB353_379.out
           have hns61_1 := NB371_379.out
           have hms61_0 := NB379_353.out
           have hms61_1 := NB379_371.out
           have hs62 : w59.cell? ⟨gb379, 2, none⟩ = some (.int .i64 0) := (blk_cell BK379.out 2).trans rfl
           have hfs62 := blk_frozen BK379.out 2
           have hns62_0 := NB353_379.out
           have hns62_1 := NB371_379.out
           have hms62_0 := NB379_353.out
           have hms62_1 := NB379_371.out
           have hs63 : w59.cell? ⟨gb379, 3, none⟩ = some (.int .i64 0) := (blk_cell BK379.out 3).trans rfl
           have hfs63 := blk_frozen BK379.out 3
           have hns63_0 := NB353_379.out
           have hns63_1 := NB371_379.out
           have hms63_0 := NB379_353.out
           have hms63_1 := NB379_371.out
           refine skip_ (w1 := ?_) (by rfl) rfl ?_ ?_
           rotate_left
           ·go_simp
            rfl
           refine hK.out _ _ ⟨((cell_far (p := ⟨gb379, _, none⟩) NB371_379.out _).trans (((cell_far (p := ⟨gb379, _, none⟩) NB371_379.out _).trans (((cell_far (p := ⟨gb379, _, none⟩) NB371_379.out _).trans (((cell_far (p := ⟨gb379, _, none⟩) NB371_379.out _).trans (hHeld.1)))))))), ((cell_far (p := ⟨gb379, _, none⟩) NB371_379.out _).trans (((cell_far (p := ⟨gb379, _, none⟩) NB371_379.out _).trans (((cell_far (p := ⟨gb379, _, none⟩) NB371_379.out _).trans (((cell_far (p := ⟨gb379, _, none⟩) NB371_379.out _).trans (hHeld.2.1)))))))), ((cell_far (p := ⟨gb379, _, none⟩) (by first | exact Kd.own_blk (Kd.R_away HO_7.out (fun _ hk => hk)) | (rw [add_block]; exact Kd.own_blk (Kd.R_away HO_7.out (fun _ hk => hk))) | (show (Addr.add _ _).block ≠ _; rw [add_block]; exact Kd.own_blk (Kd.R_away HO_7.out (fun _ hk => hk))) | (dsimp only; exact Kd.own_blk (Kd.R_away HO_7.out (fun _ hk => hk)))) _).trans (((cell_far (p := ⟨gb379, _, none⟩) (by first | exact Kd.own_blk (Kd.R_away HO_7.out (fun _ hk => hk)) | (rw [add_block]; exact Kd.own_blk (Kd.R_away HO_7.out (fun _ hk => hk))) | (show (Addr.add _ _).block ≠ _; rw [add_block]; exact Kd.own_blk (Kd.R_away HO_7.out (fun _ hk => hk))) | (dsimp only; exact Kd.own_blk (Kd.R_away HO_7.out (fun _ hk => hk)))) _).trans (((cell_far (p := ⟨gb379, _, none⟩) (by first | exact Kd.own_blk (Kd.R_away HO_7.out (fun _ hk => hk)) | (rw [add_block]; exact Kd.own_blk (Kd.R_away HO_7.out (fun _ hk => hk))) | (show (Addr.add _ _).block ≠ _; rw [add_block]; exact Kd.own_blk (Kd.R_away HO_7.out (fun _ hk => hk))) | (dsimp only; exact Kd.own_blk (Kd.R_away HO_7.out (fun _ hk => hk)))) _).trans (((cell_far (p := ⟨gb379, _, none⟩) (by first | exact Kd.own_blk (Kd.R_away HO_7.out (fun _ hk => hk)) | (rw [add_block]; exact Kd.own_blk (Kd.R_away HO_7.out (fun _ hk => hk))) | (show (Addr.add _ _).block ≠ _; rw [add_block]; exact Kd.own_blk (Kd.R_away HO_7.out (fun _ hk => hk))) | (dsimp only; exact Kd.own_blk (Kd.R_away HO_7.out (fun _ hk => hk)))) _).trans (hHeld.2.2.1)))))))), ((cell_far (p := ⟨gb379, _, none⟩) (by first | exact Kd.own_blk (Kd.R_away HO_7.out (fun _ hk => hk)) | (rw [add_block]; exact Kd.own_blk (Kd.R_away HO_7.out (fun _ hk => hk))) | (show (Addr.add _ _).block ≠ _; rw [add_block]; exact Kd.own_blk (Kd.R_away HO_7.out (fun _ hk => hk))) | (dsimp only; exact Kd.own_blk (Kd.R_away HO_7.out (fun _ hk => hk)))) _).trans (((cell_far (p := ⟨gb379, _, none⟩) (by first | exact Kd.own_blk (Kd.R_away HO_7.out (fun _ hk => hk)) | (rw [add_block]; exact Kd.own_blk (Kd.R_away HO_7.out (fun _ hk => hk))) | (show (Addr.add _ _).block ≠ _; rw [add_block]; exact Kd.own_blk (Kd.R_away HO_7.out (fun _ hk => hk))) | (dsimp only; exact Kd.own_blk (Kd.R_away HO_7.out (fun _ hk => hk)))) _).trans (((cell_far (p := ⟨gb379, _, none⟩) (by first | exact Kd.own_blk (Kd.R_away HO_7.out (fun _ hk => hk)) | (rw [add_block]; exact Kd.own_blk (Kd.R_away HO_7.out (fun _ hk => hk))) | (show (Addr.add _ _).block ≠ _; rw [add_block]; exact Kd.own_blk (Kd.R_away HO_7.out (fun _ hk => hk))) | (dsimp only; exact Kd.own_blk (Kd.R_away HO_7.out (fun _ hk => hk)))) _).trans (((cell_far (p := ⟨gb379, _, none⟩) (by first | exact Kd.own_blk (Kd.R_away HO_7.out (fun _ hk => hk)) | (rw [add_block]; exact Kd.own_blk (Kd.R_away HO_7.out (fun _ hk => hk))) | (show (Addr.add _ _).block ≠ _; rw [add_block]; exact Kd.own_blk (Kd.R_away HO_7.out (fun _ hk => hk))) | (dsimp only; exact Kd.own_blk (Kd.R_away HO_7.out (fun _ hk => hk)))) _).trans (hHeld.2.2.2.1)))))))), ((cell_far (p := ⟨gb379, _, none⟩) (by first | exact Kd.own_blk (Kd.R_away HO_7.out (fun _ hk => hk)) | (rw [add_block]; exact Kd.own_blk (Kd.R_away HO_7.out (fun _ hk => hk))) | (show (Addr.add _ _).block ≠ _; rw [add_block]; exact Kd.own_blk (Kd.R_away HO_7.out (fun _ hk => hk))) | (dsimp only; exact Kd.own_blk (Kd.R_away HO_7.out (fun _ hk => hk)))) _).trans (((cell_far (p := ⟨gb379, _, none⟩) (by first | exact Kd.own_blk (Kd.R_away HO_7.out (fun _ hk => hk)) | (rw [add_block]; exact Kd.own_blk (Kd.R_away HO_7.out (fun _ hk => hk))) | (show (Addr.add _ _).block ≠ _; rw [add_block]; exact Kd.own_blk (Kd.R_away HO_7.out (fun _ hk => hk))) | (dsimp only; exact Kd.own_blk (Kd.R_away HO_7.out (fun _ hk => hk)))) _).trans (((cell_far (p := ⟨gb379, _, none⟩) (by first | exact Kd.own_blk (Kd.R_away HO_7.out (fun _ hk => hk)) | (rw [add_block]; exact Kd.own_blk (Kd.R_away HO_7.out (fun _ hk => hk))) | (show (Addr.add _ _).block ≠ _; rw [add_block]; exact Kd.own_blk (Kd.R_away HO_7.out (fun _ hk => hk))) | (dsimp only; exact Kd.own_blk (Kd.R_away HO_7.out (fun _ hk => hk)))) _).trans (((cell_far (p := ⟨gb379, _, none⟩) (by first | exact Kd.own_blk (Kd.R_away HO_7.out (fun _ hk => hk)) | (rw [add_block]; exact Kd.own_blk (Kd.R_away HO_7.out (fun _ hk => hk))) | (show (Addr.add _ _).block ≠ _; rw [add_block]; exact Kd.own_blk (Kd.R_away HO_7.out (fun _ hk => hk))) | (dsimp only; exact Kd.own_blk (Kd.R_away HO_7.out (fun _ hk => hk)))) _).trans (hHeld.2.2.2.2.1)))))))), ((cell_far (p := ⟨gb379, _, none⟩) (by first | exact Kd.own_blk (Kd.R_away HO_7.out (fun _ hk => hk)) | (rw [add_block]; exact Kd.own_blk (Kd.R_away HO_7.out (fun _ hk => hk))) | (show (Addr.add _ _).block ≠ _; rw [add_block]; exact Kd.own_blk (Kd.R_away HO_7.out (fun _ hk => hk))) | (dsimp only; exact Kd.own_blk (Kd.R_away HO_7.out (fun _ hk => hk)))) _).trans (((cell_far (p := ⟨gb379, _, none⟩) (by first | exact Kd.own_blk (Kd.R_away HO_7.out (fun _ hk => hk)) | (rw [add_block]; exact Kd.own_blk (Kd.R_away HO_7.out (fun _ hk => hk))) | (show (Addr.add _ _).block ≠ _; rw [add_block]; exact Kd.own_blk (Kd.R_away HO_7.out (fun _ hk => hk))) | (dsimp only; exact Kd.own_blk (Kd.R_away HO_7.out (fun _ hk => hk)))) _).trans (((cell_far (p := ⟨gb379, _, none⟩) (by first | exact Kd.own_blk (Kd.R_away HO_7.out (fun _ hk => hk)) | (rw [add_block]; exact Kd.own_blk (Kd.R_away HO_7.out (fun _ hk => hk))) | (show (Addr.add _ _).block ≠ _; rw [add_block]; exact Kd.own_blk (Kd.R_away HO_7.out (fun _ hk => hk))) | (dsimp only; exact Kd.own_blk (Kd.R_away HO_7.out (fun _ hk => hk)))) _).trans (((cell_far (p := ⟨gb379, _, none⟩) (by first | exact Kd.own_blk (Kd.R_away HO_7.out (fun _ hk => hk)) | (rw [add_block]; exact Kd.own_blk (Kd.R_away HO_7.out (fun _ hk => hk))) | (show (Addr.add _ _).block ≠ _; rw [add_block]; exact Kd.own_blk (Kd.R_away HO_7.out (fun _ hk => hk))) | (dsimp only; exact Kd.own_blk (Kd.R_away HO_7.out (fun _ hk => hk)))) _).trans (hHeld.2.2.2.2.2))))))))⟩ (fun hHeld => ?_)
           clear hK K
           refine zp (i := 14) (N := some 12) cellarlaw9_MemLoads.b20 (any_of HT_.out (by kernel_rfl)) ?_
           refine zp (i := 15) (N := some 13) cellarlaw9_MemLoads.b21 (any_of HT_.out (by kernel_rfl)) ?_
           refine done_ (done_of HT_.out (by kernel_rfl)) ?_
           go_upto_region 21 with (first | ((with_reducible refine gate_dst (N := 15) rfl ?_); refine zbox (N := 15) (cs := #[.bool false, .int .i64 0, .int .i64 0, .int .i64 0]) (t := 62) ?_; intro gb380 hg w64 hbox hb; have n0_ := Aside0.mk (Kd.R_below (by (with_reducible repeat (first | apply Kd.R_alloc | apply Kd.R_drewN | apply Kd.R_drew)); exact (Kd.R_mono (Kd.R_far (p := ⟨gb379, 3, none⟩) (Kd.R_far (p := ⟨gb379, 2, none⟩) (Kd.R_far (p := ⟨gb379, 1, none⟩) (Kd.R_far (p := ⟨gb379, 0, none⟩) (Kd.R_types HO_3.out BK379.out (by decide)) (fun _ hk => hk.2) (.bool t373)) (fun _ hk => hk.2) (.int .i64 t374)) (fun _ hk => hk.2) (.int .i64 t375)) (fun _ hk => hk.2) (.int .i64 t376)) (fun _ h_ => h_.1))) hb); have n1_ := Aside0.mk (Kd.S_below (by (with_reducible repeat (first | apply Kd.S_alloc | apply Kd.S_drewN | apply Kd.S_drew)); exact (Kd.S_mono (Kd.S_far (p := ⟨gb379, 3, none⟩) (Kd.S_far (p := ⟨gb379, 2, none⟩) (Kd.S_far (p := ⟨gb379, 1, none⟩) (Kd.S_far (p := ⟨gb379, 0, none⟩) (Kd.S_types HO_5.out BK379.out (by decide)) (fun _ hk => hk.2) (.bool t373)) (fun _ hk => hk.2) (.int .i64 t374)) (fun _ hk => hk.2) (.int .i64 t375)) (fun _ hk => hk.2) (.int .i64 t376)) (fun _ h_ => h_.1))) hb); have n2_ := Aside0.mk (Kd.R_below (Kd.R_elderB (by (with_reducible repeat (first | apply Kd.R_alloc | apply Kd.R_drewN | apply Kd.R_drew)); exact (Kd.R_mono (Kd.R_far (p := ⟨gb379, 3, none⟩) (Kd.R_far (p := ⟨gb379, 2, none⟩) (Kd.R_far (p := ⟨gb379, 1, none⟩) (Kd.R_far (p := ⟨gb379, 0, none⟩) (Kd.R_mono HO_7.out (fun k_ hk => (⟨hk, hk⟩ : _ ∧ k_ ≠ gb379))) (fun _ hk => hk.2) (.bool t373)) (fun _ hk => hk.2) (.int .i64 t374)) (fun _ hk => hk.2) (.int .i64 t375)) (fun _ hk => hk.2) (.int .i64 t376)) (fun _ h_ => h_.1))) gb380 (Nat.le_of_eq hg.symm)) hb); have n3_ := Aside0.mk (blk_below (g := gb353) (o := .cells #[.slice (some ad359) l0_0.length c0_0, .slice A0_1 l0_1.length c0_1, .slice A0_2 l0_2.length c0_2, .slice A0_3 l0_3.length c0_3] 54 (0, 0)) (zf1 BK353.out NB353_379.out) hb); have n4_ := Aside0.mk (blk_below (g := gb371) (o := .cells #[.bool ((rd_T29 t355 (ji44)).f0), .int .i64 ((rd_T29 t355 (ji44)).f1)] 29 (0, 0)) (zf1 BK371.out NB371_379.out) hb); have n5_ := Aside0.mk (blk_below (g := gb379) (o := .cells #[.bool t373, .int .i64 t374, .int .i64 t375, .int .i64 t376] 62 (0, 0)) (by (with_reducible repeat (first | refine blk_drewN ?_ _ | refine blk_drew ?_ | refine blk_alloc ?_ _)); refine blk_put (cs := #[.bool t373, .int .i64 t374, .int .i64 t375, .int .i64 0]) ?_ 3 _ rfl; (with_reducible repeat (first | refine blk_drewN ?_ _ | refine blk_drew ?_ | refine blk_alloc ?_ _)); refine blk_put (cs := #[.bool t373, .int .i64 t374, .int .i64 0, .int .i64 0]) ?_ 2 _ rfl; (with_reducible repeat (first | refine blk_drewN ?_ _ | refine blk_drew ?_ | refine blk_alloc ?_ _)); refine blk_put (cs := #[.bool t373, .int .i64 0, .int .i64 0, .int .i64 0]) ?_ 1 _ rfl; (with_reducible repeat (first | refine blk_drewN ?_ _ | refine blk_drew ?_ | refine blk_alloc ?_ _)); refine blk_put (cs := #[.bool false, .int .i64 0, .int .i64 0, .int .i64 0]) ?_ 0 _ rfl; (with_reducible repeat (first | refine blk_drewN ?_ _ | refine blk_drew ?_ | refine blk_alloc ?_ _)); exact BK379.out) hb); have n6_ := Aside0.mk (below_step (zw3 HB.out GE353.out GE371.out GE379.out) hb); have BK380 := Aside0.mk (hbox); have GW380 := Aside0.mk (zg hg (below_size (zw3 HB.out GE353.out GE371.out GE379.out))); have GE380 := GW380; have NB353_380 := Aside0.mk ((by rw [hg]; exact Nat.ne_of_lt (blk_lt (g := gb353) (o := .cells #[.slice (some ad359) l0_0.length c0_0, .slice A0_1 l0_1.length c0_1, .slice A0_2 l0_2.length c0_2, .slice A0_3 l0_3.length c0_3] 54 (0, 0)) (zf1 BK353.out NB353_379.out)) : gb353 ≠ gb380)); have NB380_353 := Aside0.mk ((by rw [hg]; exact Nat.ne_of_gt (blk_lt (g := gb353) (o := .cells #[.slice (some ad359) l0_0.length c0_0, .slice A0_1 l0_1.length c0_1, .slice A0_2 l0_2.length c0_2, .slice A0_3 l0_3.length c0_3] 54 (0, 0)) (zf1 BK353.out NB353_379.out)) : gb380 ≠ gb353)); have NB371_380 := Aside0.mk ((by rw [hg]; exact Nat.ne_of_lt (blk_lt (g := gb371) (o := .cells #[.bool ((rd_T29 t355 (ji44)).f0), .int .i64 ((rd_T29 t355 (ji44)).f1)] 29 (0, 0)) (zf1 BK371.out NB371_379.out)) : gb371 ≠ gb380)); have NB380_371 := Aside0.mk ((by rw [hg]; exact Nat.ne_of_gt (blk_lt (g := gb371) (o := .cells #[.bool ((rd_T29 t355 (ji44)).f0), .int .i64 ((rd_T29 t355 (ji44)).f1)] 29 (0, 0)) (zf1 BK371.out NB371_379.out)) : gb380 ≠ gb371)); have NB379_380 := Aside0.mk ((by rw [hg]; exact Nat.ne_of_lt (blk_lt (g := gb379) (o := .cells #[.bool t373, .int .i64 t374, .int .i64 t375, .int .i64 t376] 62 (0, 0)) (by (with_reducible repeat (first | refine blk_drewN ?_ _ | refine blk_drew ?_ | refine blk_alloc ?_ _)); refine blk_put (cs := #[.bool t373, .int .i64 t374, .int .i64 t375, .int .i64 0]) ?_ 3 _ rfl; (with_reducible repeat (first | refine blk_drewN ?_ _ | refine blk_drew ?_ | refine blk_alloc ?_ _)); refine blk_put (cs := #[.bool t373, .int .i64 t374, .int .i64 0, .int .i64 0]) ?_ 2 _ rfl; (with_reducible repeat (first | refine blk_drewN ?_ _ | refine blk_drew ?_ | refine blk_alloc ?_ _)); refine blk_put (cs := #[.bool t373, .int .i64 0, .int .i64 0, .int .i64 0]) ?_ 1 _ rfl; (with_reducible repeat (first | refine blk_drewN ?_ _ | refine blk_drew ?_ | refine blk_alloc ?_ _)); refine blk_put (cs := #[.bool false, .int .i64 0, .int .i64 0, .int .i64 0]) ?_ 0 _ rfl; (with_reducible repeat (first | refine blk_drewN ?_ _ | refine blk_drew ?_ | refine blk_alloc ?_ _)); exact BK379.out)) : gb379 ≠ gb380)); have NB380_379 := Aside0.mk ((by rw [hg]; exact Nat.ne_of_gt (blk_lt (g := gb379) (o := .cells #[.bool t373, .int .i64 t374, .int .i64 t375, .int .i64 t376] 62 (0, 0)) (by (with_reducible repeat (first | refine blk_drewN ?_ _ | refine blk_drew ?_ | refine blk_alloc ?_ _)); refine blk_put (cs := #[.bool t373, .int .i64 t374, .int .i64 t375, .int .i64 0]) ?_ 3 _ rfl; (with_reducible repeat (first | refine blk_drewN ?_ _ | refine blk_drew ?_ | refine blk_alloc ?_ _)); refine blk_put (cs := #[.bool t373, .int .i64 t374, .int .i64 0, .int .i64 0]) ?_ 2 _ rfl; (with_reducible repeat (first | refine blk_drewN ?_ _ | refine blk_drew ?_ | refine blk_alloc ?_ _)); refine blk_put (cs := #[.bool t373, .int .i64 0, .int .i64 0, .int .i64 0]) ?_ 1 _ rfl; (with_reducible repeat (first | refine blk_drewN ?_ _ | refine blk_drew ?_ | refine blk_alloc ?_ _)); refine blk_put (cs := #[.bool false, .int .i64 0, .int .i64 0, .int .i64 0]) ?_ 0 _ rfl; (with_reducible repeat (first | refine blk_drewN ?_ _ | refine blk_drew ?_ | refine blk_alloc ?_ _)); exact BK379.out)) : gb380 ≠ gb379)); clear HO_3 HO_5 HO_7 BK353 BK371 BK379 HB; have HO_3 := n0_; have HO_5 := n1_; have HO_7 := n2_; have BK353 := n3_; have BK371 := n4_; have BK379 := n5_; have HB := n6_; clear n0_ n1_ n2_ n3_ n4_ n5_ n6_; clear hb hbox hg; have hnb65 := NB380_353.out; have hnc65 := NB353_380.out; have hnb66 := NB380_371.out; have hnc66 := NB371_380.out; have hnb67 := NB380_379.out; have hnc67 := NB379_380.out; have hcz68_0 := zc BK380.out 0; have hcz68_1 := zc BK380.out 1; have hcz68_2 := zc BK380.out 2; have hcz68_3 := zc BK380.out 3; have hfz68_0 := blk_frozen BK380.out 0; have hfz68_1 := blk_frozen BK380.out 1; have hfz68_2 := blk_frozen BK380.out 2; have hfz68_3 := blk_frozen BK380.out 3))
           (try simp only [Act.put, List.setIfInBounds_toArray, List.set_cons_zero, List.set_cons_succ])
           go_cut [102] (fun v102 wc => ∃ (kq : Nat) (x102_49 : Bool), v102 = .bool x102_49 ∧ Aside0 (cellarlaw9_MemLoads.j4 kq t355 x4_1 t360 t364 t367 x8_3 x9_4 t377 t378 1 0 x102_49 l0_0 l0_1 l0_2 l0_3 ((rd_T29 t355 (ji44)).f0) ((rd_T29 t355 (ji44)).f1) t373 t374 t375 t376 false 0 0 0 = some r) ∧ Aside0 (kq ≤ k4) ∧ Aside0 (Kd.R k29 29 wc w.heap.size (fun k_ => k_ ≠ gb371) (.slice (some ad370) t355.length co51) t355) ∧ Aside0 (Kd.S k76 76 wc w.heap.size (fun _ => True) (.slice Ao36 t360.length co36) t360) ∧ Aside0 (Kd.R k62 62 wc w.heap.size (fun k_ => k_ ≠ gb379 ∧ k_ ≠ gb380) (.slice (some ad372) t367.length co41) t367) ∧ Aside0 (wc.heap[gb353]? = some (.cells #[(.slice (some ad359) l0_0.length c0_0), (.slice A0_1 l0_1.length c0_1), (.slice A0_2 l0_2.length c0_2), (.slice A0_3 l0_3.length c0_3)] 54 (0, 0))) ∧ Aside0 (wc.heap[gb371]? = some (.cells #[.bool ((rd_T29 t355 (ji44)).f0), .int .i64 ((rd_T29 t355 (ji44)).f1)] 29 (0, 0))) ∧ Aside0 (wc.heap[gb379]? = some (.cells #[.bool t373, .int .i64 t374, .int .i64 t375, .int .i64 t376] 62 (0, 0))) ∧ Aside0 (wc.heap[gb380]? = some (.cells #[.bool false, .int .i64 0, .int .i64 0, .int .i64 0] 62 (0, 0))) ∧ Aside0 (Below w.heap.size w wc))
           case first =>
            have H := HC50.out
            clear HC50
            by_cases c69 : t364 = true
            rotate_left
            ·replace c69 := Bool.eq_false_iff.mpr c69
             subst c69
             have H1 : (cellarlaw9_MemLoads.j4 k4 t355 x4_1 t360 false t367 x8_3 x9_4 t377 t378 1 0 false l0_0 l0_1 l0_2 l0_3 ((rd_T29 t355 (ji44)).f0) ((rd_T29 t355 (ji44)).f1) t373 t374 t375 t376 false 0 0 0) = some r := by rw [if_neg (show ¬ (false = true) by decide)] at H; exact H
             clear H
             have H := H1
             clear H1
             have H' := Aside0.mk H
             clear H
             go_wp2
             go_meet
             case rel => exact ⟨_, (false), (zr), H', ⟨by have := HK1.out; have := HJ12.out; have := HK3.out; have := HK4.out; first | omega | exact Nat.le_refl _⟩, ⟨by (with_reducible repeat (first | apply Kd.R_alloc | apply Kd.R_drewN | apply Kd.R_drew)); exact Kd.R_mono (Kd.R_far (p := ⟨gb380, 3, none⟩) (Kd.R_far (p := ⟨gb380, 2, none⟩) (Kd.R_far (p := ⟨gb380, 1, none⟩) (Kd.R_far (p := ⟨gb380, 0, none⟩) (Kd.R_types HO_3.out BK380.out (by decide)) (fun _ hk => hk.2) (.bool false)) (fun _ hk => hk.2) (.int .i64 0)) (fun _ hk => hk.2) (.int .i64 0)) (fun _ hk => hk.2) (.int .i64 0)) (fun _ hk => hk.1)⟩, ⟨by (with_reducible repeat (first | apply Kd.S_alloc | apply Kd.S_drewN | apply Kd.S_drew)); exact Kd.S_mono (Kd.S_far (p := ⟨gb380, 3, none⟩) (Kd.S_far (p := ⟨gb380, 2, none⟩) (Kd.S_far (p := ⟨gb380, 1, none⟩) (Kd.S_far (p := ⟨gb380, 0, none⟩) (Kd.S_types HO_5.out BK380.out (by decide)) (fun _ hk => hk.2) (.bool false)) (fun _ hk => hk.2) (.int .i64 0)) (fun _ hk => hk.2) (.int .i64 0)) (fun _ hk => hk.2) (.int .i64 0)) (fun _ hk => trivial)⟩, ⟨by (with_reducible repeat (first | apply Kd.R_alloc | apply Kd.R_drewN | apply Kd.R_drew)); exact Kd.R_mono (Kd.R_far (p := ⟨gb380, 3, none⟩) (Kd.R_far (p := ⟨gb380, 2, none⟩) (Kd.R_far (p := ⟨gb380, 1, none⟩) (Kd.R_far (p := ⟨gb380, 0, none⟩) (Kd.R_mono HO_7.out (fun k_ hk => (⟨hk, hk.2⟩ : _ ∧ k_ ≠ gb380))) (fun _ hk => hk.2) (.bool false)) (fun _ hk => hk.2) (.int .i64 0)) (fun _ hk => hk.2) (.int .i64 0)) (fun _ hk => hk.2) (.int .i64 0)) (fun _ hk => ⟨hk.1.1, hk.1.2⟩)⟩, ⟨zf1 BK353.out NB353_380.out⟩, ⟨zf1 BK371.out NB371_380.out⟩, ⟨zf1 BK379.out NB379_380.out⟩, ⟨by (with_reducible repeat (first | refine blk_drewN ?_ _ | refine blk_drew ?_ | refine blk_alloc ?_ _)); refine blk_put (cs := #[.bool false, .int .i64 0, .int .i64 0, .int .i64 0]) ?_ 3 _ rfl; (with_reducible repeat (first | refine blk_drewN ?_ _ | refine blk_drew ?_ | refine blk_alloc ?_ _)); refine blk_put (cs := #[.bool false, .int .i64 0, .int .i64 0, .int .i64 0]) ?_ 2 _ rfl; (with_reducible repeat (first | refine blk_drewN ?_ _ | refine blk_drew ?_ | refine blk_alloc ?_ _)); refine blk_put (cs := #[.bool false, .int .i64 0, .int .i64 0, .int .i64 0]) ?_ 1 _ rfl; (with_reducible repeat (first | refine blk_drewN ?_ _ | refine blk_drew ?_ | refine blk_alloc ?_ _)); refine blk_put (cs := #[.bool false, .int .i64 0, .int .i64 0, .int .i64 0]) ?_ 0 _ rfl; (with_reducible repeat (first | refine blk_drewN ?_ _ | refine blk_drew ?_ | refine blk_alloc ?_ _)); exact BK380.out⟩, ⟨zw4 HB.out GE353.out GE371.out GE379.out GE380.out⟩⟩
            subst c69
            have H1 : ((cellarref1_Abi.f ((rd_T29 t355 (ji44)).f0) ((rd_T29 t355 (ji44)).f1)).bind fun t381 => (if t381 = true then ((cellarref1_Kind.f x9_4).bind fun t382 => (if t382 = true then ((cellarref7_Pointer.f k4 t360 ((rd_T62 t367 x8_3).f0) ((rd_T62 t367 x8_3).f1) ((rd_T62 t367 x8_3).f2) ((rd_T62 t367 x8_3).f3)).bind fun t384 => (cellarlaw9_MemLoads.j4 k4 t355 x4_1 t360 true t367 x8_3 x9_4 t377 t378 1 0 t384 l0_0 l0_1 l0_2 l0_3 ((rd_T29 t355 (ji44)).f0) ((rd_T29 t355 (ji44)).f1) t373 t374 t375 t376 false 0 0 0)) else (cellarlaw9_MemLoads.j4 k4 t355 x4_1 t360 true t367 x8_3 x9_4 t377 t378 1 0 false l0_0 l0_1 l0_2 l0_3 ((rd_T29 t355 (ji44)).f0) ((rd_T29 t355 (ji44)).f1) t373 t374 t375 t376 false 0 0 0))) else (cellarlaw9_MemLoads.j4 k4 t355 x4_1 t360 true t367 x8_3 x9_4 t377 t378 1 0 false l0_0 l0_1 l0_2 l0_3 ((rd_T29 t355 (ji44)).f0) ((rd_T29 t355 (ji44)).f1) t373 t374 t375 t376 false 0 0 0))) = some r := by rw [if_pos rfl] at H; exact H
            clear H
            have H := H1
            clear H1
            replace H := Option.bind_eq_some_iff.mp H
            obtain ⟨t381, A700, H⟩ := H
            replace H : (if t381 = true then ((cellarref1_Kind.f x9_4).bind fun t382 => (if t382 = true then ((cellarref7_Pointer.f k4 t360 ((rd_T62 t367 x8_3).f0) ((rd_T62 t367 x8_3).f1) ((rd_T62 t367 x8_3).f2) ((rd_T62 t367 x8_3).f3)).bind fun t384 => (cellarlaw9_MemLoads.j4 k4 t355 x4_1 t360 true t367 x8_3 x9_4 t377 t378 1 0 t384 l0_0 l0_1 l0_2 l0_3 ((rd_T29 t355 (ji44)).f0) ((rd_T29 t355 (ji44)).f1) t373 t374 t375 t376 false 0 0 0)) else (cellarlaw9_MemLoads.j4 k4 t355 x4_1 t360 true t367 x8_3 x9_4 t377 t378 1 0 false l0_0 l0_1 l0_2 l0_3 ((rd_T29 t355 (ji44)).f0) ((rd_T29 t355 (ji44)).f1) t373 t374 t375 t376 false 0 0 0))) else (cellarlaw9_MemLoads.j4 k4 t355 x4_1 t360 true t367 x8_3 x9_4 t377 t378 1 0 false l0_0 l0_1 l0_2 l0_3 ((rd_T29 t355 (ji44)).f0) ((rd_T29 t355 (ji44)).f1) t373 t374 t375 t376 false 0 0 0)) = some r := H
            have A70 := Aside0.mk A700
            clear A700
            by_cases c71 : t381 = true
            rotate_left
            ·replace c71 := Bool.eq_false_iff.mpr c71
             subst c71
             have H1 : (cellarlaw9_MemLoads.j4 k4 t355 x4_1 t360 true t367 x8_3 x9_4 t377 t378 1 0 false l0_0 l0_1 l0_2 l0_3 ((rd_T29 t355 (ji44)).f0) ((rd_T29 t355 (ji44)).f1) t373 t374 t375 t376 false 0 0 0) = some r := by rw [if_neg (show ¬ (false = true) by decide)] at H; exact H
             clear H
             have H := H1
             clear H1
             have H' := Aside0.mk H
             clear H
             have hnb86 := NB371_353.out
             have hnc86 := NB353_371.out
             have hnb87 := NB371_379.out
             have hnc87 := NB379_371.out
             have hnb88 := NB371_380.out
             have hnc88 := NB380_371.out
             have hcz89_0 := zc BK371.out 0
             have hcz89_1 := zc BK371.out 1
             have hfz89_0 := blk_frozen BK371.out 0
             have hfz89_1 := blk_frozen BK371.out 1
             go_wp2_with (first | (go_at_call 31; (with_reducible refine (cellarref1_Abi.calls ((rd_T29 t355 (ji44)).f0) ((rd_T29 t355 (ji44)).f1) false _ A70.out).mono ?_); rintro e w90 ⟨rfl, hb⟩; have n0_ := Aside0.mk (Kd.R_below (by (with_reducible repeat (first | apply Kd.R_alloc | apply Kd.R_drewN | apply Kd.R_drew)); exact (Kd.R_mono (Kd.R_far (p := ⟨gb380, 3, none⟩) (Kd.R_far (p := ⟨gb380, 2, none⟩) (Kd.R_far (p := ⟨gb380, 1, none⟩) (Kd.R_far (p := ⟨gb380, 0, none⟩) (Kd.R_types HO_3.out BK380.out (by decide)) (fun _ hk => hk.2) (.bool false)) (fun _ hk => hk.2) (.int .i64 0)) (fun _ hk => hk.2) (.int .i64 0)) (fun _ hk => hk.2) (.int .i64 0)) (fun _ h_ => h_.1))) hb); have n1_ := Aside0.mk (Kd.S_below (by (with_reducible repeat (first | apply Kd.S_alloc | apply Kd.S_drewN | apply Kd.S_drew)); exact (Kd.S_mono (Kd.S_far (p := ⟨gb380, 3, none⟩) (Kd.S_far (p := ⟨gb380, 2, none⟩) (Kd.S_far (p := ⟨gb380, 1, none⟩) (Kd.S_far (p := ⟨gb380, 0, none⟩) (Kd.S_types HO_5.out BK380.out (by decide)) (fun _ hk => hk.2) (.bool false)) (fun _ hk => hk.2) (.int .i64 0)) (fun _ hk => hk.2) (.int .i64 0)) (fun _ hk => hk.2) (.int .i64 0)) (fun _ h_ => h_.1))) hb); have n2_ := Aside0.mk (Kd.R_below (by (with_reducible repeat (first | apply Kd.R_alloc | apply Kd.R_drewN | apply Kd.R_drew)); exact (Kd.R_mono (Kd.R_far (p := ⟨gb380, 3, none⟩) (Kd.R_far (p := ⟨gb380, 2, none⟩) (Kd.R_far (p := ⟨gb380, 1, none⟩) (Kd.R_far (p := ⟨gb380, 0, none⟩) (Kd.R_mono HO_7.out (fun k_ hk => (⟨hk, hk.2⟩ : _ ∧ k_ ≠ gb380))) (fun _ hk => hk.2) (.bool false)) (fun _ hk => hk.2) (.int .i64 0)) (fun _ hk => hk.2) (.int .i64 0)) (fun _ hk => hk.2) (.int .i64 0)) (fun _ h_ => h_.1))) hb); have n3_ := Aside0.mk (blk_below (g := gb353) (o := .cells #[.slice (some ad359) l0_0.length c0_0, .slice A0_1 l0_1.length c0_1, .slice A0_2 l0_2.length c0_2, .slice A0_3 l0_3.length c0_3] 54 (0, 0)) (zf1 BK353.out NB353_380.out) hb); have n4_ := Aside0.mk (blk_below (g := gb371) (o := .cells #[.bool ((rd_T29 t355 (ji44)).f0), .int .i64 ((rd_T29 t355 (ji44)).f1)] 29 (0, 0)) (zf1 BK371.out NB371_380.out) hb); have n5_ := Aside0.mk (blk_below (g := gb379) (o := .cells #[.bool t373, .int .i64 t374, .int .i64 t375, .int .i64 t376] 62 (0, 0)) (zf1 BK379.out NB379_380.out) hb); have n6_ := Aside0.mk (blk_below (g := gb380) (o := .cells #[.bool false, .int .i64 0, .int .i64 0, .int .i64 0] 62 (0, 0)) (by (with_reducible repeat (first | refine blk_drewN ?_ _ | refine blk_drew ?_ | refine blk_alloc ?_ _)); refine blk_put (cs := #[.bool false, .int .i64 0, .int .i64 0, .int .i64 0]) ?_ 3 _ rfl; (with_reducible repeat (first | refine blk_drewN ?_ _ | refine blk_drew ?_ | refine blk_alloc ?_ _)); refine blk_put (cs := #[.bool false, .int .i64 0, .int .i64 0, .int .i64 0]) ?_ 2 _ rfl; (with_reducible repeat (first | refine blk_drewN ?_ _ | refine blk_drew ?_ | refine blk_alloc ?_ _)); refine blk_put (cs := #[.bool false, .int .i64 0, .int .i64 0, .int .i64 0]) ?_ 1 _ rfl; (with_reducible repeat (first | refine blk_drewN ?_ _ | refine blk_drew ?_ | refine blk_alloc ?_ _)); refine blk_put (cs := #[.bool false, .int .i64 0, .int .i64 0, .int .i64 0]) ?_ 0 _ rfl; (with_reducible repeat (first | refine blk_drewN ?_ _ | refine blk_drew ?_ | refine blk_alloc ?_ _)); exact BK380.out) hb); have n7_ := Aside0.mk (below_step (zw4 HB.out GE353.out GE371.out GE379.out GE380.out) hb); clear HO_3 HO_5 HO_7 BK353 BK371 BK379 BK380 HB; have HO_3 := n0_; have HO_5 := n1_; have HO_7 := n2_; have BK353 := n3_; have BK371 := n4_; have BK379 := n5_; have BK380 := n6_; have HB := n7_; clear n0_ n1_ n2_ n3_ n4_ n5_ n6_ n7_; (try clear hb); (try clear hb2); (try clear hk); (try clear hi)))
             go_meet
             case rel => exact ⟨_, (false), (zr), H', ⟨by have := HK1.out; have := HJ12.out; have := HK3.out; have := HK4.out; first | omega | exact Nat.le_refl _⟩, ⟨by (with_reducible repeat (first | apply Kd.R_alloc | apply Kd.R_drewN | apply Kd.R_drew)); exact HO_3.out⟩, ⟨by (with_reducible repeat (first | apply Kd.S_alloc | apply Kd.S_drewN | apply Kd.S_drew)); exact HO_5.out⟩, ⟨by (with_reducible repeat (first | apply Kd.R_alloc | apply Kd.R_drewN | apply Kd.R_drew)); exact HO_7.out⟩, ⟨zb BK353.out⟩, ⟨zb BK371.out⟩, ⟨zb BK379.out⟩, ⟨zb BK380.out⟩, ⟨zw4 HB.out GE353.out GE371.out GE379.out GE380.out⟩⟩
            subst c71
            have H1 : ((cellarref1_Kind.f x9_4).bind fun t382 => (if t382 = true then ((cellarref7_Pointer.f k4 t360 ((rd_T62 t367 x8_3).f0) ((rd_T62 t367 x8_3).f1) ((rd_T62 t367 x8_3).f2) ((rd_T62 t367 x8_3).f3)).bind fun t384 => (cellarlaw9_MemLoads.j4 k4 t355 x4_1 t360 true t367 x8_3 x9_4 t377 t378 1 0 t384 l0_0 l0_1 l0_2 l0_3 ((rd_T29 t355 (ji44)).f0) ((rd_T29 t355 (ji44)).f1) t373 t374 t375 t376 false 0 0 0)) else (cellarlaw9_MemLoads.j4 k4 t355 x4_1 t360 true t367 x8_3 x9_4 t377 t378 1 0 false l0_0 l0_1 l0_2 l0_3 ((rd_T29 t355 (ji44)).f0) ((rd_T29 t355 (ji44)).f1) t373 t374 t375 t376 false 0 0 0))) = some r := by rw [if_pos rfl] at H; exact H
            clear H
            have H := H1
            clear H1
            replace H := Option.bind_eq_some_iff.mp H
            obtain ⟨t382, A720, H⟩ := H
            replace H : (if t382 = true then ((cellarref7_Pointer.f k4 t360 ((rd_T62 t367 x8_3).f0) ((rd_T62 t367 x8_3).f1) ((rd_T62 t367 x8_3).f2) ((rd_T62 t367 x8_3).f3)).bind fun t384 => (cellarlaw9_MemLoads.j4 k4 t355 x4_1 t360 true t367 x8_3 x9_4 t377 t378 1 0 t384 l0_0 l0_1 l0_2 l0_3 ((rd_T29 t355 (ji44)).f0) ((rd_T29 t355 (ji44)).f1) t373 t374 t375 t376 false 0 0 0)) else (cellarlaw9_MemLoads.j4 k4 t355 x4_1 t360 true t367 x8_3 x9_4 t377 t378 1 0 false l0_0 l0_1 l0_2 l0_3 ((rd_T29 t355 (ji44)).f0) ((rd_T29 t355 (ji44)).f1) t373 t374 t375 t376 false 0 0 0)) = some r := H
            have A72 := Aside0.mk A720
            clear A720
            by_cases c73 : t382 = true
            rotate_left
            ·replace c73 := Bool.eq_false_iff.mpr c73
             subst c73
             have H1 : (cellarlaw9_MemLoads.j4 k4 t355 x4_1 t360 true t367 x8_3 x9_4 t377 t378 1 0 false l0_0 l0_1 l0_2 l0_3 ((rd_T29 t355 (ji44)).f0) ((rd_T29 t355 (ji44)).f1) t373 t374 t375 t376 false 0 0 0) = some r := by rw [if_neg (show ¬ (false = true) by decide)] at H; exact H
             clear H
             have H := H1
             clear H1
             have H' := Aside0.mk H
             clear H
             have hnb81 := NB371_353.out
             have hnc81 := NB353_371.out
             have hnb82 := NB371_379.out
             have hnc82 := NB379_371.out
             have hnb83 := NB371_380.out
             have hnc83 := NB380_371.out
             have hcz84_0 := zc BK371.out 0
             have hcz84_1 := zc BK371.out 1
             have hfz84_0 := blk_frozen BK371.out 0
             have hfz84_1 := blk_frozen BK371.out 1
             go_wp2_with (first | (go_at_call 31; (with_reducible refine (cellarref1_Abi.calls ((rd_T29 t355 (ji44)).f0) ((rd_T29 t355 (ji44)).f1) true _ A70.out).mono ?_); rintro e w85 ⟨rfl, hb⟩; have n0_ := Aside0.mk (Kd.R_below (by (with_reducible repeat (first | apply Kd.R_alloc | apply Kd.R_drewN | apply Kd.R_drew)); exact (Kd.R_mono (Kd.R_far (p := ⟨gb380, 3, none⟩) (Kd.R_far (p := ⟨gb380, 2, none⟩) (Kd.R_far (p := ⟨gb380, 1, none⟩) (Kd.R_far (p := ⟨gb380, 0, none⟩) (Kd.R_types HO_3.out BK380.out (by decide)) (fun _ hk => hk.2) (.bool false)) (fun _ hk => hk.2) (.int .i64 0)) (fun _ hk => hk.2) (.int .i64 0)) (fun _ hk => hk.2) (.int .i64 0)) (fun _ h_ => h_.1))) hb); have n1_ := Aside0.mk (Kd.S_below (by (with_reducible repeat (first | apply Kd.S_alloc | apply Kd.S_drewN | apply Kd.S_drew)); exact (Kd.S_mono (Kd.S_far (p := ⟨gb380, 3, none⟩) (Kd.S_far (p := ⟨gb380, 2, none⟩) (Kd.S_far (p := ⟨gb380, 1, none⟩) (Kd.S_far (p := ⟨gb380, 0, none⟩) (Kd.S_types HO_5.out BK380.out (by decide)) (fun _ hk => hk.2) (.bool false)) (fun _ hk => hk.2) (.int .i64 0)) (fun _ hk => hk.2) (.int .i64 0)) (fun _ hk => hk.2) (.int .i64 0)) (fun _ h_ => h_.1))) hb); have n2_ := Aside0.mk (Kd.R_below (by (with_reducible repeat (first | apply Kd.R_alloc | apply Kd.R_drewN | apply Kd.R_drew)); exact (Kd.R_mono (Kd.R_far (p := ⟨gb380, 3, none⟩) (Kd.R_far (p := ⟨gb380, 2, none⟩) (Kd.R_far (p := ⟨gb380, 1, none⟩) (Kd.R_far (p := ⟨gb380, 0, none⟩) (Kd.R_mono HO_7.out (fun k_ hk => (⟨hk, hk.2⟩ : _ ∧ k_ ≠ gb380))) (fun _ hk => hk.2) (.bool false)) (fun _ hk => hk.2) (.int .i64 0)) (fun _ hk => hk.2) (.int .i64 0)) (fun _ hk => hk.2) (.int .i64 0)) (fun _ h_ => h_.1))) hb); have n3_ := Aside0.mk (blk_below (g := gb353) (o := .cells #[.slice (some ad359) l0_0.length c0_0, .slice A0_1 l0_1.length c0_1, .slice A0_2 l0_2.length c0_2, .slice A0_3 l0_3.length c0_3] 54 (0, 0)) (zf1 BK353.out NB353_380.out) hb); have n4_ := Aside0.mk (blk_below (g := gb371) (o := .cells #[.bool ((rd_T29 t355 (ji44)).f0), .int .i64 ((rd_T29 t355 (ji44)).f1)] 29 (0, 0)) (zf1 BK371.out NB371_380.out) hb); have n5_ := Aside0.mk (blk_below (g := gb379) (o := .cells #[.bool t373, .int .i64 t374, .int .i64 t375, .int .i64 t376] 62 (0, 0)) (zf1 BK379.out NB379_380.out) hb); have n6_ := Aside0.mk (blk_below (g := gb380) (o := .cells #[.bool false, .int .i64 0, .int .i64 0, .int .i64 0] 62 (0, 0)) (by (with_reducible repeat (first | refine blk_drewN ?_ _ | refine blk_drew ?_ | refine blk_alloc ?_ _)); refine blk_put (cs := #[.bool false, .int .i64 0, .int .i64 0, .int .i64 0]) ?_ 3 _ rfl; (with_reducible repeat (first | refine blk_drewN ?_ _ | refine blk_drew ?_ | refine blk_alloc ?_ _)); refine blk_put (cs := #[.bool false, .int .i64 0, .int .i64 0, .int .i64 0]) ?_ 2 _ rfl; (with_reducible repeat (first | refine blk_drewN ?_ _ | refine blk_drew ?_ | refine blk_alloc ?_ _)); refine blk_put (cs := #[.bool false, .int .i64 0, .int .i64 0, .int .i64 0]) ?_ 1 _ rfl; (with_reducible repeat (first | refine blk_drewN ?_ _ | refine blk_drew ?_ | refine blk_alloc ?_ _)); refine blk_put (cs := #[.bool false, .int .i64 0, .int .i64 0, .int .i64 0]) ?_ 0 _ rfl; (with_reducible repeat (first | refine blk_drewN ?_ _ | refine blk_drew ?_ | refine blk_alloc ?_ _)); exact BK380.out) hb); have n7_ := Aside0.mk (below_step (zw4 HB.out GE353.out GE371.out GE379.out GE380.out) hb); clear HO_3 HO_5 HO_7 BK353 BK371 BK379 BK380 HB; have HO_3 := n0_; have HO_5 := n1_; have HO_7 := n2_; have BK353 := n3_; have BK371 := n4_; have BK379 := n5_; have BK380 := n6_; have HB := n7_; clear n0_ n1_ n2_ n3_ n4_ n5_ n6_ n7_; (try clear hb); (try clear hb2); (try clear hk); (try clear hi)) | (go_at_call 41; (with_reducible refine (cellarref1_Kind.calls x9_4 false _ A72.out).mono ?_); rintro e w' ⟨rfl, ⟨nd, rfl⟩⟩))
             go_meet
             case rel => exact ⟨_, (false), (zr), H', ⟨by have := HK1.out; have := HJ12.out; have := HK3.out; have := HK4.out; first | omega | exact Nat.le_refl _⟩, ⟨by (with_reducible repeat (first | apply Kd.R_alloc | apply Kd.R_drewN | apply Kd.R_drew)); exact HO_3.out⟩, ⟨by (with_reducible repeat (first | apply Kd.S_alloc | apply Kd.S_drewN | apply Kd.S_drew)); exact HO_5.out⟩, ⟨by (with_reducible repeat (first | apply Kd.R_alloc | apply Kd.R_drewN | apply Kd.R_drew)); exact HO_7.out⟩, ⟨zb BK353.out⟩, ⟨zb BK371.out⟩, ⟨zb BK379.out⟩, ⟨zb BK380.out⟩, ⟨zw4 HB.out GE353.out GE371.out GE379.out GE380.out⟩⟩
            subst c73
            have H1 : ((cellarref7_Pointer.f k4 t360 ((rd_T62 t367 x8_3).f0) ((rd_T62 t367 x8_3).f1) ((rd_T62 t367 x8_3).f2) ((rd_T62 t367 x8_3).f3)).bind fun t384 => (cellarlaw9_MemLoads.j4 k4 t355 x4_1 t360 true t367 x8_3 x9_4 t377 t378 1 0 t384 l0_0 l0_1 l0_2 l0_3 ((rd_T29 t355 (ji44)).f0) ((rd_T29 t355 (ji44)).f1) t373 t374 t375 t376 false 0 0 0)) = some r := by rw [if_pos rfl] at H; exact H
            clear H
            have H := H1
            clear H1
            replace H := Option.bind_eq_some_iff.mp H
            obtain ⟨t384, A740, H⟩ := H
            replace H : (cellarlaw9_MemLoads.j4 k4 t355 x4_1 t360 true t367 x8_3 x9_4 t377 t378 1 0 t384 l0_0 l0_1 l0_2 l0_3 ((rd_T29 t355 (ji44)).f0) ((rd_T29 t355 (ji44)).f1) t373 t374 t375 t376 false 0 0 0) = some r := H
            have A74 := Aside0.mk A740
            clear A740
            have H' := Aside0.mk H
            clear H
            have hnb75 := NB371_353.out
            have hnc75 := NB353_371.out
            have hnb76 := NB371_379.out
            have hnc76 := NB379_371.out
            have hnb77 := NB371_380.out
            have hnc77 := NB380_371.out
            have hcz78_0 := zc BK371.out 0
            have hcz78_1 := zc BK371.out 1
            have hfz78_0 := blk_frozen BK371.out 0
            have hfz78_1 := blk_frozen BK371.out 1
            go_wp2_with (first | (go_at_call 31; (with_reducible refine (cellarref1_Abi.calls ((rd_T29 t355 (ji44)).f0) ((rd_T29 t355 (ji44)).f1) true _ A70.out).mono ?_); rintro e w79 ⟨rfl, hb⟩; have n0_ := Aside0.mk (Kd.R_below (by (with_reducible repeat (first | apply Kd.R_alloc | apply Kd.R_drewN | apply Kd.R_drew)); exact (Kd.R_mono (Kd.R_far (p := ⟨gb380, 3, none⟩) (Kd.R_far (p := ⟨gb380, 2, none⟩) (Kd.R_far (p := ⟨gb380, 1, none⟩) (Kd.R_far (p := ⟨gb380, 0, none⟩) (Kd.R_types HO_3.out BK380.out (by decide)) (fun _ hk => hk.2) (.bool false)) (fun _ hk => hk.2) (.int .i64 0)) (fun _ hk => hk.2) (.int .i64 0)) (fun _ hk => hk.2) (.int .i64 0)) (fun _ h_ => h_.1))) hb); have n1_ := Aside0.mk (Kd.S_below (by (with_reducible repeat (first | apply Kd.S_alloc | apply Kd.S_drewN | apply Kd.S_drew)); exact (Kd.S_mono (Kd.S_far (p := ⟨gb380, 3, none⟩) (Kd.S_far (p := ⟨gb380, 2, none⟩) (Kd.S_far (p := ⟨gb380, 1, none⟩) (Kd.S_far (p := ⟨gb380, 0, none⟩) (Kd.S_types HO_5.out BK380.out (by decide)) (fun _ hk => hk.2) (.bool false)) (fun _ hk => hk.2) (.int .i64 0)) (fun _ hk => hk.2) (.int .i64 0)) (fun _ hk => hk.2) (.int .i64 0)) (fun _ h_ => h_.1))) hb); have n2_ := Aside0.mk (Kd.R_below (by (with_reducible repeat (first | apply Kd.R_alloc | apply Kd.R_drewN | apply Kd.R_drew)); exact (Kd.R_mono (Kd.R_far (p := ⟨gb380, 3, none⟩) (Kd.R_far (p := ⟨gb380, 2, none⟩) (Kd.R_far (p := ⟨gb380, 1, none⟩) (Kd.R_far (p := ⟨gb380, 0, none⟩) (Kd.R_mono HO_7.out (fun k_ hk => (⟨hk, hk.2⟩ : _ ∧ k_ ≠ gb380))) (fun _ hk => hk.2) (.bool false)) (fun _ hk => hk.2) (.int .i64 0)) (fun _ hk => hk.2) (.int .i64 0)) (fun _ hk => hk.2) (.int .i64 0)) (fun _ h_ => h_.1))) hb); have n3_ := Aside0.mk (blk_below (g := gb353) (o := .cells #[.slice (some ad359) l0_0.length c0_0, .slice A0_1 l0_1.length c0_1, .slice A0_2 l0_2.length c0_2, .slice A0_3 l0_3.length c0_3] 54 (0, 0)) (zf1 BK353.out NB353_380.out) hb); have n4_ := Aside0.mk (blk_below (g := gb371) (o := .cells #[.bool ((rd_T29 t355 (ji44)).f0), .int .i64 ((rd_T29 t355 (ji44)).f1)] 29 (0, 0)) (zf1 BK371.out NB371_380.out) hb); have n5_ := Aside0.mk (blk_below (g := gb379) (o := .cells #[.bool t373, .int .i64 t374, .int .i64 t375, .int .i64 t376] 62 (0, 0)) (zf1 BK379.out NB379_380.out) hb); have n6_ := Aside0.mk (blk_below (g := gb380) (o := .cells #[.bool false, .int .i64 0, .int .i64 0, .int .i64 0] 62 (0, 0)) (by (with_reducible repeat (first | refine blk_drewN ?_ _ | refine blk_drew ?_ | refine blk_alloc ?_ _)); refine blk_put (cs := #[.bool false, .int .i64 0, .int .i64 0, .int .i64 0]) ?_ 3 _ rfl; (with_reducible repeat (first | refine blk_drewN ?_ _ | refine blk_drew ?_ | refine blk_alloc ?_ _)); refine blk_put (cs := #[.bool false, .int .i64 0, .int .i64 0, .int .i64 0]) ?_ 2 _ rfl; (with_reducible repeat (first | refine blk_drewN ?_ _ | refine blk_drew ?_ | refine blk_alloc ?_ _)); refine blk_put (cs := #[.bool false, .int .i64 0, .int .i64 0, .int .i64 0]) ?_ 1 _ rfl; (with_reducible repeat (first | refine blk_drewN ?_ _ | refine blk_drew ?_ | refine blk_alloc ?_ _)); refine blk_put (cs := #[.bool false, .int .i64 0, .int .i64 0, .int .i64 0]) ?_ 0 _ rfl; (with_reducible repeat (first | refine blk_drewN ?_ _ | refine blk_drew ?_ | refine blk_alloc ?_ _)); exact BK380.out) hb); have n7_ := Aside0.mk (below_step (zw4 HB.out GE353.out GE371.out GE379.out GE380.out) hb); clear HO_3 HO_5 HO_7 BK353 BK371 BK379 BK380 HB; have HO_3 := n0_; have HO_5 := n1_; have HO_7 := n2_; have BK353 := n3_; have BK371 := n4_; have BK379 := n5_; have BK380 := n6_; have HB := n7_; clear n0_ n1_ n2_ n3_ n4_ n5_ n6_ n7_; (try clear hb); (try clear hb2); (try clear hk); (try clear hi)) | (go_at_call 41; (with_reducible refine (cellarref1_Kind.calls x9_4 true _ A72.out).mono ?_); rintro e w' ⟨rfl, ⟨nd, rfl⟩⟩; have p383 : 0 ≤ (x8_3 : Int) := zdec; have q383 : x8_3 < (t367.length : Int) := zdec; obtain ⟨ad383, e383, hx383_0, hx383_1, hx383_2, hx383_3⟩ := at_T62 (Kd.R_reads' HO_7.out).2.2 x8_3 p383 q383; obtain rfl : ad372 = ad383 := (by injection e383); replace p383 := eq_true p383; replace q383 := eq_true q383) | (go_at_call 33; (with_reducible refine (cellarref7_Pointer.calls k4 _ _ t360 ((rd_T62 t367 x8_3).f0) ((rd_T62 t367 x8_3).f1) ((rd_T62 t367 x8_3).f2) ((rd_T62 t367 x8_3).f3) t384 _ ?side1 ?side2 A74.out).mono ?_); (case side1 => repeat (first | exact (Kd.S_reads' HO_5.out).2.2 | (with_reducible refine Kd.C_alloc ?_ _) | (with_reducible refine Kd.C_drewN ?_ _) | (with_reducible refine Kd.C_drew ?_))); (case side2 => exact (Kd.S_reads' HO_5.out).2.1); rintro e w80 ⟨rfl, hb⟩; have n0_ := Aside0.mk (Kd.R_below (by (with_reducible repeat (first | apply Kd.R_alloc | apply Kd.R_drewN | apply Kd.R_drew)); exact HO_3.out) hb); have n1_ := Aside0.mk (Kd.S_below (by (with_reducible repeat (first | apply Kd.S_alloc | apply Kd.S_drewN | apply Kd.S_drew)); exact HO_5.out) hb); have n2_ := Aside0.mk (Kd.R_below (by (with_reducible repeat (first | apply Kd.R_alloc | apply Kd.R_drewN | apply Kd.R_drew)); exact HO_7.out) hb); have n3_ := Aside0.mk (zbb BK353.out hb); have n4_ := Aside0.mk (zbb BK371.out hb); have n5_ := Aside0.mk (zbb BK379.out hb); have n6_ := Aside0.mk (zbb BK380.out hb); have n7_ := Aside0.mk (below_step (zw4 HB.out GE353.out GE371.out GE379.out GE380.out) hb); clear HO_3 HO_5 HO_7 BK353 BK371 BK379 BK380 HB; have HO_3 := n0_; have HO_5 := n1_; have HO_7 := n2_; have BK353 := n3_; have BK371 := n4_; have BK379 := n5_; have BK380 := n6_; have HB := n7_; clear n0_ n1_ n2_ n3_ n4_ n5_ n6_ n7_; (try clear hb); (try clear hb2); (try clear hk); (try clear hi)))
            go_meet
            case rel => exact ⟨_, (t384), (zr), H', ⟨by have := HK1.out; have := HJ12.out; have := HK3.out; have := HK4.out; first | omega | exact Nat.le_refl _⟩, ⟨by (with_reducible repeat (first | apply Kd.R_alloc | apply Kd.R_drewN | apply Kd.R_drew)); exact HO_3.out⟩, ⟨by (with_reducible repeat (first | apply Kd.S_alloc | apply Kd.S_drewN | apply Kd.S_drew)); exact HO_5.out⟩, ⟨by (with_reducible repeat (first | apply Kd.R_alloc | apply Kd.R_drewN | apply Kd.R_drew)); exact HO_7.out⟩, ⟨zb BK353.out⟩, ⟨zb BK371.out⟩, ⟨zb BK379.out⟩, ⟨zb BK380.out⟩, ⟨zw4 HB.out GE353.out GE371.out GE379.out GE380.out⟩⟩
           case rest =>
            clear HC50
            try clear p2
            try clear c3
            try clear p3
            try clear q3
            try clear hx3
            try clear c4
            try clear c5
            try clear c6
            try clear p6
            try clear c7
            try clear c8
            try clear p37
            try clear q37
            try clear hx37
            try clear p38
            try clear q38
            try clear hx38
            try clear c39
            try clear c42
            try clear c42b0
            try clear c43
            try clear c43b0
            try clear c43b1
            try clear c43b2
            try clear c45
            try clear c45b0
            try clear c46
            try clear c46b0
            try clear c47
            try clear c47b0
            try clear c48
            try clear c48b0
            try clear c53
            try clear p64
            try clear c65
            try clear c66
            try clear c67
            try clear c69
            try clear c71
            try clear c73
            try clear c75
            try clear c76
            try clear c77
            try clear c81
            try clear c82
            try clear c83
            try clear c86
            try clear c87
            try clear c88
            try clear hcz54_0
            try clear hcz54_1
            try clear hcz68_0
            try clear hcz68_1
            try clear hcz68_2
            try clear hcz68_3
            try clear hcz78_0
            try clear hcz78_1
            try clear hcz84_0
            try clear hcz84_1
            try clear hcz89_0
            try clear hcz89_1
            try clear hfz54_0
            try clear hfz54_1
            try clear hfz68_0
            try clear hfz68_1
            try clear hfz68_2
            try clear hfz68_3
            try clear hfz78_0
            try clear hfz78_1
            try clear hfz84_0
            try clear hfz84_1
            try clear hfz89_0
            try clear hfz89_1
            try clear hx370_0
            try clear hx370_1
            try clear hx372_0
            try clear hx372_1
            try clear hx372_2
            try clear hx372_3
            try clear hx383_0
            try clear hx383_1
            try clear hx383_2
            try clear hx383_3
            try clear p370
            try clear p372
            try clear p383
            try clear q370
            try clear q372
            try clear q383
            obtain ⟨kq, x102_49, rfl, HA, HJ49, HO_3, HO_5, HO_7, BK353, BK371, BK379, BK380, HB⟩ := hcut
            cases kq with
            | zero => exact absurd HA.out (by simp [cellarlaw9_MemLoads.j4])
            | succ kj49 =>
             have H := HA.out
             clear HA
             simp only [cellarlaw9_MemLoads.j4] at H
             have HC91 := Aside0.mk H
             clear H
             go_upto_if 102 with (fail)
             go_cut [14, 16] (fun v14 v16 wc => ∃ (kq : Nat) (x14_90 : Int) (x16_90 : Int) (x381000_90 : Bool) (x381001_90 : Int) (x381002_90 : Int) (x381003_90 : Int), v14 = .int .i64 x14_90 ∧ v16 = .int .i64 x16_90 ∧ Aside0 (cellarlaw9_MemLoads.j5 kq t355 x4_1 t360 t364 t367 x8_3 x9_4 t377 t378 x14_90 x16_90 l0_0 l0_1 l0_2 l0_3 t373 t374 t375 t376 x381000_90 x381001_90 x381002_90 x381003_90 = some r) ∧ Aside0 (kq ≤ kj49) ∧ Aside0 (Kd.R k29 29 wc w.heap.size (fun k_ => k_ ≠ gb371) (.slice (some ad370) t355.length co51) t355) ∧ Aside0 (Kd.S k76 76 wc w.heap.size (fun _ => True) (.slice Ao36 t360.length co36) t360) ∧ Aside0 (Kd.R k62 62 wc w.heap.size (fun k_ => k_ ≠ gb379 ∧ k_ ≠ gb380) (.slice (some ad372) t367.length co41) t367) ∧ Aside0 (wc.heap[gb353]? = some (.cells #[(.slice (some ad359) l0_0.length c0_0), (.slice A0_1 l0_1.length c0_1), (.slice A0_2 l0_2.length c0_2), (.slice A0_3 l0_3.length c0_3)] 54 (0, 0))) ∧ Aside0 (wc.heap[gb371]? = some (.cells #[.bool ((rd_T29 t355 (ji44)).f0), .int .i64 ((rd_T29 t355 (ji44)).f1)] 29 (0, 0))) ∧ Aside0 (wc.heap[gb379]? = some (.cells #[.bool t373, .int .i64 t374, .int .i64 t375, .int .i64 t376] 62 (0, 0))) ∧ Aside0 (wc.heap[gb380]? = some (.cells #[.bool x381000_90, .int .i64 x381001_90, .int .i64 x381002_90, .int .i64 x381003_90] 62 (0, 0))) ∧ Aside0 (Below w.heap.size w wc))
             case first =>
              have H := HC91.out
              clear HC91
              by_cases c92 : x102_49 = true
              rotate_left
              ·replace c92 := Bool.eq_false_iff.mpr c92
               subst c92
               have H1 : (cellarlaw9_MemLoads.j5 kj49 t355 x4_1 t360 t364 t367 x8_3 x9_4 t377 t378 1 0 l0_0 l0_1 l0_2 l0_3 t373 t374 t375 t376 false 0 0 0) = some r := by rw [if_neg (show ¬ (false = true) by decide)] at H; exact H
               clear H
               have H := H1
               clear H1
               have H' := Aside0.mk H
               clear H
               go_wp2
               go_meet
               case rel => exact ⟨_, (1), (0), (false), (0), (0), (0), (zr), (zr), H', ⟨by have := HK1.out; have := HJ12.out; have := HK3.out; have := HK4.out; have := HJ49.out; first | omega | exact Nat.le_refl _⟩, ⟨by (with_reducible repeat (first | apply Kd.R_alloc | apply Kd.R_drewN | apply Kd.R_drew)); exact HO_3.out⟩, ⟨by (with_reducible repeat (first | apply Kd.S_alloc | apply Kd.S_drewN | apply Kd.S_drew)); exact HO_5.out⟩, ⟨by (with_reducible repeat (first | apply Kd.R_alloc | apply Kd.R_drewN | apply Kd.R_drew)); exact HO_7.out⟩, ⟨zb BK353.out⟩, ⟨zb BK371.out⟩, ⟨zb BK379.out⟩, ⟨zb BK380.out⟩, ⟨zw4 HB.out GE353.out GE371.out GE379.out GE380.out⟩⟩
              subst c92
              have H1 : (if 0 ≤ x8_3 then (if x8_3 < (t367.length : Int) then ((cellarref7_Load.f kj49 ((rd_T29 t355 (ji44)).f0) ((rd_T29 t355 (ji44)).f1) t360 ((rd_T62 t367 x8_3).f0) ((rd_T62 t367 x8_3).f1) ((rd_T62 t367 x8_3).f2) ((rd_T62 t367 x8_3).f3) x9_4).bind fun bt386 => (cellarlaw9_MemLoads.j5 kj49 t355 x4_1 t360 t364 t367 x8_3 x9_4 t377 t378 0 bt386.2.2.2.2 l0_0 l0_1 l0_2 l0_3 t373 t374 t375 t376 bt386.1 bt386.2.1 bt386.2.2.1 bt386.2.2.2.1)) else (none)) else (none)) = some r := by rw [if_pos rfl] at H; exact H
              clear H
              have H := H1
              clear H1
              by_cases c93 : 0 ≤ x8_3
              rotate_left
              ·rw [if_neg c93] at H
               exact absurd H (by simp)
              rw [if_pos c93] at H
              have c93b0 : decide (0 ≤ x8_3) = true := decide_eq_true c93
              clear c93
              (first | rw [c93b0] | (simp only [i64_w, i32_w]; rw [c93b0]) | skip)
              by_cases c94 : x8_3 < (t367.length : Int)
              rotate_left
              ·rw [if_neg c94] at H
               exact absurd H (by simp)
              rw [if_pos c94] at H
              have c94b0 : decide (x8_3 < (t367.length : Int)) = true := decide_eq_true c94
              clear c94
              replace H := Option.bind_eq_some_iff.mp H
              obtain ⟨⟨t386, t387, t388, t389, t390⟩, A950, H⟩ := H
              replace H : (cellarlaw9_MemLoads.j5 kj49 t355 x4_1 t360 t364 t367 x8_3 x9_4 t377 t378 0 t390 l0_0 l0_1 l0_2 l0_3 t373 t374 t375 t376 t386 t387 t388 t389) = some r := H
              have A95 := Aside0.mk A950
              clear A950
              have H' := Aside0.mk H
              clear H
              try go_wp2
              have n0_ := Aside0.mk (Kd.R_drew HO_3.out)
              have n1_ := Aside0.mk (Kd.S_drew HO_5.out)
              have n2_ := Aside0.mk (Kd.R_drew HO_7.out)
              have n3_ := Aside0.mk (blk_drew BK353.out)
              have n4_ := Aside0.mk (blk_drew BK371.out)
              have n5_ := Aside0.mk (blk_drew BK379.out)
              have n6_ := Aside0.mk (blk_drew BK380.out)
              have n7_ := Aside0.mk (below_drew1 HB.out)
              clear HO_3
              clear HO_5
              clear HO_7
              clear BK353
              clear BK371
              clear BK379
              clear BK380
              clear HB
              have HO_3 := n0_
              have HO_5 := n1_
              have HO_7 := n2_
              have BK353 := n3_
              have BK371 := n4_
              have BK379 := n5_
              have BK380 := n6_
              have HB := n7_
              clear n0_ n1_ n2_ n3_ n4_ n5_ n6_ n7_
              have p385 : 0 ≤ (x8_3 : Int) := zdec
              have q385 : x8_3 < (t367.length : Int) := zdec
              obtain ⟨ad385, e385, hx385_0, hx385_1, hx385_2, hx385_3⟩ := at_T62 (Kd.R_reads' HO_7.out).2.2 x8_3 p385 q385
              obtain rfl : ad372 = ad385 := (by injection e385)
              replace p385 := eq_true p385
              replace q385 := eq_true q385
              refine start_ (n := 13) (S := fun w' => w'.cell? ⟨gb371, 0, none⟩ = some (.bool ((rd_T29 t355 (ji44)).f0)) ∧ w'.cell? ⟨gb371, 1, none⟩ = some (.int .i64 ((rd_T29 t355 (ji44)).f1)) ∧ w'.cell? (ad372.add ((x8_3).toNat * 4)) = some (.bool ((rd_T62 t367 x8_3).f0)) ∧ w'.cell? ⟨(ad372.add ((x8_3).toNat * 4)).block, (ad372.add ((x8_3).toNat * 4)).off + 1, none⟩ = some (.int .i64 ((rd_T62 t367 x8_3).f1)) ∧ w'.cell? ⟨(ad372.add ((x8_3).toNat * 4)).block, (ad372.add ((x8_3).toNat * 4)).off + 2, none⟩ = some (.int .i64 ((rd_T62 t367 x8_3).f2)) ∧ w'.cell? ⟨(ad372.add ((x8_3).toNat * 4)).block, (ad372.add ((x8_3).toNat * 4)).off + 3, none⟩ = some (.int .i64 ((rd_T62 t367 x8_3).f3))) (ds := []) cellarlaw9_MemLoads.b22 (by kernel_rfl) rfl rfl ⟨(blk_cell BK371.out 0).trans rfl, (blk_cell BK371.out 1).trans rfl, hx385_0, hx385_1, hx385_2, hx385_3⟩ (fun hHeld => ?_); refine with_tabW cellarlaw9_MemLoads.tab23 cellarlaw9_MemLoads.bits23 (fun HT_ HW_ => ?_)
              generalize wc.drew = w96 at HO_3 HO_5 HO_7 BK353 BK371 BK379 BK380 HB hx385_0 hx385_1 hx385_2 hx385_3 hHeld ⊢
              refine zp (i := 1) (N := some 105) cellarlaw9_MemLoads.b23 (any_of HT_.out (by kernel_rfl)) ?_
              refine zp (i := 2) (N := some 106) cellarlaw9_MemLoads.b24 (any_of HT_.out (by kernel_rfl)) ?_
              refine zp (i := 3) (N := some 107) cellarlaw9_MemLoads.b25 (any_of HT_.out (by kernel_rfl)) ?_
              refine zp (i := 4) (N := some 108) cellarlaw9_MemLoads.b26 (any_of HT_.out (by kernel_rfl)) ?_
              refine zp (i := 6) (N := some 110) cellarlaw9_MemLoads.b27 (any_of HT_.out (by kernel_rfl)) ?_
              refine take_ (i := 0) (N := some 104) (v := ?_) (a' := ?_) cellarlaw9_MemLoads.b28 rfl rfl (take_ofW HT_.out HW_.out (by kernel_rfl)) (fun _ _ _ h => h) (Or.inl ⟨by rfl, ?_⟩) hHeld ?_ ?_
              rotate_left
              ·rintro w' ⟨s0, s1, s2, s3, s4, s5⟩
               go_simp
               with_reducible rfl
              rotate_left
              ·simp only [Act.put, List.setIfInBounds_toArray, List.set_cons_zero, List.set_cons_succ, i64_w, i32_w]
               rfl
              refine take_ (i := 5) (N := some 109) (v := ?_) (a' := ?_) cellarlaw9_MemLoads.b29 rfl rfl (take_ofW HT_.out HW_.out (by kernel_rfl)) (fun _ _ _ h => h) (Or.inl ⟨by rfl, ?_⟩) hHeld ?_ ?_
              rotate_left
              ·rintro w' ⟨s0, s1, s2, s3, s4, s5⟩
               go_simp
               with_reducible rfl
              rotate_left
              ·simp only [Act.put, List.setIfInBounds_toArray, List.set_cons_zero, List.set_cons_succ, i64_w, i32_w]
               rfl
              refine one_ (i := 7) (N := some 111) cellarlaw9_MemLoads.b30 rfl rfl (one_of HT_.out (by kernel_rfl)) (by decide) (fun K hK => ?_)
              refine goes_ Try.func40 (by kernel_rfl) rfl #[.agg #[.bool ((rd_T29 t355 (ji44)).f0), .int .i64 ((rd_T29 t355 (ji44)).f1)], .slice Ao36 t360.length co36, .agg #[.bool ((rd_T62 t367 x8_3).f0), .int .i64 ((rd_T62 t367 x8_3).f1), .int .i64 ((rd_T62 t367 x8_3).f2), .int .i64 ((rd_T62 t367 x8_3).f3)], .int .i64 x9_4] (by rfl) rfl rfl (by (try simp only [List.map_toArray, List.map_cons, List.map_nil]); first | done | (simp only [hji44]; rfl) | rfl | (simp only [List.length_drop, List.length_take]; rfl)) ?_
              with_reducible refine (cellarref7_Load.calls kj49 ((rd_T29 t355 (ji44)).f0) ((rd_T29 t355 (ji44)).f1) _ _ t360 ((rd_T62 t367 x8_3).f0) ((rd_T62 t367 x8_3).f1) ((rd_T62 t367 x8_3).f2) ((rd_T62 t367 x8_3).f3) x9_4 t386 t387 t388 t389 t390 _ ?side1 ?side2 A95.out).mono ?_
              (case side1 => repeat (first | exact (Kd.S_reads' HO_5.out).2.2 | (with_reducible refine Kd.C_alloc ?_ _) | (with_reducible refine Kd.C_drewN ?_ _) | (with_reducible refine Kd.C_drew ?_)))
              (case side2 => exact (Kd.S_reads' HO_5.out).2.1)
              rintro e w97 ⟨rfl, hb⟩
              have HS2_ := (hb.cell (World.block_lt_of_cell? _ _ (hHeld.2.2.1))).trans (hHeld.2.2.1)
              have HS3_ := (hb.cell (World.block_lt_of_cell? _ _ (hHeld.2.2.2.1))).trans (hHeld.2.2.2.1)
              have HS4_ := (hb.cell (World.block_lt_of_cell? _ _ (hHeld.2.2.2.2.1))).trans (hHeld.2.2.2.2.1)
              have HS5_ := (hb.cell (World.block_lt_of_cell? _ _ (hHeld.2.2.2.2.2))).trans (hHeld.2.2.2.2.2)
              refine ⟨_, rfl, ?_⟩
              have n0_ := Aside0.mk (Kd.R_below (by (with_reducible repeat (first | apply Kd.R_alloc | apply Kd.R_drewN | apply Kd.R_drew)); exact HO_3.out) hb)
              have n1_ := Aside0.mk (Kd.S_below (by (with_reducible repeat (first | apply Kd.S_alloc | apply Kd.S_drewN | apply Kd.S_drew)); exact HO_5.out) hb)
              have n2_ := Aside0.mk (Kd.R_below (by (with_reducible repeat (first | apply Kd.R_alloc | apply Kd.R_drewN | apply Kd.R_drew)); exact HO_7.out) hb)
              have n3_ := Aside0.mk (zbb BK353.out hb)
              have n4_ := Aside0.mk (zbb BK371.out hb)
              have n5_ := Aside0.mk (zbb BK379.out hb)
              have n6_ := Aside0.mk (zbb BK380.out hb)
              have n7_ := Aside0.mk (below_step (zw4 HB.out GE353.out GE371.out GE379.out GE380.out) hb)
              clear HO_3
              clear HO_5
              clear HO_7
              clear BK353
              clear BK371
              clear BK379
              clear BK380
              clear HB
              have HO_3 := n0_
              have HO_5 := n1_
              have HO_7 := n2_
              have BK353 := n3_
              have BK371 := n4_
              have BK379 := n5_
              have BK380 := n6_
              have HB := n7_
              clear n0_ n1_ n2_ n3_ n4_ n5_ n6_ n7_
              (try clear hb)
              (try clear hb2)
              (try clear hk)
              (try clear hi)
              refine hK.out _ _ ⟨(blk_cell BK371.out 0).trans rfl, (blk_cell BK371.out 1).trans rfl, HS2_, HS3_, HS4_, HS5_⟩ (fun hHeld => ?_)
              clear hK K
              refine norm_ (a' := ?_) ?_ ?_
              rotate_left
              ·show Act.put _ (some 111) _ = _
               simp only [Act.put, List.setIfInBounds_toArray, List.set_cons_zero, List.set_cons_succ, i64_w, i32_w]
               rfl
              refine zp (i := 8) (N := some 103) cellarlaw9_MemLoads.b31 (any_of HT_.out (by kernel_rfl)) ?_
              refine zp (i := 9) (N := some 112) cellarlaw9_MemLoads.b32 (any_of HT_.out (by kernel_rfl)) ?_
              refine zp (i := 10) (N := some 113) cellarlaw9_MemLoads.b33 (any_of HT_.out (by kernel_rfl)) ?_
              refine one_ (i := 11) (N := none) cellarlaw9_MemLoads.b34 rfl rfl (one_of HT_.out (by kernel_rfl)) (by decide) (fun K hK => ?_)
              have hs98 : w97.cell? ⟨gb380, 0, none⟩ = some (.bool false) := (blk_cell BK380.out 0).trans rfl
              have hfs98 := blk_frozen BK380.out 0
              have hns98_0 := NB353_380.out
              have hns98_1 := NB371_380.out
              have hns98_2 := NB379_380.out
              have hms98_0 := NB380_353.out
              have hms98_1 := NB380_371.out
              have hms98_2 := NB380_379.out
              have hs99 : w97.cell? ⟨gb380, 1, none⟩ = some (.int .i64 0) := (blk_cell BK380.out 1).trans rfl
              have hfs99 := blk_frozen BK380.out 1
              have hns99_0 := NB353_380.out
              have hns99_1 := NB371_380.out
              have hns99_2 := NB379_380.out
              have hms99_0 := NB380_353.out
              have hms99_1 := NB380_371.out
              have hms99_2 := NB380_379.out
              have hs100 : w97.cell? ⟨gb380, 2, none⟩ = some (.int .i64 0) := (blk_cell BK380.out 2).trans rfl
              have hfs100 := blk_frozen BK380.out 2
              have hns100_0 := NB353_380.out
              have hns100_1 := NB371_380.out
              have hns100_2 := NB379_380.out
              have hms100_0 := NB380_353.out
              have hms100_1 := NB380_371.out
              have hms100_2 := NB380_379.out
              have hs101 : w97.cell? ⟨gb380, 3, none⟩ = some (.int .i64 0) := (blk_cell BK380.out 3).trans rfl
              have hfs101 := blk_frozen BK380.out 3
              have hns101_0 := NB353_380.out
              have hns101_1 := NB371_380.out
              have hns101_2 := NB379_380.out
              have hms101_0 := NB380_353.out
              have hms101_1 := NB380_371.out
              have hms101_2 := NB380_379.out
              refine skip_ (w1 := ?_) (by rfl) rfl ?_ ?_
              rotate_left
              ·go_simp
               rfl
              refine hK.out _ _ ⟨((cell_far (p := ⟨gb380, _, none⟩) NB371_380.out _).trans (((cell_far (p := ⟨gb380, _, none⟩) NB371_380.out _).trans (((cell_far (p := ⟨gb380, _, none⟩) NB371_380.out _).trans (((cell_far (p := ⟨gb380, _, none⟩) NB371_380.out _).trans (hHeld.1)))))))), ((cell_far (p := ⟨gb380, _, none⟩) NB371_380.out _).trans (((cell_far (p := ⟨gb380, _, none⟩) NB371_380.out _).trans (((cell_far (p := ⟨gb380, _, none⟩) NB371_380.out _).trans (((cell_far (p := ⟨gb380, _, none⟩) NB371_380.out _).trans (hHeld.2.1)))))))), ((cell_far (p := ⟨gb380, _, none⟩) (by first | exact Kd.own_blk (Kd.R_away HO_7.out (fun _ hk => hk.2)) | (rw [add_block]; exact Kd.own_blk (Kd.R_away HO_7.out (fun _ hk => hk.2))) | (show (Addr.add _ _).block ≠ _; rw [add_block]; exact Kd.own_blk (Kd.R_away HO_7.out (fun _ hk => hk.2))) | (dsimp only; exact Kd.own_blk (Kd.R_away HO_7.out (fun _ hk => hk.2)))) _).trans (((cell_far (p := ⟨gb380, _, none⟩) (by first | exact Kd.own_blk (Kd.R_away HO_7.out (fun _ hk => hk.2)) | (rw [add_block]; exact Kd.own_blk (Kd.R_away HO_7.out (fun _ hk => hk.2))) | (show (Addr.add _ _).block ≠ _; rw [add_block]; exact Kd.own_blk (Kd.R_away HO_7.out (fun _ hk => hk.2))) | (dsimp only; exact Kd.own_blk (Kd.R_away HO_7.out (fun _ hk => hk.2)))) _).trans (((cell_far (p := ⟨gb380, _, none⟩) (by first | exact Kd.own_blk (Kd.R_away HO_7.out (fun _ hk => hk.2)) | (rw [add_block]; exact Kd.own_blk (Kd.R_away HO_7.out (fun _ hk => hk.2))) | (show (Addr.add _ _).block ≠ _; rw [add_block]; exact Kd.own_blk (Kd.R_away HO_7.out (fun _ hk => hk.2))) | (dsimp only; exact Kd.own_blk (Kd.R_away HO_7.out (fun _ hk => hk.2)))) _).trans (((cell_far (p := ⟨gb380, _, none⟩) (by first | exact Kd.own_blk (Kd.R_away HO_7.out (fun _ hk => hk.2)) | (rw [add_block]; exact Kd.own_blk (Kd.R_away HO_7.out (fun _ hk => hk.2))) | (show (Addr.add _ _).block ≠ _; rw [add_block]; exact Kd.own_blk (Kd.R_away HO_7.out (fun _ hk => hk.2))) | (dsimp only; exact Kd.own_blk (Kd.R_away HO_7.out (fun _ hk => hk.2)))) _).trans (hHeld.2.2.1)))))))), ((cell_far (p := ⟨gb380, _, none⟩) (by first | exact Kd.own_blk (Kd.R_away HO_7.out (fun _ hk => hk.2)) | (rw [add_block]; exact Kd.own_blk (Kd.R_away HO_7.out (fun _ hk => hk.2))) | (show (Addr.add _ _).block ≠ _; rw [add_block]; exact Kd.own_blk (Kd.R_away HO_7.out (fun _ hk => hk.2))) | (dsimp only; exact Kd.own_blk (Kd.R_away HO_7.out (fun _ hk => hk.2)))) _).trans (((cell_far (p := ⟨gb380, _, none⟩) (by first | exact Kd.own_blk (Kd.R_away HO_7.out (fun _ hk => hk.2)) | (rw [add_block]; exact Kd.own_blk (Kd.R_away HO_7.out (fun _ hk => hk.2))) | (show (Addr.add _ _).block ≠ _; rw [add_block]; exact Kd.own_blk (Kd.R_away HO_7.out (fun _ hk => hk.2))) | (dsimp only; exact Kd.own_blk (Kd.R_away HO_7.out (fun _ hk => hk.2)))) _).trans (((cell_far (p := ⟨gb380, _, none⟩) (by first | exact Kd.own_blk (Kd.R_away HO_7.out (fun _ hk => hk.2)) | (rw [add_block]; exact Kd.own_blk (Kd.R_away HO_7.out (fun _ hk => hk.2))) | (show (Addr.add _ _).block ≠ _; rw [add_block]; exact Kd.own_blk (Kd.R_away HO_7.out (fun _ hk => hk.2))) | (dsimp only; exact Kd.own_blk (Kd.R_away HO_7.out (fun _ hk => hk.2)))) _).trans (((cell_far (p := ⟨gb380, _, none⟩) (by first | exact Kd.own_blk (Kd.R_away HO_7.out (fun _ hk => hk.2)) | (rw [add_block]; exact Kd.own_blk (Kd.R_away HO_7.out (fun _ hk => hk.2))) | (show (Addr.add _ _).block ≠ _; rw [add_block]; exact Kd.own_blk (Kd.R_away HO_7.out (fun _ hk => hk.2))) | (dsimp only; exact Kd.own_blk (Kd.R_away HO_7.out (fun _ hk => hk.2)))) _).trans (hHeld.2.2.2.1)))))))), ((cell_far (p := ⟨gb380, _, none⟩) (by first | exact Kd.own_blk (Kd.R_away HO_7.out (fun _ hk => hk.2)) | (rw [add_block]; exact Kd.own_blk (Kd.R_away HO_7.out (fun _ hk => hk.2))) | (show (Addr.add _ _).block ≠ _; rw [add_block]; exact Kd.own_blk (Kd.R_away HO_7.out (fun _ hk => hk.2))) | (dsimp only; exact Kd.own_blk (Kd.R_away HO_7.out (fun _ hk => hk.2)))) _).trans (((cell_far (p := ⟨gb380, _, none⟩) (by first | exact Kd.own_blk (Kd.R_away HO_7.out (fun _ hk => hk.2)) | (rw [add_block]; exact Kd.own_blk (Kd.R_away HO_7.out (fun _ hk => hk.2))) | (show (Addr.add _ _).block ≠ _; rw [add_block]; exact Kd.own_blk (Kd.R_away HO_7.out (fun _ hk => hk.2))) | (dsimp only; exact Kd.own_blk (Kd.R_away HO_7.out (fun _ hk => hk.2)))) _).trans (((cell_far (p := ⟨gb380, _, none⟩) (by first | exact Kd.own_blk (Kd.R_away HO_7.out (fun _ hk => hk.2)) | (rw [add_block]; exact Kd.own_blk (Kd.R_away HO_7.out (fun _ hk => hk.2))) | (show (Addr.add _ _).block ≠ _; rw [add_block]; exact Kd.own_blk (Kd.R_away HO_7.out (fun _ hk => hk.2))) | (dsimp only; exact Kd.own_blk (Kd.R_away HO_7.out (fun _ hk => hk.2)))) _).trans (((cell_far (p := ⟨gb380, _, none⟩) (by first | exact Kd.own_blk (Kd.R_away HO_7.out (fun _ hk => hk.2)) | (rw [add_block]; exact Kd.own_blk (Kd.R_away HO_7.out (fun _ hk => hk.2))) | (show (Addr.add _ _).block ≠ _; rw [add_block]; exact Kd.own_blk (Kd.R_away HO_7.out (fun _ hk => hk.2))) | (dsimp only; exact Kd.own_blk (Kd.R_away HO_7.out (fun _ hk => hk.2)))) _).trans (hHeld.2.2.2.2.1)))))))), ((cell_far (p := ⟨gb380, _, none⟩) (by first | exact Kd.own_blk (Kd.R_away HO_7.out (fun _ hk => hk.2)) | (rw [add_block]; exact Kd.own_blk (Kd.R_away HO_7.out (fun _ hk => hk.2))) | (show (Addr.add _ _).block ≠ _; rw [add_block]; exact Kd.own_blk (Kd.R_away HO_7.out (fun _ hk => hk.2))) | (dsimp only; exact Kd.own_blk (Kd.R_away HO_7.out (fun _ hk => hk.2)))) _).trans (((cell_far (p := ⟨gb380, _, none⟩) (by first | exact Kd.own_blk (Kd.R_away HO_7.out (fun _ hk => hk.2)) | (rw [add_block]; exact Kd.own_blk (Kd.R_away HO_7.out (fun _ hk => hk.2))) | (show (Addr.add _ _).block ≠ _; rw [add_block]; exact Kd.own_blk (Kd.R_away HO_7.out (fun _ hk => hk.2))) | (dsimp only; exact Kd.own_blk (Kd.R_away HO_7.out (fun _ hk => hk.2)))) _).trans (((cell_far (p := ⟨gb380, _, none⟩) (by first | exact Kd.own_blk (Kd.R_away HO_7.out (fun _ hk => hk.2)) | (rw [add_block]; exact Kd.own_blk (Kd.R_away HO_7.out (fun _ hk => hk.2))) | (show (Addr.add _ _).block ≠ _; rw [add_block]; exact Kd.own_blk (Kd.R_away HO_7.out (fun _ hk => hk.2))) | (dsimp only; exact Kd.own_blk (Kd.R_away HO_7.out (fun _ hk => hk.2)))) _).trans (((cell_far (p := ⟨gb380, _, none⟩) (by first | exact Kd.own_blk (Kd.R_away HO_7.out (fun _ hk => hk.2)) | (rw [add_block]; exact Kd.own_blk (Kd.R_away HO_7.out (fun _ hk => hk.2))) | (show (Addr.add _ _).block ≠ _; rw [add_block]; exact Kd.own_blk (Kd.R_away HO_7.out (fun _ hk => hk.2))) | (dsimp only; exact Kd.own_blk (Kd.R_away HO_7.out (fun _ hk => hk.2)))) _).trans (hHeld.2.2.2.2.2))))))))⟩ (fun hHeld => ?_)
              clear hK K
              refine zp (i := 12) (N := some 16) cellarlaw9_MemLoads.b35 (any_of HT_.out (by kernel_rfl)) ?_
              refine done_ (done_of HT_.out (by kernel_rfl)) ?_
              try go_wp2
              go_meet
              case rel => exact ⟨_, (0), (t390), (t386), (t387), (t388), (t389), (zr), (zr), H', ⟨by have := HK1.out; have := HJ12.out; have := HK3.out; have := HK4.out; have := HJ49.out; first | omega | exact Nat.le_refl _⟩, ⟨by (with_reducible repeat (first | apply Kd.R_alloc | apply Kd.R_drewN | apply Kd.R_drew)); exact Kd.R_mono (Kd.R_far (p := ⟨gb380, 3, none⟩) (Kd.R_far (p := ⟨gb380, 2, none⟩) (Kd.R_far (p := ⟨gb380, 1, none⟩) (Kd.R_far (p := ⟨gb380, 0, none⟩) (Kd.R_types HO_3.out BK380.out (by decide)) (fun _ hk => hk.2) (.bool t386)) (fun _ hk => hk.2) (.int .i64 t387)) (fun _ hk => hk.2) (.int .i64 t388)) (fun _ hk => hk.2) (.int .i64 t389)) (fun _ hk => hk.1)⟩, ⟨by (with_reducible repeat (first | apply Kd.S_alloc | apply Kd.S_drewN | apply Kd.S_drew)); exact Kd.S_mono (Kd.S_far (p := ⟨gb380, 3, none⟩) (Kd.S_far (p := ⟨gb380, 2, none⟩) (Kd.S_far (p := ⟨gb380, 1, none⟩) (Kd.S_far (p := ⟨gb380, 0, none⟩) (Kd.S_types HO_5.out BK380.out (by decide)) (fun _ hk => hk.2) (.bool t386)) (fun _ hk => hk.2) (.int .i64 t387)) (fun _ hk => hk.2) (.int .i64 t388)) (fun _ hk => hk.2) (.int .i64 t389)) (fun _ hk => trivial)⟩, ⟨by (with_reducible repeat (first | apply Kd.R_alloc | apply Kd.R_drewN | apply Kd.R_drew)); exact Kd.R_mono (Kd.R_far (p := ⟨gb380, 3, none⟩) (Kd.R_far (p := ⟨gb380, 2, none⟩) (Kd.R_far (p := ⟨gb380, 1, none⟩) (Kd.R_far (p := ⟨gb380, 0, none⟩) (Kd.R_mono HO_7.out (fun k_ hk => (⟨hk, hk.2⟩ : _ ∧ k_ ≠ gb380))) (fun _ hk => hk.2) (.bool t386)) (fun _ hk => hk.2) (.int .i64 t387)) (fun _ hk => hk.2) (.int .i64 t388)) (fun _ hk => hk.2) (.int .i64 t389)) (fun _ hk => ⟨hk.1.1, hk.1.2⟩)⟩, ⟨zf1 BK353.out NB353_380.out⟩, ⟨zf1 BK371.out NB371_380.out⟩, ⟨zf1 BK379.out NB379_380.out⟩, ⟨by (with_reducible repeat (first | refine blk_drewN ?_ _ | refine blk_drew ?_ | refine blk_alloc ?_ _)); refine blk_put (cs := #[.bool t386, .int .i64 t387, .int .i64 t388, .int .i64 0]) ?_ 3 _ rfl; (with_reducible repeat (first | refine blk_drewN ?_ _ | refine blk_drew ?_ | refine blk_alloc ?_ _)); refine blk_put (cs := #[.bool t386, .int .i64 t387, .int .i64 0, .int .i64 0]) ?_ 2 _ rfl; (with_reducible repeat (first | refine blk_drewN ?_ _ | refine blk_drew ?_ | refine blk_alloc ?_ _)); refine blk_put (cs := #[.bool t386, .int .i64 0, .int .i64 0, .int .i64 0]) ?_ 1 _ rfl; (with_reducible repeat (first | refine blk_drewN ?_ _ | refine blk_drew ?_ | refine blk_alloc ?_ _)); refine blk_put (cs := #[.bool false, .int .i64 0, .int .i64 0, .int .i64 0]) ?_ 0 _ rfl; (with_reducible repeat (first | refine blk_drewN ?_ _ | refine blk_drew ?_ | refine blk_alloc ?_ _)); exact BK380.out⟩, ⟨zw4 HB.out GE353.out GE371.out GE379.out GE380.out⟩⟩
             case rest =>
              clear HC91
              try clear p2
              try clear c3
              try clear p3
              try clear q3
              try clear hx3
              try clear c4
              try clear c5
              try clear c6
              try clear p6
              try clear c7
              try clear c8
              try clear c9
              try clear p37
              try clear q37
              try clear hx37
              try clear p38
              try clear q38
              try clear hx38
              try clear c39
              try clear c40
              try clear c42
              try clear c42b0
              try clear c43
              try clear c43b0
              try clear c43b1
              try clear c43b2
              try clear c45
              try clear c45b0
              try clear c46
              try clear c46b0
              try clear c47
              try clear c47b0
              try clear c48
              try clear c48b0
              try clear c53
              try clear p64
              try clear c65
              try clear c66
              try clear c67
              try clear c69
              try clear c71
              try clear c73
              try clear c75
              try clear c76
              try clear c77
              try clear c81
              try clear c82
              try clear c83
              try clear c86
              try clear c87
              try clear c88
              try clear c92
              try clear c93
              try clear c93b0
              try clear c94
              try clear c94b0
              try clear hcz54_0
              try clear hcz54_1
              try clear hcz68_0
              try clear hcz68_1
              try clear hcz68_2
              try clear hcz68_3
              try clear hcz78_0
              try clear hcz78_1
              try clear hcz84_0
              try clear hcz84_1
              try clear hcz89_0
              try clear hcz89_1
              try clear hfz54_0
              try clear hfz54_1
              try clear hfz68_0
              try clear hfz68_1
              try clear hfz68_2
              try clear hfz68_3
              try clear hfz78_0
              try clear hfz78_1
              try clear hfz84_0
              try clear hfz84_1
              try clear hfz89_0
              try clear hfz89_1
              try clear hx370_0
              try clear hx370_1
              try clear hx372_0
              try clear hx372_1
              try clear hx372_2
              try clear hx372_3
              try clear hx383_0
              try clear hx383_1
              try clear hx383_2
              try clear hx383_3
              try clear hx385_0
              try clear hx385_1
              try clear hx385_2
              try clear hx385_3
              try clear p2
              try clear p3
              try clear p37
              try clear p370
              try clear p372
              try clear p38
              try clear p383
              try clear p385
              try clear p6
              try clear p64
              try clear q3
              try clear q37
              try clear q370
              try clear q372
              try clear q38
              try clear q383
              try clear q385
              obtain ⟨kq, x14_90, x16_90, x381000_90, x381001_90, x381002_90, x381003_90, rfl, rfl, HA, HJ90, HO_3, HO_5, HO_7, BK353, BK371, BK379, BK380, HB⟩ := hcut
              cases kq with
              | zero => exact absurd HA.out (by simp [cellarlaw9_MemLoads.j5])
              | succ kj90 =>
               have H := HA.out
               clear HA
               simp only [cellarlaw9_MemLoads.j5] at H
               have HC102 := Aside0.mk H
               clear H
               go_upto_region 24 with (fail)
               go_cut [127] (fun v127 wc => ∃ (kq : Nat) (x127_101 : Bool), v127 = .bool x127_101 ∧ Aside0 (cellarlaw9_MemLoads.j6 kq t355 x4_1 t360 t364 t367 x8_3 x9_4 x127_101 l0_0 l0_1 l0_2 l0_3 = some r) ∧ Aside0 (kq ≤ kj90) ∧ Aside0 (Kd.R k29 29 wc w.heap.size (fun k_ => k_ ≠ gb371) (.slice (some ad370) t355.length co51) t355) ∧ Aside0 (Kd.S k76 76 wc w.heap.size (fun _ => True) (.slice Ao36 t360.length co36) t360) ∧ Aside0 (Kd.R k62 62 wc w.heap.size (fun k_ => k_ ≠ gb379 ∧ k_ ≠ gb380) (.slice (some ad372) t367.length co41) t367) ∧ Aside0 (wc.heap[gb353]? = some (.cells #[(.slice (some ad359) l0_0.length c0_0), (.slice A0_1 l0_1.length c0_1), (.slice A0_2 l0_2.length c0_2), (.slice A0_3 l0_3.length c0_3)] 54 (0, 0))) ∧ Aside0 (wc.heap[gb371]? = some (.cells #[.bool ((rd_T29 t355 (ji44)).f0), .int .i64 ((rd_T29 t355 (ji44)).f1)] 29 (0, 0))) ∧ Aside0 (wc.heap[gb379]? = some (.cells #[.bool t373, .int .i64 t374, .int .i64 t375, .int .i64 t376] 62 (0, 0))) ∧ Aside0 (wc.heap[gb380]? = some (.cells #[.bool x381000_90, .int .i64 x381001_90, .int .i64 x381002_90, .int .i64 x381003_90] 62 (0, 0))) ∧ Aside0 (Below w.heap.size w wc))
               case first =>
                have H := HC102.out
                clear HC102
                replace H := Option.bind_eq_some_iff.mp H
                obtain ⟨t391, A1030, H⟩ := H
                replace H : (if t391 = x14_90 then (if (!(t373 == x381000_90) || (!(t374 == x381001_90) || (!(t375 == x381002_90) || (!(t376 == x381003_90))))) = true then (cellarlaw9_MemLoads.j6 kj90 t355 x4_1 t360 t364 t367 x8_3 x9_4 true l0_0 l0_1 l0_2 l0_3) else (cellarlaw9_MemLoads.j6 kj90 t355 x4_1 t360 t364 t367 x8_3 x9_4 (t377 != x16_90) l0_0 l0_1 l0_2 l0_3)) else (cellarlaw9_MemLoads.j6 kj90 t355 x4_1 t360 t364 t367 x8_3 x9_4 true l0_0 l0_1 l0_2 l0_3)) = some r := H
                have A103 := Aside0.mk A1030
                clear A1030
                by_cases c104 : t391 = x14_90
                rotate_left
                ·rw [if_neg c104] at H
                 have c104b0 : (t391 == x14_90) = false := beq_eq_false_iff_ne.mpr c104
                 have c104b1 : (t391 != x14_90) = true := bne_iff_ne.mpr c104
                 (first | rw [c104b0] | (simp only [i64_w, i32_w]; rw [c104b0]) | skip)
                 have H' := Aside0.mk H
                 clear H
                 go_wp2_with (first | ((with_reducible refine gate_callee (f := 35) rfl ?_); refine zgo (some 115) Try.func35 #[.int .i64 t378] ?_; (with_reducible refine (cellarlaw9_num.calls t378 t391 _ A103.out).mono ?_); rintro e w' ⟨rfl, ⟨nd, rfl⟩⟩; refine ⟨_, rfl, ?_⟩))
                 go_meet
                 case rel => exact ⟨_, (true), (zr), H', ⟨by have := HK1.out; have := HJ12.out; have := HK3.out; have := HK4.out; have := HJ49.out; have := HJ90.out; first | omega | exact Nat.le_refl _⟩, ⟨by (with_reducible repeat (first | apply Kd.R_alloc | apply Kd.R_drewN | apply Kd.R_drew)); exact HO_3.out⟩, ⟨by (with_reducible repeat (first | apply Kd.S_alloc | apply Kd.S_drewN | apply Kd.S_drew)); exact HO_5.out⟩, ⟨by (with_reducible repeat (first | apply Kd.R_alloc | apply Kd.R_drewN | apply Kd.R_drew)); exact HO_7.out⟩, ⟨zb BK353.out⟩, ⟨zb BK371.out⟩, ⟨zb BK379.out⟩, ⟨zb BK380.out⟩, ⟨zw4 HB.out GE353.out GE371.out GE379.out GE380.out⟩⟩
                rw [if_pos c104] at H
                have c104b0 : (t391 == x14_90) = true := beq_iff_eq.mpr c104
                have c104b1 : (t391 != x14_90) = false := bne_eq_false_iff_eq.mpr c104
                clear c104
                (first | rw [c104b0] | (simp only [i64_w, i32_w]; rw [c104b0]) | skip)
                by_cases c105 : (!(t373 == x381000_90) || (!(t374 == x381001_90) || (!(t375 == x381002_90) || (!(t376 == x381003_90))))) = true
                ·rw [if_pos c105] at H
                 have c105b0 : (!(t373 == x381000_90) || (!(t374 == x381001_90) || (!(t375 == x381002_90) || (!(t376 == x381003_90))))) = true := c105
                 clear c105
                 have H' := Aside0.mk H
                 clear H
                 go_wp2_with (first | ((with_reducible refine gate_callee (f := 35) rfl ?_); refine zgo (some 115) Try.func35 #[.int .i64 t378] ?_; (with_reducible refine (cellarlaw9_num.calls t378 t391 _ A103.out).mono ?_); rintro e w' ⟨rfl, ⟨nd, rfl⟩⟩; refine ⟨_, rfl, ?_⟩; have hnb106 := NB379_353.out; have hnc106 := NB353_379.out; have hnb107 := NB379_371.out; have hnc107 := NB371_379.out; have hnb108 := NB379_380.out; have hnc108 := NB380_379.out; have hcz109_0 := zc BK379.out 0; have hcz109_1 := zc BK379.out 1; have hcz109_2 := zc BK379.out 2; have hcz109_3 := zc BK379.out 3; have hfz109_0 := blk_frozen BK379.out 0; have hfz109_1 := blk_frozen BK379.out 1; have hfz109_2 := blk_frozen BK379.out 2; have hfz109_3 := blk_frozen BK379.out 3; have hnb110 := NB380_353.out; have hnc110 := NB353_380.out; have hnb111 := NB380_371.out; have hnc111 := NB371_380.out; have hcz112_0 := zc BK380.out 0; have hcz112_1 := zc BK380.out 1; have hcz112_2 := zc BK380.out 2; have hcz112_3 := zc BK380.out 3; have hfz112_0 := blk_frozen BK380.out 0; have hfz112_1 := blk_frozen BK380.out 1; have hfz112_2 := blk_frozen BK380.out 2; have hfz112_3 := blk_frozen BK380.out 3))
                 go_meet
                 case rel => exact ⟨_, (true), (zr), H', ⟨by have := HK1.out; have := HJ12.out; have := HK3.out; have := HK4.out; have := HJ49.out; have := HJ90.out; first | omega | exact Nat.le_refl _⟩, ⟨by (with_reducible repeat (first | apply Kd.R_alloc | apply Kd.R_drewN | apply Kd.R_drew)); exact HO_3.out⟩, ⟨by (with_reducible repeat (first | apply Kd.S_alloc | apply Kd.S_drewN | apply Kd.S_drew)); exact HO_5.out⟩, ⟨by (with_reducible repeat (first | apply Kd.R_alloc | apply Kd.R_drewN | apply Kd.R_drew)); exact HO_7.out⟩, ⟨zb BK353.out⟩, ⟨zb BK371.out⟩, ⟨zb BK379.out⟩, ⟨zb BK380.out⟩, ⟨zw4 HB.out GE353.out GE371.out GE379.out GE380.out⟩⟩
                rw [if_neg c105] at H
                have c105b0 : (!(t373 == x381000_90) || (!(t374 == x381001_90) || (!(t375 == x381002_90) || (!(t376 == x381003_90))))) = false := by simpa using c105
                clear c105
                have H' := Aside0.mk H
                clear H
                go_wp2_with (first | ((with_reducible refine gate_callee (f := 35) rfl ?_); refine zgo (some 115) Try.func35 #[.int .i64 t378] ?_; (with_reducible refine (cellarlaw9_num.calls t378 t391 _ A103.out).mono ?_); rintro e w' ⟨rfl, ⟨nd, rfl⟩⟩; refine ⟨_, rfl, ?_⟩; have hnb113 := NB379_353.out; have hnc113 := NB353_379.out; have hnb114 := NB379_371.out; have hnc114 := NB371_379.out; have hnb115 := NB379_380.out; have hnc115 := NB380_379.out; have hcz116_0 := zc BK379.out 0; have hcz116_1 := zc BK379.out 1; have hcz116_2 := zc BK379.out 2; have hcz116_3 := zc BK379.out 3; have hfz116_0 := blk_frozen BK379.out 0; have hfz116_1 := blk_frozen BK379.out 1; have hfz116_2 := blk_frozen BK379.out 2; have hfz116_3 := blk_frozen BK379.out 3; have hnb117 := NB380_353.out; have hnc117 := NB353_380.out; have hnb118 := NB380_371.out; have hnc118 := NB371_380.out; have hcz119_0 := zc BK380.out 0; have hcz119_1 := zc BK380.out 1; have hcz119_2 := zc BK380.out 2; have hcz119_3 := zc BK380.out 3; have hfz119_0 := blk_frozen BK380.out 0; have hfz119_1 := blk_frozen BK380.out 1; have hfz119_2 := blk_frozen BK380.out 2; have hfz119_3 := blk_frozen BK380.out 3))
                go_meet
                case rel => exact ⟨_, ((t377 != x16_90)), (zr), H', ⟨by have := HK1.out; have := HJ12.out; have := HK3.out; have := HK4.out; have := HJ49.out; have := HJ90.out; first | omega | exact Nat.le_refl _⟩, ⟨by (with_reducible repeat (first | apply Kd.R_alloc | apply Kd.R_drewN | apply Kd.R_drew)); exact HO_3.out⟩, ⟨by (with_reducible repeat (first | apply Kd.S_alloc | apply Kd.S_drewN | apply Kd.S_drew)); exact HO_5.out⟩, ⟨by (with_reducible repeat (first | apply Kd.R_alloc | apply Kd.R_drewN | apply Kd.R_drew)); exact HO_7.out⟩, ⟨zb BK353.out⟩, ⟨zb BK371.out⟩, ⟨zb BK379.out⟩, ⟨zb BK380.out⟩, ⟨zw4 HB.out GE353.out GE371.out GE379.out GE380.out⟩⟩
               case rest =>
                clear HC102
                try clear c1
                try clear p2
                try clear c3
                try clear p3
                try clear q3
                try clear hx3
                try clear c4
                try clear c5
                try clear c6
                try clear p6
                try clear c7
                try clear c8
                try clear c9
                try clear c10
                try clear c11
                try clear c35
                try clear p37
                try clear q37
                try clear hx37
                try clear p38
                try clear q38
                try clear hx38
                try clear c39
                try clear c40
                try clear c42
                try clear c42b0
                try clear c43
                try clear c43b0
                try clear c43b1
                try clear c43b2
                try clear c45
                try clear c45b0
                try clear c46
                try clear c46b0
                try clear c47
                try clear c47b0
                try clear c48
                try clear c48b0
                try clear c53
                try clear p64
                try clear c65
                try clear c66
                try clear c67
                try clear c69
                try clear c71
                try clear c73
                try clear c75
                try clear c76
                try clear c77
                try clear c81
                try clear c82
                try clear c83
                try clear c86
                try clear c87
                try clear c88
                try clear c92
                try clear c93
                try clear c93b0
                try clear c94
                try clear c94b0
                try clear c104
                try clear c104b0
                try clear c104b1
                try clear c105
                try clear c105b0
                try clear c106
                try clear c107
                try clear c108
                try clear c110
                try clear c111
                try clear c113
                try clear c114
                try clear c115
                try clear c117
                try clear c118
                try clear hcz109_0
                try clear hcz109_1
                try clear hcz109_2
                try clear hcz109_3
                try clear hcz112_0
                try clear hcz112_1
                try clear hcz112_2
                try clear hcz112_3
                try clear hcz116_0
                try clear hcz116_1
                try clear hcz116_2
                try clear hcz116_3
                try clear hcz119_0
                try clear hcz119_1
                try clear hcz119_2
                try clear hcz119_3
                try clear hcz54_0
                try clear hcz54_1
                try clear hcz68_0
                try clear hcz68_1
                try clear hcz68_2
                try clear hcz68_3
                try clear hcz78_0
                try clear hcz78_1
                try clear hcz84_0
                try clear hcz84_1
                try clear hcz89_0
                try clear hcz89_1
                try clear hfz109_0
                try clear hfz109_1
                try clear hfz109_2
                try clear hfz109_3
                try clear hfz112_0
                try clear hfz112_1
                try clear hfz112_2
                try clear hfz112_3
                try clear hfz116_0
                try clear hfz116_1
                try clear hfz116_2
                try clear hfz116_3
                try clear hfz119_0
                try clear hfz119_1
                try clear hfz119_2
                try clear hfz119_3
                try clear hfz54_0
                try clear hfz54_1
                try clear hfz68_0
                try clear hfz68_1
                try clear hfz68_2
                try clear hfz68_3
                try clear hfz78_0
                try clear hfz78_1
                try clear hfz84_0
                try clear hfz84_1
                try clear hfz89_0
                try clear hfz89_1
                try clear hx370_0
                try clear hx370_1
                try clear hx372_0
                try clear hx372_1
                try clear hx372_2
                try clear hx372_3
                try clear hx383_0
                try clear hx383_1
                try clear hx383_2
                try clear hx383_3
                try clear hx385_0
                try clear hx385_1
                try clear hx385_2
                try clear hx385_3
                try clear p2
                try clear p3
                try clear p37
                try clear p370
                try clear p372
                try clear p38
                try clear p383
                try clear p385
                try clear p6
                try clear p64
                try clear q3
                try clear q37
                try clear q370
                try clear q372
                try clear q38
                try clear q383
                try clear q385
                obtain ⟨kq, x127_101, rfl, HA, HJ101, HO_3, HO_5, HO_7, BK353, BK371, BK379, BK380, HB⟩ := hcut
                cases kq with
                | zero => exact absurd HA.out (by simp [cellarlaw9_MemLoads.j6])
                | succ kj101 =>
                 have H := HA.out
                 clear HA
                 simp only [cellarlaw9_MemLoads.j6] at H
                 by_cases c120 : x127_101 = true
                 ·subst c120
                  have H1 : (some false) = some r := by rw [if_pos rfl] at H; exact H
                  clear H
                  have H := H1
                  clear H1
                  obtain rfl := Option.some.inj H
                  go_wp2
                  go_ret
                  exact ⟨by first | rfl | (simp [errW_none, errW_some] <;> rfl) | (simp only [← hji44]; first | rfl | (simp [errW_none, errW_some] <;> rfl)) | (simp [*, errW_none, errW_some] <;> rfl), zw4 HB.out GE353.out GE371.out GE379.out GE380.out⟩
                 replace c120 := Bool.eq_false_iff.mpr c120
                 subst c120
                 have H1 : (cellarlaw9_MemLoads.l2 kj101 t355 x4_1 t360 t364 t367 x8_3 (wrap64 (x9_4 + 1)) l0_0 l0_1 l0_2 l0_3) = some r := by rw [if_neg (show ¬ (false = true) by decide)] at H; exact H
                 clear H
                 have H := H1
                 clear H1
                 have H' := Aside0.mk H
                 clear H
                 go_wp2
                 go_roundg kj101
                 case measure => have := HK1.out; have := HJ12.out; have := HK3.out; have := HK4.out; have := HJ49.out; have := HJ90.out; have := HJ101.out; omega
                 case rel => exact ⟨(wrap64 (x9_4 + 1)), (zr), H', ⟨by have := HK1.out; have := HJ12.out; have := HK3.out; have := HK4.out; have := HJ49.out; have := HJ90.out; have := HJ101.out; omega⟩, ⟨by (with_reducible repeat (first | apply Kd.R_alloc | apply Kd.R_drewN | apply Kd.R_drew)); exact Kd.R_mono HO_3.out (fun _ hk => trivial)⟩, ⟨by (with_reducible repeat (first | apply Kd.S_alloc | apply Kd.S_drewN | apply Kd.S_drew)); exact HO_5.out⟩, ⟨by (with_reducible repeat (first | apply Kd.R_alloc | apply Kd.R_drewN | apply Kd.R_drew)); exact Kd.R_mono HO_7.out (fun _ hk => trivial)⟩, ⟨zb BK353.out⟩, ⟨zw4 HB.out GE353.out GE371.out GE379.out GE380.out⟩⟩
      ·replace c17 := Bool.eq_false_iff.mpr c17
       subst c17
       have H1 : ((cellarlaw9_wakes.f kj12).bind fun t358 => (some t358)) = some r := by rw [if_neg (show ¬ (false = true) by decide)] at H; exact H
       clear H
       have H := H1
       clear H1
       replace H := Option.bind_eq_some_iff.mp H
       obtain ⟨t358, A1310, H⟩ := H
       replace H : (some t358) = some r := H
       have A131 := Aside0.mk A1310
       clear A1310
       obtain rfl := Option.some.inj H
       go_wp2_with (first | ((with_reducible refine gate_callee (f := 38) rfl ?_); refine zgo (some 136) Try.func38 #[] ?_; (with_reducible refine (cellarlaw9_wakes.calls kj12  t358 _ A131.out).mono ?_); rintro e w132 ⟨rfl, hb⟩; refine ⟨_, rfl, ?_⟩; have n0_ := Aside0.mk (Kd.R_below (by (with_reducible repeat (first | apply Kd.R_alloc | apply Kd.R_drewN | apply Kd.R_drew)); exact HO_3.out) hb); have n1_ := Aside0.mk (zbb BK353.out hb); have n2_ := Aside0.mk (below_step (zw1 HB.out GE353.out) hb); clear HO_3 BK353 HB; have HO_3 := n0_; have BK353 := n1_; have HB := n2_; clear n0_ n1_ n2_; (try clear hb); (try clear hb2); (try clear hk); (try clear hi)))
       go_ret
       exact ⟨ze, zw1 HB.out GE353.out⟩

end Go.Proofs.Ytjoplkillkhiaaa.D
