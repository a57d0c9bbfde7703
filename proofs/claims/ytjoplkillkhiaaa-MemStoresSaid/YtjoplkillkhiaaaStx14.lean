-- Written by this session's own edition of the print.
import Derived.Test.YtjoplkillkhiaaaStx0
import Derived.Test.YtjoplkillkhiaaaStx2
import Derived.Test.YtjoplkillkhiaaaStx3
import Derived.Test.YtjoplkillkhiaaaStx4
import Derived.Test.YtjoplkillkhiaaaStx7
import Derived.Test.YtjoplkillkhiaaaStx8
import Derived.Test.YtjoplkillkhiaaaStx9
import Derived.Test.YtjoplkillkhiaaaStx10
import Derived.Test.YtjoplkillkhiaaaStx13
import Derived.Test.YtjoplkillkhiaaaZSq
import Derived.Test.YtjoplkillkhiaaaZSq2
import Derived.Test.YtjoplkillkhiaaaZSq3
namespace Go.Proofs.Ytjoplkillkhiaaa.St
open Go.RowKit Go.Proofs.Ytjoplkillkhiaaa.Fn Go.Proofs.YtjoplkillkhiaaaW.PrintWords Go.Proofs.YtjoplkillkhiaaaW.PrintLast Go.Proofs.YtjoplkillkhiaaaW.PrintMore
attribute [local go_sem] max2_int min2_int max_two min_two max_three min_three max_four min_four   -- for this text's walks alone
set_option linter.unusedVariables false
set_option linter.unusedSimpArgs false

/-! cellarlaw9_MemStores -/
mutual
def cellarlaw9_MemStores.l0 : Nat → List (S29) → Int → List (List (S76)) → List (S62) → List Int → List (S29) → Option (Bool)
 | 0, _, _, _, _, _, _ => none
 | k + 1, x3, x4, x341000, x341001, x341002, x341003 => if x4 < (x341000.length : Int) then (cellarlaw9_MemStores.j1 k x3 x4 (decide (x4 < 5)) x341000 x341001 x341002 x341003) else (cellarlaw9_MemStores.j1 k x3 x4 false x341000 x341001 x341002 x341003)
def cellarlaw9_MemStores.j1 : Nat → List (S29) → Int → Bool → List (List (S76)) → List (S62) → List Int → List (S29) → Option (Bool)
 | 0, _, _, _, _, _, _, _ => none
 | k + 1, x3, x4, x32, x341000, x341001, x341002, x341003 => if x32 = true then (if 0 ≤ x4 then (if x4 < (x341000.length : Int) then ((cellarref0_CopyBlocks.f k (rd_L4 x341000 x4)).bind fun t346 => ((cellarref7_Mem.f k (rd_L4 x341000 x4)).bind fun t350 => ((cellarlaw9_pointers.f k x341000 x341001 x341002 x341003 t346).bind fun t351 => (cellarlaw9_MemStores.l1 k x3 x4 t346 t350 t351 0 x341000 x341001 x341002 x341003)))) else (none)) else (none)) else ((cellarlaw9_wakes.f k).bind fun t387 => (some t387))
def cellarlaw9_MemStores.l1 : Nat → List (S29) → Int → List (S76) → Bool → List (S62) → Int → List (List (S76)) → List (S62) → List Int → List (S29) → Option (Bool)
 | 0, _, _, _, _, _, _, _, _, _, _ => none
 | k + 1, x3, x4, x5, x6, x7, x8, x341000, x341001, x341002, x341003 => if x8 < (x7.length : Int) then (cellarlaw9_MemStores.l2 k x3 x4 x5 x6 x7 x8 0 x341000 x341001 x341002 x341003) else (cellarlaw9_MemStores.l0 k x3 (wrap64 (x4 + 1)) x341000 x341001 x341002 x341003)
def cellarlaw9_MemStores.l2 : Nat → List (S29) → Int → List (S76) → Bool → List (S62) → Int → Int → List (List (S76)) → List (S62) → List Int → List (S29) → Option (Bool)
 | 0, _, _, _, _, _, _, _, _, _, _, _ => none
 | k + 1, x3, x4, x5, x6, x7, x8, x9, x341000, x341001, x341002, x341003 => if x9 ≤ 7 then (if (x3.length : Int) = 0 then (none) else (if 0 ≤ (Int.tmod (wrap64 (x8 + x9)) (x3.length : Int)) then (if (Int.tmod (wrap64 (x8 + x9)) (x3.length : Int)) < (x3.length : Int) then (if (x7.length : Int) = 0 then (none) else (if 0 ≤ (Int.tmod (wrap64 (x8 + 1)) (x7.length : Int)) then (if (Int.tmod (wrap64 (x8 + 1)) (x7.length : Int)) < (x7.length : Int) then ((some (([(⟨false, 200, 0, 0⟩ : S62), (⟨(rd_T62 x7 (Int.tmod (wrap64 (x8 + 1)) (x7.length : Int))).f0, (rd_T62 x7 (Int.tmod (wrap64 (x8 + 1)) (x7.length : Int))).f1, (rd_T62 x7 (Int.tmod (wrap64 (x8 + 1)) (x7.length : Int))).f2, (rd_T62 x7 (Int.tmod (wrap64 (x8 + 1)) (x7.length : Int))).f3⟩ : S62)] : List (S62)) : List (S62))).bind fun y357 => (if y357.length + x341001.length < 4398046511104 then (cellarlaw9_MemStores.l3 k x3 x4 x5 x6 x7 x8 x9 (y357 ++ x341001) 0 x341000 x341001 x341002 x341003 ((rd_T29 x3 (Int.tmod (wrap64 (x8 + x9)) (x3.length : Int))).f0) ((rd_T29 x3 (Int.tmod (wrap64 (x8 + x9)) (x3.length : Int))).f1)) else (none))) else (none)) else (none))) else (none)) else (none))) else (cellarlaw9_MemStores.l1 k x3 x4 x5 x6 x7 (wrap64 (x8 + 1)) x341000 x341001 x341002 x341003)
def cellarlaw9_MemStores.l3 : Nat → List (S29) → Int → List (S76) → Bool → List (S62) → Int → Int → List (S62) → Int → List (List (S76)) → List (S62) → List Int → List (S29) → Bool → Int → Option (Bool)
 | 0, _, _, _, _, _, _, _, _, _, _, _, _, _, _, _ => none
 | k + 1, x3, x4, x5, x6, x7, x8, x9, x11, x12, x341000, x341001, x341002, x341003, x356000, x356001 => if x12 < (x11.length : Int) then (cellarlaw9_MemStores.j5 k x3 x4 x5 x6 x7 x8 x9 x11 x12 (decide (x12 < 4)) x341000 x341001 x341002 x341003 x356000 x356001) else (cellarlaw9_MemStores.j5 k x3 x4 x5 x6 x7 x8 x9 x11 x12 false x341000 x341001 x341002 x341003 x356000 x356001)
def cellarlaw9_MemStores.j5 : Nat → List (S29) → Int → List (S76) → Bool → List (S62) → Int → Int → List (S62) → Int → Bool → List (List (S76)) → List (S62) → List Int → List (S29) → Bool → Int → Option (Bool)
 | 0, _, _, _, _, _, _, _, _, _, _, _, _, _, _, _, _ => none
 | k + 1, x3, x4, x5, x6, x7, x8, x9, x11, x12, x89, x341000, x341001, x341002, x341003, x356000, x356001 => if x89 = true then (if 0 ≤ x8 then (if x8 < (x7.length : Int) then (if 0 ≤ x12 then (if x12 < (x11.length : Int) then ((mem_Store.f k x356000 x356001 x5 ((rd_T62 x7 x8).f0) ((rd_T62 x7 x8).f1) ((rd_T62 x7 x8).f2) ((rd_T62 x7 x8).f3) x9 ((rd_T62 x11 x12).f0) ((rd_T62 x11 x12).f1) ((rd_T62 x11 x12).f2) ((rd_T62 x11 x12).f3)).bind fun bt365 => (if x6 = true then ((cellarref1_Abi.f x356000 x356001).bind fun t370 => (if t370 = true then ((cellarref7_Scalar.f k x9 ((rd_T62 x11 x12).f0) ((rd_T62 x11 x12).f1) ((rd_T62 x11 x12).f2) ((rd_T62 x11 x12).f3)).bind fun t372 => (if t372 = true then ((cellarref7_Pointer.f k x5 ((rd_T62 x7 x8).f0) ((rd_T62 x7 x8).f1) ((rd_T62 x7 x8).f2) ((rd_T62 x7 x8).f3)).bind fun t374 => (cellarlaw9_MemStores.j6 k x3 x4 x5 x6 x7 x8 x9 x11 x12 bt365.1 bt365.2.1 bt365.2.2 1 0 ([] : List (S76)) t374 x341000 x341001 x341002 x341003 x356000 x356001)) else (cellarlaw9_MemStores.j6 k x3 x4 x5 x6 x7 x8 x9 x11 x12 bt365.1 bt365.2.1 bt365.2.2 1 0 ([] : List (S76)) false x341000 x341001 x341002 x341003 x356000 x356001))) else (cellarlaw9_MemStores.j6 k x3 x4 x5 x6 x7 x8 x9 x11 x12 bt365.1 bt365.2.1 bt365.2.2 1 0 ([] : List (S76)) false x341000 x341001 x341002 x341003 x356000 x356001))) else (cellarlaw9_MemStores.j6 k x3 x4 x5 x6 x7 x8 x9 x11 x12 bt365.1 bt365.2.1 bt365.2.2 1 0 ([] : List (S76)) false x341000 x341001 x341002 x341003 x356000 x356001))) else (none)) else (none)) else (none)) else (none)) else (cellarlaw9_MemStores.l2 k x3 x4 x5 x6 x7 x8 (wrap64 (x9 + 1)) x341000 x341001 x341002 x341003)
def cellarlaw9_MemStores.j6 : Nat → List (S29) → Int → List (S76) → Bool → List (S62) → Int → Int → List (S62) → Int → List (S76) → Int → Int → Int → Int → List (S76) → Bool → List (List (S76)) → List (S62) → List Int → List (S29) → Bool → Int → Option (Bool)
 | 0, _, _, _, _, _, _, _, _, _, _, _, _, _, _, _, _, _, _, _, _, _, _ => none
 | k + 1, x3, x4, x5, x6, x7, x8, x9, x11, x12, x13, x14, x15, x16, x17, x18, x128, x341000, x341001, x341002, x341003, x356000, x356001 => if x128 = true then (if 0 ≤ x8 then (if x8 < (x7.length : Int) then (if 0 ≤ x12 then (if x12 < (x11.length : Int) then ((cellarref7_Store.f k x356000 x356001 x5 ((rd_T62 x7 x8).f0) ((rd_T62 x7 x8).f1) ((rd_T62 x7 x8).f2) ((rd_T62 x7 x8).f3) x9 ((rd_T62 x11 x12).f0) ((rd_T62 x11 x12).f1) ((rd_T62 x11 x12).f2) ((rd_T62 x11 x12).f3)).bind fun bt377 => (cellarlaw9_MemStores.j7 k x3 x4 x5 x6 x7 x8 x9 x11 x12 x13 x14 x15 0 bt377.2 bt377.1 x341000 x341001 x341002 x341003 x356000 x356001)) else (none)) else (none)) else (none)) else (none)) else (cellarlaw9_MemStores.j7 k x3 x4 x5 x6 x7 x8 x9 x11 x12 x13 x14 x15 x16 x17 x18 x341000 x341001 x341002 x341003 x356000 x356001)
def cellarlaw9_MemStores.j7 : Nat → List (S29) → Int → List (S76) → Bool → List (S62) → Int → Int → List (S62) → Int → List (S76) → Int → Int → Int → Int → List (S76) → List (List (S76)) → List (S62) → List Int → List (S29) → Bool → Int → Option (Bool)
 | 0, _, _, _, _, _, _, _, _, _, _, _, _, _, _, _, _, _, _, _, _, _ => none
 | k + 1, x3, x4, x5, x6, x7, x8, x9, x11, x12, x13, x14, x15, x16, x17, x18, x341000, x341001, x341002, x341003, x356000, x356001 => (cellarlaw9_num.f x15).bind fun t381 => (if t381 = x16 then ((cellarref0_EqBlocks.f k x13 x18).bind fun t382 => (if t382 = true then (if x14 = x17 then (if 0 ≤ x4 then (if x4 < (x341000.length : Int) then ((cellarref0_EqBlocks.f k x5 (rd_L4 x341000 x4)).bind fun t384 => (cellarlaw9_MemStores.j8 k x3 x4 x5 x6 x7 x8 x9 x11 x12 x13 (!t384) x341000 x341001 x341002 x341003 x356000 x356001)) else (none)) else (none)) else (cellarlaw9_MemStores.j8 k x3 x4 x5 x6 x7 x8 x9 x11 x12 x13 true x341000 x341001 x341002 x341003 x356000 x356001)) else (cellarlaw9_MemStores.j8 k x3 x4 x5 x6 x7 x8 x9 x11 x12 x13 true x341000 x341001 x341002 x341003 x356000 x356001))) else (cellarlaw9_MemStores.j8 k x3 x4 x5 x6 x7 x8 x9 x11 x12 x13 true x341000 x341001 x341002 x341003 x356000 x356001))
def cellarlaw9_MemStores.j8 : Nat → List (S29) → Int → List (S76) → Bool → List (S62) → Int → Int → List (S62) → Int → List (S76) → Bool → List (List (S76)) → List (S62) → List Int → List (S29) → Bool → Int → Option (Bool)
 | 0, _, _, _, _, _, _, _, _, _, _, _, _, _, _, _, _, _ => none
 | k + 1, x3, x4, x5, x6, x7, x8, x9, x11, x12, x13, x168, x341000, x341001, x341002, x341003, x356000, x356001 => if x168 = true then (some false) else ((cellarlaw0_Blocks.f k x13).bind fun _ => (if 0 ≤ x4 then (if x4 < (x341000.length : Int) then ((cellarref0_EqBlocks.f k x5 (rd_L4 x341000 x4)).bind fun t386 => (if t386 = true then (cellarlaw9_MemStores.l3 k x3 x4 x5 x6 x7 x8 x9 x11 (wrap64 (x12 + 1)) x341000 x341001 x341002 x341003 x356000 x356001) else (some false))) else (none)) else (none)))
end
def cellarlaw9_MemStores.f (k : Nat) (l0_0 : List (List (S76))) (l0_1 : List (S62)) (l0_2 : List Int) (l0_3 : List (S29)) : Option (Bool) := (cellarlaw9_Heavy.f k l0_0 l0_1 l0_2 l0_3).bind fun t341 => (if t341 = true then (some true) else ((cellarlaw8_Machines.f l0_3).bind fun t342 => (cellarlaw9_MemStores.l0 k t342 0 l0_0 l0_1 l0_2 l0_3)))
theorem cellarlaw9_MemStores.mono_l : ∀ k, (∀ y0 y1 y2 y3 y4 y5, LeO (cellarlaw9_MemStores.l0 k y0 y1 y2 y3 y4 y5) (cellarlaw9_MemStores.l0 (k + 1) y0 y1 y2 y3 y4 y5)) ∧ (∀ y0 y1 y2 y3 y4 y5 y6, LeO (cellarlaw9_MemStores.j1 k y0 y1 y2 y3 y4 y5 y6) (cellarlaw9_MemStores.j1 (k + 1) y0 y1 y2 y3 y4 y5 y6)) ∧ (∀ y0 y1 y2 y3 y4 y5 y6 y7 y8 y9, LeO (cellarlaw9_MemStores.l1 k y0 y1 y2 y3 y4 y5 y6 y7 y8 y9) (cellarlaw9_MemStores.l1 (k + 1) y0 y1 y2 y3 y4 y5 y6 y7 y8 y9)) ∧ (∀ y0 y1 y2 y3 y4 y5 y6 y7 y8 y9 y10, LeO (cellarlaw9_MemStores.l2 k y0 y1 y2 y3 y4 y5 y6 y7 y8 y9 y10) (cellarlaw9_MemStores.l2 (k + 1) y0 y1 y2 y3 y4 y5 y6 y7 y8 y9 y10)) ∧ (∀ y0 y1 y2 y3 y4 y5 y6 y7 y8 y9 y10 y11 y12 y13 y14, LeO (cellarlaw9_MemStores.l3 k y0 y1 y2 y3 y4 y5 y6 y7 y8 y9 y10 y11 y12 y13 y14) (cellarlaw9_MemStores.l3 (k + 1) y0 y1 y2 y3 y4 y5 y6 y7 y8 y9 y10 y11 y12 y13 y14)) ∧ (∀ y0 y1 y2 y3 y4 y5 y6 y7 y8 y9 y10 y11 y12 y13 y14 y15, LeO (cellarlaw9_MemStores.j5 k y0 y1 y2 y3 y4 y5 y6 y7 y8 y9 y10 y11 y12 y13 y14 y15) (cellarlaw9_MemStores.j5 (k + 1) y0 y1 y2 y3 y4 y5 y6 y7 y8 y9 y10 y11 y12 y13 y14 y15)) ∧ (∀ y0 y1 y2 y3 y4 y5 y6 y7 y8 y9 y10 y11 y12 y13 y14 y15 y16 y17 y18 y19 y20 y21, LeO (cellarlaw9_MemStores.j6 k y0 y1 y2 y3 y4 y5 y6 y7 y8 y9 y10 y11 y12 y13 y14 y15 y16 y17 y18 y19 y20 y21) (cellarlaw9_MemStores.j6 (k + 1) y0 y1 y2 y3 y4 y5 y6 y7 y8 y9 y10 y11 y12 y13 y14 y15 y16 y17 y18 y19 y20 y21)) ∧ (∀ y0 y1 y2 y3 y4 y5 y6 y7 y8 y9 y10 y11 y12 y13 y14 y15 y16 y17 y18 y19 y20, LeO (cellarlaw9_MemStores.j7 k y0 y1 y2 y3 y4 y5 y6 y7 y8 y9 y10 y11 y12 y13 y14 y15 y16 y17 y18 y19 y20) (cellarlaw9_MemStores.j7 (k + 1) y0 y1 y2 y3 y4 y5 y6 y7 y8 y9 y10 y11 y12 y13 y14 y15 y16 y17 y18 y19 y20)) ∧ (∀ y0 y1 y2 y3 y4 y5 y6 y7 y8 y9 y10 y11 y12 y13 y14 y15 y16, LeO (cellarlaw9_MemStores.j8 k y0 y1 y2 y3 y4 y5 y6 y7 y8 y9 y10 y11 y12 y13 y14 y15 y16) (cellarlaw9_MemStores.j8 (k + 1) y0 y1 y2 y3 y4 y5 y6 y7 y8 y9 y10 y11 y12 y13 y14 y15 y16))
 | 0 => ⟨fun _ _ _ _ _ _ r h => by simp [cellarlaw9_MemStores.l0] at h, fun _ _ _ _ _ _ _ r h => by simp [cellarlaw9_MemStores.j1] at h, fun _ _ _ _ _ _ _ _ _ _ r h => by simp [cellarlaw9_MemStores.l1] at h, fun _ _ _ _ _ _ _ _ _ _ _ r h => by simp [cellarlaw9_MemStores.l2] at h, fun _ _ _ _ _ _ _ _ _ _ _ _ _ _ _ r h => by simp [cellarlaw9_MemStores.l3] at h, fun _ _ _ _ _ _ _ _ _ _ _ _ _ _ _ _ r h => by simp [cellarlaw9_MemStores.j5] at h, fun _ _ _ _ _ _ _ _ _ _ _ _ _ _ _ _ _ _ _ _ _ _ r h => by simp [cellarlaw9_MemStores.j6] at h, fun _ _ _ _ _ _ _ _ _ _ _ _ _ _ _ _ _ _ _ _ _ r h => by simp [cellarlaw9_MemStores.j7] at h, fun _ _ _ _ _ _ _ _ _ _ _ _ _ _ _ _ _ r h => by simp [cellarlaw9_MemStores.j8] at h⟩
 | k + 1 => by
  obtain ⟨ih0, ih1, ih2, ih3, ih4, ih5, ih6, ih7, ih8⟩ := cellarlaw9_MemStores.mono_l k
  refine ⟨?_, ?_, ?_, ?_, ?_, ?_, ?_, ?_, ?_⟩
  ·intro y0 y1 y2 y3 y4 y5
   unfold cellarlaw9_MemStores.l0
   repeat' first
   | (with_reducible apply ih0)
   | (with_reducible apply ih1)
   | (with_reducible apply ih2)
   | (with_reducible apply ih3)
   | (with_reducible apply ih4)
   | (with_reducible apply ih5)
   | (with_reducible apply ih6)
   | (with_reducible apply ih7)
   | (with_reducible apply ih8)
   | (with_reducible apply cellarlaw0_Blocks.mono)
   | (with_reducible apply cellarlaw9_Heavy.mono)
   | (with_reducible apply cellarlaw9_pointers.mono)
   | (with_reducible apply cellarlaw9_wakes.mono)
   | (with_reducible apply cellarref0_CopyBlocks.mono)
   | (with_reducible apply cellarref0_EqBlocks.mono)
   | (with_reducible apply cellarref7_Mem.mono)
   | (with_reducible apply cellarref7_Pointer.mono)
   | (with_reducible apply cellarref7_Scalar.mono)
   | (with_reducible apply cellarref7_Store.mono)
   | (with_reducible apply mem_Store.mono)
   | (with_reducible apply LeO.refl)
   | (with_reducible apply LeO.none)
   | (with_reducible refine LeO.ite ?_ ?_)
   | (with_reducible refine LeO.bind ?_ (fun _ => ?_))
  ·intro y0 y1 y2 y3 y4 y5 y6
   unfold cellarlaw9_MemStores.j1
   repeat' first
   | (with_reducible apply ih0)
   | (with_reducible apply ih1)
   | (with_reducible apply ih2)
   | (with_reducible apply ih3)
   | (with_reducible apply ih4)
   | (with_reducible apply ih5)
   | (with_reducible apply ih6)
   | (with_reducible apply ih7)
   | (with_reducible apply ih8)
   | (with_reducible apply cellarlaw0_Blocks.mono)
   | (with_reducible apply cellarlaw9_Heavy.mono)
   | (with_reducible apply cellarlaw9_pointers.mono)
   | (with_reducible apply cellarlaw9_wakes.mono)
   | (with_reducible apply cellarref0_CopyBlocks.mono)
   | (with_reducible apply cellarref0_EqBlocks.mono)
   | (with_reducible apply cellarref7_Mem.mono)
   | (with_reducible apply cellarref7_Pointer.mono)
   | (with_reducible apply cellarref7_Scalar.mono)
   | (with_reducible apply cellarref7_Store.mono)
   | (with_reducible apply mem_Store.mono)
   | (with_reducible apply LeO.refl)
   | (with_reducible apply LeO.none)
   | (with_reducible refine LeO.ite ?_ ?_)
   | (with_reducible refine LeO.bind ?_ (fun _ => ?_))
  ·intro y0 y1 y2 y3 y4 y5 y6 y7 y8 y9
   unfold cellarlaw9_MemStores.l1
   repeat' first
   | (with_reducible apply ih0)
   | (with_reducible apply ih1)
   | (with_reducible apply ih2)
   | (with_reducible apply ih3)
   | (with_reducible apply ih4)
   | (with_reducible apply ih5)
   | (with_reducible apply ih6)
   | (with_reducible apply ih7)
   | (with_reducible apply ih8)
   | (with_reducible apply cellarlaw0_Blocks.mono)
   | (with_reducible apply cellarlaw9_Heavy.mono)
   | (with_reducible apply cellarlaw9_pointers.mono)
   | (with_reducible apply cellarlaw9_wakes.mono)
   | (with_reducible apply cellarref0_CopyBlocks.mono)
   | (with_reducible apply cellarref0_EqBlocks.mono)
   | (with_reducible apply cellarref7_Mem.mono)
   | (with_reducible apply cellarref7_Pointer.mono)
   | (with_reducible apply cellarref7_Scalar.mono)
   | (with_reducible apply cellarref7_Store.mono)
   | (with_reducible apply mem_Store.mono)
   | (with_reducible apply LeO.refl)
   | (with_reducible apply LeO.none)
   | (with_reducible refine LeO.ite ?_ ?_)
   | (with_reducible refine LeO.bind ?_ (fun _ => ?_))
  ·intro y0 y1 y2 y3 y4 y5 y6 y7 y8 y9 y10
   unfold cellarlaw9_MemStores.l2
   repeat' first
   | (with_reducible apply ih0)
   | (with_reducible apply ih1)
   | (with_reducible apply ih2)
   | (with_reducible apply ih3)
   | (with_reducible apply ih4)
   | (with_reducible apply ih5)
   | (with_reducible apply ih6)
   | (with_reducible apply ih7)
   | (with_reducible apply ih8)
   | (with_reducible apply cellarlaw0_Blocks.mono)
   | (with_reducible apply cellarlaw9_Heavy.mono)
   | (with_reducible apply cellarlaw9_pointers.mono)
   | (with_reducible apply cellarlaw9_wakes.mono)
   | (with_reducible apply cellarref0_CopyBlocks.mono)
   | (with_reducible apply cellarref0_EqBlocks.mono)
   | (with_reducible apply cellarref7_Mem.mono)
   | (with_reducible apply cellarref7_Pointer.mono)
   | (with_reducible apply cellarref7_Scalar.mono)
   | (with_reducible apply cellarref7_Store.mono)
   | (with_reducible apply mem_Store.mono)
   | (with_reducible apply LeO.refl)
   | (with_reducible apply LeO.none)
   | (with_reducible refine LeO.ite ?_ ?_)
   | (with_reducible refine LeO.bind ?_ (fun _ => ?_))
  ·intro y0 y1 y2 y3 y4 y5 y6 y7 y8 y9 y10 y11 y12 y13 y14
   unfold cellarlaw9_MemStores.l3
   repeat' first
   | (with_reducible apply ih0)
   | (with_reducible apply ih1)
   | (with_reducible apply ih2)
   | (with_reducible apply ih3)
   | (with_reducible apply ih4)
   | (with_reducible apply ih5)
   | (with_reducible apply ih6)
   | (with_reducible apply ih7)
   | (with_reducible apply ih8)
   | (with_reducible apply cellarlaw0_Blocks.mono)
   | (with_reducible apply cellarlaw9_Heavy.mono)
   | (with_reducible apply cellarlaw9_pointers.mono)
   | (with_reducible apply cellarlaw9_wakes.mono)
   | (with_reducible apply cellarref0_CopyBlocks.mono)
   | (with_reducible apply cellarref0_EqBlocks.mono)
   | (with_reducible apply cellarref7_Mem.mono)
   | (with_reducible apply cellarref7_Pointer.mono)
   | (with_reducible apply cellarref7_Scalar.mono)
   | (with_reducible apply cellarref7_Store.mono)
   | (with_reducible apply mem_Store.mono)
   | (with_reducible apply LeO.refl)
   | (with_reducible apply LeO.none)
   | (with_reducible refine LeO.ite ?_ ?_)
   | (with_reducible refine LeO.bind ?_ (fun _ => ?_))
  ·intro y0 y1 y2 y3 y4 y5 y6 y7 y8 y9 y10 y11 y12 y13 y14 y15
   unfold cellarlaw9_MemStores.j5
   repeat' first
   | (with_reducible apply ih0)
   | (with_reducible apply ih1)
   | (with_reducible apply ih2)
   | (with_reducible apply ih3)
   | (with_reducible apply ih4)
   | (with_reducible apply ih5)
   | (with_reducible apply ih6)
   | (with_reducible apply ih7)
   | (with_reducible apply ih8)
   | (with_reducible apply cellarlaw0_Blocks.mono)
   | (with_reducible apply cellarlaw9_Heavy.mono)
   | (with_reducible apply cellarlaw9_pointers.mono)
   | (with_reducible apply cellarlaw9_wakes.mono)
   | (with_reducible apply cellarref0_CopyBlocks.mono)
   | (with_reducible apply cellarref0_EqBlocks.mono)
   | (with_reducible apply cellarref7_Mem.mono)
   | (with_reducible apply cellarref7_Pointer.mono)
   | (with_reducible apply cellarref7_Scalar.mono)
   | (with_reducible apply cellarref7_Store.mono)
   | (with_reducible apply mem_Store.mono)
   | (with_reducible apply LeO.refl)
   | (with_reducible apply LeO.none)
   | (with_reducible refine LeO.ite ?_ ?_)
   | (with_reducible refine LeO.bind ?_ (fun _ => ?_))
  ·intro y0 y1 y2 y3 y4 y5 y6 y7 y8 y9 y10 y11 y12 y13 y14 y15 y16 y17 y18 y19 y20 y21
   unfold cellarlaw9_MemStores.j6
   repeat' first
   | (with_reducible apply ih0)
   | (with_reducible apply ih1)
   | (with_reducible apply ih2)
   | (with_reducible apply ih3)
   | (with_reducible apply ih4)
   | (with_reducible apply ih5)
   | (with_reducible apply ih6)
   | (with_reducible apply ih7)
   | (with_reducible apply ih8)
   | (with_reducible apply cellarlaw0_Blocks.mono)
   | (with_reducible apply cellarlaw9_Heavy.mono)
   | (with_reducible apply cellarlaw9_pointers.mono)
   | (with_reducible apply cellarlaw9_wakes.mono)
   | (with_reducible apply cellarref0_CopyBlocks.mono)
   | (with_reducible apply cellarref0_EqBlocks.mono)
   | (with_reducible apply cellarref7_Mem.mono)
   | (with_reducible apply cellarref7_Pointer.mono)
   | (with_reducible apply cellarref7_Scalar.mono)
   | (with_reducible apply cellarref7_Store.mono)
   | (with_reducible apply mem_Store.mono)
   | (with_reducible apply LeO.refl)
   | (with_reducible apply LeO.none)
   | (with_reducible refine LeO.ite ?_ ?_)
   | (with_reducible refine LeO.bind ?_ (fun _ => ?_))
  ·intro y0 y1 y2 y3 y4 y5 y6 y7 y8 y9 y10 y11 y12 y13 y14 y15 y16 y17 y18 y19 y20
   unfold cellarlaw9_MemStores.j7
   repeat' first
   | (with_reducible apply ih0)
   | (with_reducible apply ih1)
   | (with_reducible apply ih2)
   | (with_reducible apply ih3)
   | (with_reducible apply ih4)
   | (with_reducible apply ih5)
   | (with_reducible apply ih6)
   | (with_reducible apply ih7)
   | (with_reducible apply ih8)
   | (with_reducible apply cellarlaw0_Blocks.mono)
   | (with_reducible apply cellarlaw9_Heavy.mono)
   | (with_reducible apply cellarlaw9_pointers.mono)
   | (with_reducible apply cellarlaw9_wakes.mono)
   | (with_reducible apply cellarref0_CopyBlocks.mono)
   | (with_reducible apply cellarref0_EqBlocks.mono)
   | (with_reducible apply cellarref7_Mem.mono)
   | (with_reducible apply cellarref7_Pointer.mono)
   | (with_reducible apply cellarref7_Scalar.mono)
   | (with_reducible apply cellarref7_Store.mono)
   | (with_reducible apply mem_Store.mono)
   | (with_reducible apply LeO.refl)
   | (with_reducible apply LeO.none)
   | (with_reducible refine LeO.ite ?_ ?_)
   | (with_reducible refine LeO.bind ?_ (fun _ => ?_))
  ·intro y0 y1 y2 y3 y4 y5 y6 y7 y8 y9 y10 y11 y12 y13 y14 y15 y16
   unfold cellarlaw9_MemStores.j8
   repeat' first
   | (with_reducible apply ih0)
   | (with_reducible apply ih1)
   | (with_reducible apply ih2)
   | (with_reducible apply ih3)
   | (with_reducible apply ih4)
   | (with_reducible apply ih5)
   | (with_reducible apply ih6)
   | (with_reducible apply ih7)
   | (with_reducible apply ih8)
   | (with_reducible apply cellarlaw0_Blocks.mono)
   | (with_reducible apply cellarlaw9_Heavy.mono)
   | (with_reducible apply cellarlaw9_pointers.mono)
   | (with_reducible apply cellarlaw9_wakes.mono)
   | (with_reducible apply cellarref0_CopyBlocks.mono)
   | (with_reducible apply cellarref0_EqBlocks.mono)
   | (with_reducible apply cellarref7_Mem.mono)
   | (with_reducible apply cellarref7_Pointer.mono)
   | (with_reducible apply cellarref7_Scalar.mono)
   | (with_reducible apply cellarref7_Store.mono)
   | (with_reducible apply mem_Store.mono)
   | (with_reducible apply LeO.refl)
   | (with_reducible apply LeO.none)
   | (with_reducible refine LeO.ite ?_ ?_)
   | (with_reducible refine LeO.bind ?_ (fun _ => ?_))
theorem cellarlaw9_MemStores.mono : ∀ a0 a1 a2 a3 k, LeO (cellarlaw9_MemStores.f k a0 a1 a2 a3) (cellarlaw9_MemStores.f (k + 1) a0 a1 a2 a3) := by
 intro a0 a1 a2 a3 k
 obtain ⟨ih0, ih1, ih2, ih3, ih4, ih5, ih6, ih7, ih8⟩ := cellarlaw9_MemStores.mono_l k
 unfold cellarlaw9_MemStores.f
 repeat' first
   | (with_reducible apply ih0)
   | (with_reducible apply ih1)
   | (with_reducible apply ih2)
   | (with_reducible apply ih3)
   | (with_reducible apply ih4)
   | (with_reducible apply ih5)
   | (with_reducible apply ih6)
   | (with_reducible apply ih7)
   | (with_reducible apply ih8)
   | (with_reducible apply cellarlaw0_Blocks.mono)
   | (with_reducible apply cellarlaw9_Heavy.mono)
   | (with_reducible apply cellarlaw9_pointers.mono)
   | (with_reducible apply cellarlaw9_wakes.mono)
   | (with_reducible apply cellarref0_CopyBlocks.mono)
   | (with_reducible apply cellarref0_EqBlocks.mono)
   | (with_reducible apply cellarref7_Mem.mono)
   | (with_reducible apply cellarref7_Pointer.mono)
   | (with_reducible apply cellarref7_Scalar.mono)
   | (with_reducible apply cellarref7_Store.mono)
   | (with_reducible apply mem_Store.mono)
   | (with_reducible apply LeO.refl)
   | (with_reducible apply LeO.none)
   | (with_reducible refine LeO.ite ?_ ?_)
   | (with_reducible refine LeO.bind ?_ (fun _ => ?_))
def cellarlaw9_MemStores.T17 : Bool × List (List Nat × List Nat) := (true, [([], []), ([], []), ([], []), ([2], [2]), ([], []), ([4], [4]), ([3, 5], [3, 5]), ([1, 6], [1, 6]), ([7], [7]), ([0, 8], [0, 8]), ([], []), ([10], [10]), ([9, 11], [9, 11]), ([12, 12, 0, 1, 2, 3, 4, 5, 6, 7, 8, 9, 10, 11, 12], [12])])
def cellarlaw9_MemStores.B17 : List Nat := [0, 0, 0, 4, 0, 16, 60, 126, 254, 511, 0, 1024, 4095, 8191]
theorem cellarlaw9_MemStores.tab17 : rtab .any (opsOf Try.f5 17) = cellarlaw9_MemStores.T17 := by kernel_rfl
theorem cellarlaw9_MemStores.bits17 : waitsOk cellarlaw9_MemStores.T17.2 cellarlaw9_MemStores.B17 = true := by kernel_rfl
def cellarlaw9_MemStores.T21 : Bool × List (List Nat × List Nat) := (true, [([], []), ([], []), ([], []), ([], []), ([2, 3], [2, 3]), ([4], [4]), ([], []), ([], []), ([], []), ([7, 8], [7, 8]), ([9], [9]), ([0, 1, 5, 6, 10], [0, 1, 5, 6, 10]), ([11], [11]), ([12], [12]), ([12], [12]), ([12], [12]), ([13, 11, 0, 1, 2, 3, 4, 5, 6, 7, 8, 9, 10, 11, 12, 13], [13]), ([14, 16, 0, 1, 2, 3, 4, 5, 6, 7, 8, 9, 10, 11, 12, 13, 14, 16], [14]), ([15, 17, 0, 1, 2, 3, 4, 5, 6, 7, 8, 9, 10, 11, 12, 13, 14, 15, 16, 17], [15])])
def cellarlaw9_MemStores.B21 : List Nat := [0, 0, 0, 0, 12, 28, 0, 0, 0, 384, 896, 2047, 4095, 8191, 8191, 8191, 16383, 98303, 262143]
theorem cellarlaw9_MemStores.tab21 : rtab .any (opsOf Try.f5 21) = cellarlaw9_MemStores.T21 := by kernel_rfl
theorem cellarlaw9_MemStores.bits21 : waitsOk cellarlaw9_MemStores.T21.2 cellarlaw9_MemStores.B21 = true := by kernel_rfl
def cellarlaw9_MemStores.T26 : Bool × List (List Nat × List Nat) := (true, [([], []), ([], []), ([], []), ([], []), ([2, 3], [2, 3]), ([4], [4]), ([], []), ([], []), ([], []), ([7, 8], [7, 8]), ([9], [9]), ([0, 1, 5, 6, 10], [0, 1, 5, 6, 10]), ([11], [11]), ([12], [12]), ([12], [12]), ([13, 11, 0, 1, 2, 3, 4, 5, 6, 7, 8, 9, 10, 11, 12, 13], [13]), ([14, 15, 0, 1, 2, 3, 4, 5, 6, 7, 8, 9, 10, 11, 12, 13, 14, 15], [14])])
def cellarlaw9_MemStores.B26 : List Nat := [0, 0, 0, 0, 12, 28, 0, 0, 0, 384, 896, 2047, 4095, 8191, 8191, 16383, 65535]
theorem cellarlaw9_MemStores.tab26 : rtab .any (opsOf Try.f5 26) = cellarlaw9_MemStores.T26 := by kernel_rfl
theorem cellarlaw9_MemStores.bits26 : waitsOk cellarlaw9_MemStores.T26.2 cellarlaw9_MemStores.B26 = true := by kernel_rfl
abbrev cellarlaw9_MemStores.b0 : Array Bool := #[false,false,false,false,false,false,false,false,false,false,false,false,false,false]
abbrev cellarlaw9_MemStores.b12 : Array Bool := #[true,true,true,true,true,true,true,true,true,true,true,true,false,false]
abbrev cellarlaw9_MemStores.b13 : Array Bool := #[true,true,true,true,true,true,true,true,true,true,true,true,true,false]
abbrev cellarlaw9_MemStores.b15 : Array Bool := #[false,false,false,false,false,false,false,false,false,false,false,false,false,false,false,false,false,false,false]
abbrev cellarlaw9_MemStores.b27 : Array Bool := #[true,true,true,true,true,true,true,true,true,true,true,true,false,false,false,false,false,false,false]
abbrev cellarlaw9_MemStores.b35 : Array Bool := #[false,false,false,false,false,false,false,false,false,false,false,false,false,false,false,false,false]
abbrev cellarlaw9_MemStores.b47 : Array Bool := #[true,true,true,true,true,true,true,true,true,true,true,true,false,false,false,false,false]
end Go.Proofs.Ytjoplkillkhiaaa.St
