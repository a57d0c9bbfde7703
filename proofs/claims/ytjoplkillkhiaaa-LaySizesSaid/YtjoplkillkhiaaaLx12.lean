-- Written by this session's own edition of the print.
import Derived.Test.YtjoplkillkhiaaaLx0
import Derived.Test.YtjoplkillkhiaaaLx1
import Derived.Test.YtjoplkillkhiaaaLx4
import Derived.Test.YtjoplkillkhiaaaLx5
import Derived.Test.YtjoplkillkhiaaaLx8
import Derived.Test.YtjoplkillkhiaaaLx9
import Derived.Test.YtjoplkillkhiaaaLx10
import Derived.Test.YtjoplkillkhiaaaUSq
import Derived.Test.YtjoplkillkhiaaaUSq2
import Derived.Test.YtjoplkillkhiaaaUSq3
namespace Go.Proofs.Ytjoplkillkhiaaa.L
open Go.RowKit Go.Proofs.Ytjoplkillkhiaaa.Fn Go.Proofs.YtjoplkillkhiaaaW.PrintWords Go.Proofs.YtjoplkillkhiaaaW.PrintLast Go.Proofs.YtjoplkillkhiaaaW.PrintMore
attribute [local go_sem] max2_int min2_int max_two min_two max_three min_three max_four min_four   -- for this text's walks alone
set_option linter.unusedVariables false
set_option linter.unusedSimpArgs false

/-! cellarlaw7_LaySizes -/
mutual
def cellarlaw7_LaySizes.l0 : Nat → List (S29) → List ByteArray → Int → List (S29) → List (List (S31)) → List ByteArray → List Int → Option (Bool)
 | 0, _, _, _, _, _, _, _ => none
 | k + 1, x3, x4, x5, x356000, x356001, x356002, x356003 => if x5 < (x3.length : Int) then (cellarlaw7_LaySizes.l1 k x3 x4 x5 0 x356000 x356001 x356002 x356003) else ((cellarlaw7_wakes.f k).bind fun t424 => (some t424))
def cellarlaw7_LaySizes.l1 : Nat → List (S29) → List ByteArray → Int → Int → List (S29) → List (List (S31)) → List ByteArray → List Int → Option (Bool)
 | 0, _, _, _, _, _, _, _, _ => none
 | k + 1, x3, x4, x5, x6, x356000, x356001, x356002, x356003 => if x6 < (x356001.length : Int) then (cellarlaw7_LaySizes.j2 k x3 x4 x5 x6 (decide (x6 < 6)) x356000 x356001 x356002 x356003) else (cellarlaw7_LaySizes.j2 k x3 x4 x5 x6 false x356000 x356001 x356002 x356003)
def cellarlaw7_LaySizes.j2 : Nat → List (S29) → List ByteArray → Int → Int → Bool → List (S29) → List (List (S31)) → List ByteArray → List Int → Option (Bool)
 | 0, _, _, _, _, _, _, _, _, _ => none
 | k + 1, x3, x4, x5, x6, x55, x356000, x356001, x356002, x356003 => if x55 = true then (if 0 ≤ x6 then (if x6 < (x356001.length : Int) then ((cellarref0_CopyTypes.f k (rd_L6 x356001 x6)).bind fun t367 => (if 0 ≤ x5 then (if x5 < (x3.length : Int) then ((cellarref7_Types.f k ((rd_T29 x3 x5).f0) ((rd_T29 x3 x5).f1) (rd_L6 x356001 x6)).bind fun bt372 => ((lay_Check.f k ((rd_T29 x3 x5).f0) ((rd_T29 x3 x5).f1) t367).bind fun t380 => ((cellarlaw7_num.f t380).bind fun t381 => (if ((t381 == 0) != bt372.2.2) = true then (some false) else (cellarlaw7_LaySizes.l2 k x3 x4 x5 x6 t367 bt372.1 bt372.2.1 bt372.2.2 (-1) x356000 x356001 x356002 x356003))))) else (none)) else (none))) else (none)) else (none)) else (cellarlaw7_LaySizes.l0 k x3 x4 (wrap64 (x5 + 1)) x356000 x356001 x356002 x356003)
def cellarlaw7_LaySizes.l2 : Nat → List (S29) → List ByteArray → Int → Int → List (S31) → List Int → List Int → Bool → Int → List (S29) → List (List (S31)) → List ByteArray → List Int → Option (Bool)
 | 0, _, _, _, _, _, _, _, _, _, _, _, _, _ => none
 | k + 1, x3, x4, x5, x6, x7, x8, x9, x10, x11, x356000, x356001, x356002, x356003 => if x11 ≤ (x7.length : Int) then (cellarlaw7_LaySizes.j4 k x3 x4 x5 x6 x7 x8 x9 x10 x11 (decide (x11 < 12)) x356000 x356001 x356002 x356003) else (cellarlaw7_LaySizes.j4 k x3 x4 x5 x6 x7 x8 x9 x10 x11 false x356000 x356001 x356002 x356003)
def cellarlaw7_LaySizes.j4 : Nat → List (S29) → List ByteArray → Int → Int → List (S31) → List Int → List Int → Bool → Int → Bool → List (S29) → List (List (S31)) → List ByteArray → List Int → Option (Bool)
 | 0, _, _, _, _, _, _, _, _, _, _, _, _, _, _ => none
 | k + 1, x3, x4, x5, x6, x7, x8, x9, x10, x11, x95, x356000, x356001, x356002, x356003 => if x95 = true then (if x10 = true then ((cellarref0_Num.f x11 (wrap64 ((x7.length : Int) - 1))).bind fun t382 => (cellarlaw7_LaySizes.j5 k x3 x4 x5 x6 x7 x8 x9 x10 x11 t382 x356000 x356001 x356002 x356003)) else (cellarlaw7_LaySizes.j5 k x3 x4 x5 x6 x7 x8 x9 x10 x11 false x356000 x356001 x356002 x356003)) else (if 0 ≤ x6 then (if x6 < (x356001.length : Int) then ((cellarref0_EqTypes.f k x7 (rd_L6 x356001 x6)).bind fun t423 => (if t423 = true then (cellarlaw7_LaySizes.l1 k x3 x4 x5 (wrap64 (x6 + 1)) x356000 x356001 x356002 x356003) else (some false))) else (none)) else (none))
def cellarlaw7_LaySizes.j5 : Nat → List (S29) → List ByteArray → Int → Int → List (S31) → List Int → List Int → Bool → Int → Bool → List (S29) → List (List (S31)) → List ByteArray → List Int → Option (Bool)
 | 0, _, _, _, _, _, _, _, _, _, _, _, _, _, _ => none
 | k + 1, x3, x4, x5, x6, x7, x8, x9, x10, x11, x12, x356000, x356001, x356002, x356003 => if x10 = true then (cellarlaw7_LaySizes.j6 k x3 x4 x5 x6 x7 x8 x9 x10 x11 x12 3 0 0 x356000 x356001 x356002 x356003) else (cellarlaw7_LaySizes.j6 k x3 x4 x5 x6 x7 x8 x9 x10 x11 x12 1 0 0 x356000 x356001 x356002 x356003)
def cellarlaw7_LaySizes.j6 : Nat → List (S29) → List ByteArray → Int → Int → List (S31) → List Int → List Int → Bool → Int → Bool → Int → Int → Int → List (S29) → List (List (S31)) → List ByteArray → List Int → Option (Bool)
 | 0, _, _, _, _, _, _, _, _, _, _, _, _, _, _, _, _, _ => none
 | k + 1, x3, x4, x5, x6, x7, x8, x9, x10, x11, x12, x13, x14, x15, x356000, x356001, x356002, x356003 => if x12 = true then (if 0 ≤ x11 then (if x11 < (x8.length : Int) then (if x11 < (x9.length : Int) then (cellarlaw7_LaySizes.j7 k x3 x4 x5 x6 x7 x8 x9 x10 x11 x12 0 (rd x8 x11) (rd x9 x11) x356000 x356001 x356002 x356003) else (none)) else (none)) else (none)) else (cellarlaw7_LaySizes.j7 k x3 x4 x5 x6 x7 x8 x9 x10 x11 x12 x13 x14 x15 x356000 x356001 x356002 x356003)
def cellarlaw7_LaySizes.j7 : Nat → List (S29) → List ByteArray → Int → Int → List (S31) → List Int → List Int → Bool → Int → Bool → Int → Int → Int → List (S29) → List (List (S31)) → List ByteArray → List Int → Option (Bool)
 | 0, _, _, _, _, _, _, _, _, _, _, _, _, _, _, _, _, _ => none
 | k + 1, x3, x4, x5, x6, x7, x8, x9, x10, x11, x12, x13, x14, x15, x356000, x356001, x356002, x356003 => if 0 ≤ x5 then (if x5 < (x3.length : Int) then ((lay_Size.f k ((rd_T29 x3 x5).f0) ((rd_T29 x3 x5).f1) x7 x11).bind fun bt386 => ((lay_Align.f k ((rd_T29 x3 x5).f0) ((rd_T29 x3 x5).f1) x7 x11).bind fun bt389 => ((cellarlaw7_num.f bt386.2).bind fun t391 => (if t391 = x13 then ((cellarlaw7_num.f bt389.2).bind fun t392 => (if t392 = x13 then (if bt386.1 = x14 then (cellarlaw7_LaySizes.j8 k x3 x4 x5 x6 x7 x8 x9 x10 x11 x12 x13 (bt389.1 != x15) x356000 x356001 x356002 x356003) else (cellarlaw7_LaySizes.j8 k x3 x4 x5 x6 x7 x8 x9 x10 x11 x12 x13 true x356000 x356001 x356002 x356003)) else (cellarlaw7_LaySizes.j8 k x3 x4 x5 x6 x7 x8 x9 x10 x11 x12 x13 true x356000 x356001 x356002 x356003))) else (cellarlaw7_LaySizes.j8 k x3 x4 x5 x6 x7 x8 x9 x10 x11 x12 x13 true x356000 x356001 x356002 x356003))))) else (none)) else (none)
def cellarlaw7_LaySizes.j8 : Nat → List (S29) → List ByteArray → Int → Int → List (S31) → List Int → List Int → Bool → Int → Bool → Int → Bool → List (S29) → List (List (S31)) → List ByteArray → List Int → Option (Bool)
 | 0, _, _, _, _, _, _, _, _, _, _, _, _, _, _, _, _ => none
 | k + 1, x3, x4, x5, x6, x7, x8, x9, x10, x11, x12, x13, x155, x356000, x356001, x356002, x356003 => if x155 = true then (some false) else (cellarlaw7_LaySizes.l3 k x3 x4 x5 x6 x7 x8 x9 x10 x11 x12 x13 0 x356000 x356001 x356002 x356003)
def cellarlaw7_LaySizes.l3 : Nat → List (S29) → List ByteArray → Int → Int → List (S31) → List Int → List Int → Bool → Int → Bool → Int → Int → List (S29) → List (List (S31)) → List ByteArray → List Int → Option (Bool)
 | 0, _, _, _, _, _, _, _, _, _, _, _, _, _, _, _, _ => none
 | k + 1, x3, x4, x5, x6, x7, x8, x9, x10, x11, x12, x13, x20, x356000, x356001, x356002, x356003 => if x20 < (x4.length : Int) then (cellarlaw7_LaySizes.j10 k x3 x4 x5 x6 x7 x8 x9 x10 x11 x12 x13 x20 (decide (x20 < 8)) x356000 x356001 x356002 x356003) else (cellarlaw7_LaySizes.j10 k x3 x4 x5 x6 x7 x8 x9 x10 x11 x12 x13 x20 false x356000 x356001 x356002 x356003)
def cellarlaw7_LaySizes.j10 : Nat → List (S29) → List ByteArray → Int → Int → List (S31) → List Int → List Int → Bool → Int → Bool → Int → Int → Bool → List (S29) → List (List (S31)) → List ByteArray → List Int → Option (Bool)
 | 0, _, _, _, _, _, _, _, _, _, _, _, _, _, _, _, _, _ => none
 | k + 1, x3, x4, x5, x6, x7, x8, x9, x10, x11, x12, x13, x20, x163, x356000, x356001, x356002, x356003 => if x163 = true then (if 0 ≤ x5 then (if x5 < (x3.length : Int) then (if 0 ≤ x20 then (if x20 < (x4.length : Int) then ((lay_Field.f k ((rd_T29 x3 x5).f0) ((rd_T29 x3 x5).f1) x7 x11 (rdOf ByteArray.empty x4 x20)).bind fun bt395 => (if x12 = true then ((cellarref7_Field.f k ((rd_T29 x3 x5).f0) ((rd_T29 x3 x5).f1) x7 x11 (rdOf ByteArray.empty x4 x20)).bind fun bt400 => (cellarlaw7_LaySizes.j11 k x3 x4 x5 x6 x7 x8 x9 x10 x11 x12 x13 x20 bt395.1 bt395.2.1 bt395.2.2 bt400.2.2 bt400.1 bt400.2.1 x356000 x356001 x356002 x356003)) else (cellarlaw7_LaySizes.j11 k x3 x4 x5 x6 x7 x8 x9 x10 x11 x12 x13 x20 bt395.1 bt395.2.1 bt395.2.2 x13 0 0 x356000 x356001 x356002 x356003))) else (none)) else (none)) else (none)) else (none)) else ((some (([0, 1, 15, (-1)] : List Int) : List Int)).bind fun y404 => (if y404.length + x356003.length < 17592186044416 then (cellarlaw7_LaySizes.l4 k x3 x4 x5 x6 x7 x8 x9 x10 x11 x12 x13 (y404 ++ x356003) 0 x356000 x356001 x356002 x356003) else (none)))
def cellarlaw7_LaySizes.j11 : Nat → List (S29) → List ByteArray → Int → Int → List (S31) → List Int → List Int → Bool → Int → Bool → Int → Int → Int → Int → Int → Int → Int → Int → List (S29) → List (List (S31)) → List ByteArray → List Int → Option (Bool)
 | 0, _, _, _, _, _, _, _, _, _, _, _, _, _, _, _, _, _, _, _, _, _, _ => none
 | k + 1, x3, x4, x5, x6, x7, x8, x9, x10, x11, x12, x13, x20, x21, x22, x23, x24, x25, x26, x356000, x356001, x356002, x356003 => (cellarlaw7_num.f x23).bind fun t403 => (if t403 = x24 then (if x21 = x25 then (cellarlaw7_LaySizes.j12 k x3 x4 x5 x6 x7 x8 x9 x10 x11 x12 x13 x20 (x22 != x26) x356000 x356001 x356002 x356003) else (cellarlaw7_LaySizes.j12 k x3 x4 x5 x6 x7 x8 x9 x10 x11 x12 x13 x20 true x356000 x356001 x356002 x356003)) else (cellarlaw7_LaySizes.j12 k x3 x4 x5 x6 x7 x8 x9 x10 x11 x12 x13 x20 true x356000 x356001 x356002 x356003))
def cellarlaw7_LaySizes.j12 : Nat → List (S29) → List ByteArray → Int → Int → List (S31) → List Int → List Int → Bool → Int → Bool → Int → Int → Bool → List (S29) → List (List (S31)) → List ByteArray → List Int → Option (Bool)
 | 0, _, _, _, _, _, _, _, _, _, _, _, _, _, _, _, _, _ => none
 | k + 1, x3, x4, x5, x6, x7, x8, x9, x10, x11, x12, x13, x20, x211, x356000, x356001, x356002, x356003 => if x211 = true then (some false) else (cellarlaw7_LaySizes.l3 k x3 x4 x5 x6 x7 x8 x9 x10 x11 x12 x13 (wrap64 (x20 + 1)) x356000 x356001 x356002 x356003)
def cellarlaw7_LaySizes.l4 : Nat → List (S29) → List ByteArray → Int → Int → List (S31) → List Int → List Int → Bool → Int → Bool → Int → List Int → Int → List (S29) → List (List (S31)) → List ByteArray → List Int → Option (Bool)
 | 0, _, _, _, _, _, _, _, _, _, _, _, _, _, _, _, _, _ => none
 | k + 1, x3, x4, x5, x6, x7, x8, x9, x10, x11, x12, x13, x27, x28, x356000, x356001, x356002, x356003 => if x28 < (x27.length : Int) then (cellarlaw7_LaySizes.j14 k x3 x4 x5 x6 x7 x8 x9 x10 x11 x12 x13 x27 x28 (decide (x28 < 8)) x356000 x356001 x356002 x356003) else (cellarlaw7_LaySizes.j14 k x3 x4 x5 x6 x7 x8 x9 x10 x11 x12 x13 x27 x28 false x356000 x356001 x356002 x356003)
def cellarlaw7_LaySizes.j14 : Nat → List (S29) → List ByteArray → Int → Int → List (S31) → List Int → List Int → Bool → Int → Bool → Int → List Int → Int → Bool → List (S29) → List (List (S31)) → List ByteArray → List Int → Option (Bool)
 | 0, _, _, _, _, _, _, _, _, _, _, _, _, _, _, _, _, _, _ => none
 | k + 1, x3, x4, x5, x6, x7, x8, x9, x10, x11, x12, x13, x27, x28, x223, x356000, x356001, x356002, x356003 => if x223 = true then (if 0 ≤ x5 then (if x5 < (x3.length : Int) then (if 0 ≤ x28 then (if x28 < (x27.length : Int) then ((lay_Item.f k ((rd_T29 x3 x5).f0) ((rd_T29 x3 x5).f1) x7 x11 (rd x27 x28)).bind fun bt412 => (if x12 = true then (if 0 ≤ x11 then (if x11 < (x7.length : Int) then (if ((rd_T31 x7 x11).f0) = 8 then ((cellarref0_Num.f (rd x27 x28) (wrap64 (((rd_T31 x7 x11).f1) - 1))).bind fun t417 => (if t417 = true then (if 0 ≤ ((rd_T31 x7 x11).f2) then (if ((rd_T31 x7 x11).f2) < (x8.length : Int) then (cellarlaw7_LaySizes.j15 k x3 x4 x5 x6 x7 x8 x9 x10 x11 x12 x13 x27 x28 bt412.1 bt412.2 0 (wrap64 ((rd x27 x28) * (rd x8 ((rd_T31 x7 x11).f2)))) x356000 x356001 x356002 x356003) else (none)) else (none)) else (cellarlaw7_LaySizes.j15 k x3 x4 x5 x6 x7 x8 x9 x10 x11 x12 x13 x27 x28 bt412.1 bt412.2 2 0 x356000 x356001 x356002 x356003))) else (cellarlaw7_LaySizes.j16 k x3 x4 x5 x6 x7 x8 x9 x10 x11 x12 x13 x27 x28 bt412.1 bt412.2 5 0 x356000 x356001 x356002 x356003)) else (none)) else (none)) else (cellarlaw7_LaySizes.j17 k x3 x4 x5 x6 x7 x8 x9 x10 x11 x12 x13 x27 x28 bt412.1 bt412.2 x13 0 x356000 x356001 x356002 x356003))) else (none)) else (none)) else (none)) else (none)) else (cellarlaw7_LaySizes.l2 k x3 x4 x5 x6 x7 x8 x9 x10 (wrap64 (x11 + 1)) x356000 x356001 x356002 x356003)
def cellarlaw7_LaySizes.j17 : Nat → List (S29) → List ByteArray → Int → Int → List (S31) → List Int → List Int → Bool → Int → Bool → Int → List Int → Int → Int → Int → Int → Int → List (S29) → List (List (S31)) → List ByteArray → List Int → Option (Bool)
 | 0, _, _, _, _, _, _, _, _, _, _, _, _, _, _, _, _, _, _, _, _, _ => none
 | k + 1, x3, x4, x5, x6, x7, x8, x9, x10, x11, x12, x13, x27, x28, x29, x30, x31, x32, x356000, x356001, x356002, x356003 => (cellarlaw7_num.f x30).bind fun t421 => (if t421 = x31 then (if x29 = x32 then (cellarlaw7_LaySizes.l4 k x3 x4 x5 x6 x7 x8 x9 x10 x11 x12 x13 x27 (wrap64 (x28 + 1)) x356000 x356001 x356002 x356003) else (some false)) else (some false))
def cellarlaw7_LaySizes.j16 : Nat → List (S29) → List ByteArray → Int → Int → List (S31) → List Int → List Int → Bool → Int → Bool → Int → List Int → Int → Int → Int → Int → Int → List (S29) → List (List (S31)) → List ByteArray → List Int → Option (Bool)
 | 0, _, _, _, _, _, _, _, _, _, _, _, _, _, _, _, _, _, _, _, _, _ => none
 | k + 1, x3, x4, x5, x6, x7, x8, x9, x10, x11, x12, x13, x27, x28, x29, x30, x31, x32, x356000, x356001, x356002, x356003 => cellarlaw7_LaySizes.j17 k x3 x4 x5 x6 x7 x8 x9 x10 x11 x12 x13 x27 x28 x29 x30 x31 x32 x356000 x356001 x356002 x356003
def cellarlaw7_LaySizes.j15 : Nat → List (S29) → List ByteArray → Int → Int → List (S31) → List Int → List Int → Bool → Int → Bool → Int → List Int → Int → Int → Int → Int → Int → List (S29) → List (List (S31)) → List ByteArray → List Int → Option (Bool)
 | 0, _, _, _, _, _, _, _, _, _, _, _, _, _, _, _, _, _, _, _, _, _ => none
 | k + 1, x3, x4, x5, x6, x7, x8, x9, x10, x11, x12, x13, x27, x28, x29, x30, x31, x32, x356000, x356001, x356002, x356003 => cellarlaw7_LaySizes.j16 k x3 x4 x5 x6 x7 x8 x9 x10 x11 x12 x13 x27 x28 x29 x30 x31 x32 x356000 x356001 x356002 x356003
end
def cellarlaw7_LaySizes.f (k : Nat) (l0_0 : List (S29)) (l0_1 : List (List (S31))) (l0_2 : List ByteArray) (l0_3 : List Int) : Option (Bool) := (cellarlaw7_Heavy.f k l0_0 l0_1 l0_2 l0_3).bind fun t356 => (if t356 = true then (some true) else ((cellarlaw7_machines.f l0_0 l0_1 l0_2 l0_3).bind fun t357 => ((some (([(⟨#[97]⟩ : ByteArray), (⟨#[98]⟩ : ByteArray), (⟨#[122, 122]⟩ : ByteArray), (⟨#[]⟩ : ByteArray)] : List ByteArray) : List ByteArray)).bind fun y360 => (if y360.length + l0_2.length < 8796093022208 then (cellarlaw7_LaySizes.l0 k t357 (y360 ++ l0_2) 0 l0_0 l0_1 l0_2 l0_3) else (none)))))
theorem cellarlaw7_LaySizes.mono_l : ∀ k, (∀ y0 y1 y2 y3 y4 y5 y6, LeO (cellarlaw7_LaySizes.l0 k y0 y1 y2 y3 y4 y5 y6) (cellarlaw7_LaySizes.l0 (k + 1) y0 y1 y2 y3 y4 y5 y6)) ∧ (∀ y0 y1 y2 y3 y4 y5 y6 y7, LeO (cellarlaw7_LaySizes.l1 k y0 y1 y2 y3 y4 y5 y6 y7) (cellarlaw7_LaySizes.l1 (k + 1) y0 y1 y2 y3 y4 y5 y6 y7)) ∧ (∀ y0 y1 y2 y3 y4 y5 y6 y7 y8, LeO (cellarlaw7_LaySizes.j2 k y0 y1 y2 y3 y4 y5 y6 y7 y8) (cellarlaw7_LaySizes.j2 (k + 1) y0 y1 y2 y3 y4 y5 y6 y7 y8)) ∧ (∀ y0 y1 y2 y3 y4 y5 y6 y7 y8 y9 y10 y11 y12, LeO (cellarlaw7_LaySizes.l2 k y0 y1 y2 y3 y4 y5 y6 y7 y8 y9 y10 y11 y12) (cellarlaw7_LaySizes.l2 (k + 1) y0 y1 y2 y3 y4 y5 y6 y7 y8 y9 y10 y11 y12)) ∧ (∀ y0 y1 y2 y3 y4 y5 y6 y7 y8 y9 y10 y11 y12 y13, LeO (cellarlaw7_LaySizes.j4 k y0 y1 y2 y3 y4 y5 y6 y7 y8 y9 y10 y11 y12 y13) (cellarlaw7_LaySizes.j4 (k + 1) y0 y1 y2 y3 y4 y5 y6 y7 y8 y9 y10 y11 y12 y13)) ∧ (∀ y0 y1 y2 y3 y4 y5 y6 y7 y8 y9 y10 y11 y12 y13, LeO (cellarlaw7_LaySizes.j5 k y0 y1 y2 y3 y4 y5 y6 y7 y8 y9 y10 y11 y12 y13) (cellarlaw7_LaySizes.j5 (k + 1) y0 y1 y2 y3 y4 y5 y6 y7 y8 y9 y10 y11 y12 y13)) ∧ (∀ y0 y1 y2 y3 y4 y5 y6 y7 y8 y9 y10 y11 y12 y13 y14 y15 y16, LeO (cellarlaw7_LaySizes.j6 k y0 y1 y2 y3 y4 y5 y6 y7 y8 y9 y10 y11 y12 y13 y14 y15 y16) (cellarlaw7_LaySizes.j6 (k + 1) y0 y1 y2 y3 y4 y5 y6 y7 y8 y9 y10 y11 y12 y13 y14 y15 y16)) ∧ (∀ y0 y1 y2 y3 y4 y5 y6 y7 y8 y9 y10 y11 y12 y13 y14 y15 y16, LeO (cellarlaw7_LaySizes.j7 k y0 y1 y2 y3 y4 y5 y6 y7 y8 y9 y10 y11 y12 y13 y14 y15 y16) (cellarlaw7_LaySizes.j7 (k + 1) y0 y1 y2 y3 y4 y5 y6 y7 y8 y9 y10 y11 y12 y13 y14 y15 y16)) ∧ (∀ y0 y1 y2 y3 y4 y5 y6 y7 y8 y9 y10 y11 y12 y13 y14 y15, LeO (cellarlaw7_LaySizes.j8 k y0 y1 y2 y3 y4 y5 y6 y7 y8 y9 y10 y11 y12 y13 y14 y15) (cellarlaw7_LaySizes.j8 (k + 1) y0 y1 y2 y3 y4 y5 y6 y7 y8 y9 y10 y11 y12 y13 y14 y15)) ∧ (∀ y0 y1 y2 y3 y4 y5 y6 y7 y8 y9 y10 y11 y12 y13 y14 y15, LeO (cellarlaw7_LaySizes.l3 k y0 y1 y2 y3 y4 y5 y6 y7 y8 y9 y10 y11 y12 y13 y14 y15) (cellarlaw7_LaySizes.l3 (k + 1) y0 y1 y2 y3 y4 y5 y6 y7 y8 y9 y10 y11 y12 y13 y14 y15)) ∧ (∀ y0 y1 y2 y3 y4 y5 y6 y7 y8 y9 y10 y11 y12 y13 y14 y15 y16, LeO (cellarlaw7_LaySizes.j10 k y0 y1 y2 y3 y4 y5 y6 y7 y8 y9 y10 y11 y12 y13 y14 y15 y16) (cellarlaw7_LaySizes.j10 (k + 1) y0 y1 y2 y3 y4 y5 y6 y7 y8 y9 y10 y11 y12 y13 y14 y15 y16)) ∧ (∀ y0 y1 y2 y3 y4 y5 y6 y7 y8 y9 y10 y11 y12 y13 y14 y15 y16 y17 y18 y19 y20 y21, LeO (cellarlaw7_LaySizes.j11 k y0 y1 y2 y3 y4 y5 y6 y7 y8 y9 y10 y11 y12 y13 y14 y15 y16 y17 y18 y19 y20 y21) (cellarlaw7_LaySizes.j11 (k + 1) y0 y1 y2 y3 y4 y5 y6 y7 y8 y9 y10 y11 y12 y13 y14 y15 y16 y17 y18 y19 y20 y21)) ∧ (∀ y0 y1 y2 y3 y4 y5 y6 y7 y8 y9 y10 y11 y12 y13 y14 y15 y16, LeO (cellarlaw7_LaySizes.j12 k y0 y1 y2 y3 y4 y5 y6 y7 y8 y9 y10 y11 y12 y13 y14 y15 y16) (cellarlaw7_LaySizes.j12 (k + 1) y0 y1 y2 y3 y4 y5 y6 y7 y8 y9 y10 y11 y12 y13 y14 y15 y16)) ∧ (∀ y0 y1 y2 y3 y4 y5 y6 y7 y8 y9 y10 y11 y12 y13 y14 y15 y16, LeO (cellarlaw7_LaySizes.l4 k y0 y1 y2 y3 y4 y5 y6 y7 y8 y9 y10 y11 y12 y13 y14 y15 y16) (cellarlaw7_LaySizes.l4 (k + 1) y0 y1 y2 y3 y4 y5 y6 y7 y8 y9 y10 y11 y12 y13 y14 y15 y16)) ∧ (∀ y0 y1 y2 y3 y4 y5 y6 y7 y8 y9 y10 y11 y12 y13 y14 y15 y16 y17, LeO (cellarlaw7_LaySizes.j14 k y0 y1 y2 y3 y4 y5 y6 y7 y8 y9 y10 y11 y12 y13 y14 y15 y16 y17) (cellarlaw7_LaySizes.j14 (k + 1) y0 y1 y2 y3 y4 y5 y6 y7 y8 y9 y10 y11 y12 y13 y14 y15 y16 y17)) ∧ (∀ y0 y1 y2 y3 y4 y5 y6 y7 y8 y9 y10 y11 y12 y13 y14 y15 y16 y17 y18 y19 y20, LeO (cellarlaw7_LaySizes.j17 k y0 y1 y2 y3 y4 y5 y6 y7 y8 y9 y10 y11 y12 y13 y14 y15 y16 y17 y18 y19 y20) (cellarlaw7_LaySizes.j17 (k + 1) y0 y1 y2 y3 y4 y5 y6 y7 y8 y9 y10 y11 y12 y13 y14 y15 y16 y17 y18 y19 y20)) ∧ (∀ y0 y1 y2 y3 y4 y5 y6 y7 y8 y9 y10 y11 y12 y13 y14 y15 y16 y17 y18 y19 y20, LeO (cellarlaw7_LaySizes.j16 k y0 y1 y2 y3 y4 y5 y6 y7 y8 y9 y10 y11 y12 y13 y14 y15 y16 y17 y18 y19 y20) (cellarlaw7_LaySizes.j16 (k + 1) y0 y1 y2 y3 y4 y5 y6 y7 y8 y9 y10 y11 y12 y13 y14 y15 y16 y17 y18 y19 y20)) ∧ (∀ y0 y1 y2 y3 y4 y5 y6 y7 y8 y9 y10 y11 y12 y13 y14 y15 y16 y17 y18 y19 y20, LeO (cellarlaw7_LaySizes.j15 k y0 y1 y2 y3 y4 y5 y6 y7 y8 y9 y10 y11 y12 y13 y14 y15 y16 y17 y18 y19 y20) (cellarlaw7_LaySizes.j15 (k + 1) y0 y1 y2 y3 y4 y5 y6 y7 y8 y9 y10 y11 y12 y13 y14 y15 y16 y17 y18 y19 y20))
 | 0 => ⟨fun _ _ _ _ _ _ _ r h => by simp [cellarlaw7_LaySizes.l0] at h, fun _ _ _ _ _ _ _ _ r h => by simp [cellarlaw7_LaySizes.l1] at h, fun _ _ _ _ _ _ _ _ _ r h => by simp [cellarlaw7_LaySizes.j2] at h, fun _ _ _ _ _ _ _ _ _ _ _ _ _ r h => by simp [cellarlaw7_LaySizes.l2] at h, fun _ _ _ _ _ _ _ _ _ _ _ _ _ _ r h => by simp [cellarlaw7_LaySizes.j4] at h, fun _ _ _ _ _ _ _ _ _ _ _ _ _ _ r h => by simp [cellarlaw7_LaySizes.j5] at h, fun _ _ _ _ _ _ _ _ _ _ _ _ _ _ _ _ _ r h => by simp [cellarlaw7_LaySizes.j6] at h, fun _ _ _ _ _ _ _ _ _ _ _ _ _ _ _ _ _ r h => by simp [cellarlaw7_LaySizes.j7] at h, fun _ _ _ _ _ _ _ _ _ _ _ _ _ _ _ _ r h => by simp [cellarlaw7_LaySizes.j8] at h, fun _ _ _ _ _ _ _ _ _ _ _ _ _ _ _ _ r h => by simp [cellarlaw7_LaySizes.l3] at h, fun _ _ _ _ _ _ _ _ _ _ _ _ _ _ _ _ _ r h => by simp [cellarlaw7_LaySizes.j10] at h, fun _ _ _ _ _ _ _ _ _ _ _ _ _ _ _ _ _ _ _ _ _ _ r h => by simp [cellarlaw7_LaySizes.j11] at h, fun _ _ _ _ _ _ _ _ _ _ _ _ _ _ _ _ _ r h => by simp [cellarlaw7_LaySizes.j12] at h, fun _ _ _ _ _ _ _ _ _ _ _ _ _ _ _ _ _ r h => by simp [cellarlaw7_LaySizes.l4] at h, fun _ _ _ _ _ _ _ _ _ _ _ _ _ _ _ _ _ _ r h => by simp [cellarlaw7_LaySizes.j14] at h, fun _ _ _ _ _ _ _ _ _ _ _ _ _ _ _ _ _ _ _ _ _ r h => by simp [cellarlaw7_LaySizes.j17] at h, fun _ _ _ _ _ _ _ _ _ _ _ _ _ _ _ _ _ _ _ _ _ r h => by simp [cellarlaw7_LaySizes.j16] at h, fun _ _ _ _ _ _ _ _ _ _ _ _ _ _ _ _ _ _ _ _ _ r h => by simp [cellarlaw7_LaySizes.j15] at h⟩
 | k + 1 => by
  obtain ⟨ih0, ih1, ih2, ih3, ih4, ih5, ih6, ih7, ih8, ih9, ih10, ih11, ih12, ih13, ih14, ih15, ih16, ih17⟩ := cellarlaw7_LaySizes.mono_l k
  refine ⟨?_, ?_, ?_, ?_, ?_, ?_, ?_, ?_, ?_, ?_, ?_, ?_, ?_, ?_, ?_, ?_, ?_, ?_⟩
  ·intro y0 y1 y2 y3 y4 y5 y6
   unfold cellarlaw7_LaySizes.l0
   repeat' first
   | (with_reducible apply ih0)
   | (with_reducible apply ih1)
   | (with_reducible apply ih2)
   | (with_reducible apply ih3)
   | (with_reducible apply ih4)
   | (with_reducible apply ih5)
   | (with_reducible apply ih6)
   | (with_reducible apply ih7)
   | (with_reducible apply ih8)
   | (with_reducible apply ih9)
   | (with_reducible apply ih10)
   | (with_reducible apply ih11)
   | (with_reducible apply ih12)
   | (with_reducible apply ih13)
   | (with_reducible apply ih14)
   | (with_reducible apply ih15)
   | (with_reducible apply ih16)
   | (with_reducible apply ih17)
   | (with_reducible apply cellarlaw7_Heavy.mono)
   | (with_reducible apply cellarlaw7_wakes.mono)
   | (with_reducible apply cellarref0_CopyTypes.mono)
   | (with_reducible apply cellarref0_EqTypes.mono)
   | (with_reducible apply cellarref7_Field.mono)
   | (with_reducible apply cellarref7_Types.mono)
   | (with_reducible apply lay_Align.mono)
   | (with_reducible apply lay_Check.mono)
   | (with_reducible apply lay_Field.mono)
   | (with_reducible apply lay_Item.mono)
   | (with_reducible apply lay_Size.mono)
   | (with_reducible apply LeO.refl)
   | (with_reducible apply LeO.none)
   | (with_reducible refine LeO.ite ?_ ?_)
   | (with_reducible refine LeO.bind ?_ (fun _ => ?_))
  ·intro y0 y1 y2 y3 y4 y5 y6 y7
   unfold cellarlaw7_LaySizes.l1
   repeat' first
   | (with_reducible apply ih0)
   | (with_reducible apply ih1)
   | (with_reducible apply ih2)
   | (with_reducible apply ih3)
   | (with_reducible apply ih4)
   | (with_reducible apply ih5)
   | (with_reducible apply ih6)
   | (with_reducible apply ih7)
   | (with_reducible apply ih8)
   | (with_reducible apply ih9)
   | (with_reducible apply ih10)
   | (with_reducible apply ih11)
   | (with_reducible apply ih12)
   | (with_reducible apply ih13)
   | (with_reducible apply ih14)
   | (with_reducible apply ih15)
   | (with_reducible apply ih16)
   | (with_reducible apply ih17)
   | (with_reducible apply cellarlaw7_Heavy.mono)
   | (with_reducible apply cellarlaw7_wakes.mono)
   | (with_reducible apply cellarref0_CopyTypes.mono)
   | (with_reducible apply cellarref0_EqTypes.mono)
   | (with_reducible apply cellarref7_Field.mono)
   | (with_reducible apply cellarref7_Types.mono)
   | (with_reducible apply lay_Align.mono)
   | (with_reducible apply lay_Check.mono)
   | (with_reducible apply lay_Field.mono)
   | (with_reducible apply lay_Item.mono)
   | (with_reducible apply lay_Size.mono)
   | (with_reducible apply LeO.refl)
   | (with_reducible apply LeO.none)
   | (with_reducible refine LeO.ite ?_ ?_)
   | (with_reducible refine LeO.bind ?_ (fun _ => ?_))
  ·intro y0 y1 y2 y3 y4 y5 y6 y7 y8
   unfold cellarlaw7_LaySizes.j2
   repeat' first
   | (with_reducible apply ih0)
   | (with_reducible apply ih1)
   | (with_reducible apply ih2)
   | (with_reducible apply ih3)
   | (with_reducible apply ih4)
   | (with_reducible apply ih5)
   | (with_reducible apply ih6)
   | (with_reducible apply ih7)
   | (with_reducible apply ih8)
   | (with_reducible apply ih9)
   | (with_reducible apply ih10)
   | (with_reducible apply ih11)
   | (with_reducible apply ih12)
   | (with_reducible apply ih13)
   | (with_reducible apply ih14)
   | (with_reducible apply ih15)
   | (with_reducible apply ih16)
   | (with_reducible apply ih17)
   | (with_reducible apply cellarlaw7_Heavy.mono)
   | (with_reducible apply cellarlaw7_wakes.mono)
   | (with_reducible apply cellarref0_CopyTypes.mono)
   | (with_reducible apply cellarref0_EqTypes.mono)
   | (with_reducible apply cellarref7_Field.mono)
   | (with_reducible apply cellarref7_Types.mono)
   | (with_reducible apply lay_Align.mono)
   | (with_reducible apply lay_Check.mono)
   | (with_reducible apply lay_Field.mono)
   | (with_reducible apply lay_Item.mono)
   | (with_reducible apply lay_Size.mono)
   | (with_reducible apply LeO.refl)
   | (with_reducible apply LeO.none)
   | (with_reducible refine LeO.ite ?_ ?_)
   | (with_reducible refine LeO.bind ?_ (fun _ => ?_))
  ·intro y0 y1 y2 y3 y4 y5 y6 y7 y8 y9 y10 y11 y12
   unfold cellarlaw7_LaySizes.l2
   repeat' first
   | (with_reducible apply ih0)
   | (with_reducible apply ih1)
   | (with_reducible apply ih2)
   | (with_reducible apply ih3)
   | (with_reducible apply ih4)
   | (with_reducible apply ih5)
   | (with_reducible apply ih6)
   | (with_reducible apply ih7)
   | (with_reducible apply ih8)
   | (with_reducible apply ih9)
   | (with_reducible apply ih10)
   | (with_reducible apply ih11)
   | (with_reducible apply ih12)
   | (with_reducible apply ih13)
   | (with_reducible apply ih14)
   | (with_reducible apply ih15)
   | (with_reducible apply ih16)
   | (with_reducible apply ih17)
   | (with_reducible apply cellarlaw7_Heavy.mono)
   | (with_reducible apply cellarlaw7_wakes.mono)
   | (with_reducible apply cellarref0_CopyTypes.mono)
   | (with_reducible apply cellarref0_EqTypes.mono)
   | (with_reducible apply cellarref7_Field.mono)
   | (with_reducible apply cellarref7_Types.mono)
   | (with_reducible apply lay_Align.mono)
   | (with_reducible apply lay_Check.mono)
   | (with_reducible apply lay_Field.mono)
   | (with_reducible apply lay_Item.mono)
   | (with_reducible apply lay_Size.mono)
   | (with_reducible apply LeO.refl)
   | (with_reducible apply LeO.none)
   | (with_reducible refine LeO.ite ?_ ?_)
   | (with_reducible refine LeO.bind ?_ (fun _ => ?_))
  ·intro y0 y1 y2 y3 y4 y5 y6 y7 y8 y9 y10 y11 y12 y13
   unfold cellarlaw7_LaySizes.j4
   repeat' first
   | (with_reducible apply ih0)
   | (with_reducible apply ih1)
   | (with_reducible apply ih2)
   | (with_reducible apply ih3)
   | (with_reducible apply ih4)
   | (with_reducible apply ih5)
   | (with_reducible apply ih6)
   | (with_reducible apply ih7)
   | (with_reducible apply ih8)
   | (with_reducible apply ih9)
   | (with_reducible apply ih10)
   | (with_reducible apply ih11)
   | (with_reducible apply ih12)
   | (with_reducible apply ih13)
   | (with_reducible apply ih14)
   | (with_reducible apply ih15)
   | (with_reducible apply ih16)
   | (with_reducible apply ih17)
   | (with_reducible apply cellarlaw7_Heavy.mono)
   | (with_reducible apply cellarlaw7_wakes.mono)
   | (with_reducible apply cellarref0_CopyTypes.mono)
   | (with_reducible apply cellarref0_EqTypes.mono)
   | (with_reducible apply cellarref7_Field.mono)
   | (with_reducible apply cellarref7_Types.mono)
   | (with_reducible apply lay_Align.mono)
   | (with_reducible apply lay_Check.mono)
   | (with_reducible apply lay_Field.mono)
   | (with_reducible apply lay_Item.mono)
   | (with_reducible apply lay_Size.mono)
   | (with_reducible apply LeO.refl)
   | (with_reducible apply LeO.none)
   | (with_reducible refine LeO.ite ?_ ?_)
   | (with_reducible refine LeO.bind ?_ (fun _ => ?_))
  ·intro y0 y1 y2 y3 y4 y5 y6 y7 y8 y9 y10 y11 y12 y13
   unfold cellarlaw7_LaySizes.j5
   repeat' first
   | (with_reducible apply ih0)
   | (with_reducible apply ih1)
   | (with_reducible apply ih2)
   | (with_reducible apply ih3)
   | (with_reducible apply ih4)
   | (with_reducible apply ih5)
   | (with_reducible apply ih6)
   | (with_reducible apply ih7)
   | (with_reducible apply ih8)
   | (with_reducible apply ih9)
   | (with_reducible apply ih10)
   | (with_reducible apply ih11)
   | (with_reducible apply ih12)
   | (with_reducible apply ih13)
   | (with_reducible apply ih14)
   | (with_reducible apply ih15)
   | (with_reducible apply ih16)
   | (with_reducible apply ih17)
   | (with_reducible apply cellarlaw7_Heavy.mono)
   | (with_reducible apply cellarlaw7_wakes.mono)
   | (with_reducible apply cellarref0_CopyTypes.mono)
   | (with_reducible apply cellarref0_EqTypes.mono)
   | (with_reducible apply cellarref7_Field.mono)
   | (with_reducible apply cellarref7_Types.mono)
   | (with_reducible apply lay_Align.mono)
   | (with_reducible apply lay_Check.mono)
   | (with_reducible apply lay_Field.mono)
   | (with_reducible apply lay_Item.mono)
   | (with_reducible apply lay_Size.mono)
   | (with_reducible apply LeO.refl)
   | (with_reducible apply LeO.none)
   | (with_reducible refine LeO.ite ?_ ?_)
   | (with_reducible refine LeO.bind ?_ (fun _ => ?_))
  ·intro y0 y1 y2 y3 y4 y5 y6 y7 y8 y9 y10 y11 y12 y13 y14 y15 y16
   unfold cellarlaw7_LaySizes.j6
   repeat' first
   | (with_reducible apply ih0)
   | (with_reducible apply ih1)
   | (with_reducible apply ih2)
   | (with_reducible apply ih3)
   | (with_reducible apply ih4)
   | (with_reducible apply ih5)
   | (with_reducible apply ih6)
   | (with_reducible apply ih7)
   | (with_reducible apply ih8)
   | (with_reducible apply ih9)
   | (with_reducible apply ih10)
   | (with_reducible apply ih11)
   | (with_reducible apply ih12)
   | (with_reducible apply ih13)
   | (with_reducible apply ih14)
   | (with_reducible apply ih15)
   | (with_reducible apply ih16)
   | (with_reducible apply ih17)
   | (with_reducible apply cellarlaw7_Heavy.mono)
   | (with_reducible apply cellarlaw7_wakes.mono)
   | (with_reducible apply cellarref0_CopyTypes.mono)
   | (with_reducible apply cellarref0_EqTypes.mono)
   | (with_reducible apply cellarref7_Field.mono)
   | (with_reducible apply cellarref7_Types.mono)
   | (with_reducible apply lay_Align.mono)
   | (with_reducible apply lay_Check.mono)
   | (with_reducible apply lay_Field.mono)
   | (with_reducible apply lay_Item.mono)
   | (with_reducible apply lay_Size.mono)
   | (with_reducible apply LeO.refl)
   | (with_reducible apply LeO.none)
   | (with_reducible refine LeO.ite ?_ ?_)
   | (with_reducible refine LeO.bind ?_ (fun _ => ?_))
  ·intro y0 y1 y2 y3 y4 y5 y6 y7 y8 y9 y10 y11 y12 y13 y14 y15 y16
   unfold cellarlaw7_LaySizes.j7
   repeat' first
   | (with_reducible apply ih0)
   | (with_reducible apply ih1)
   | (with_reducible apply ih2)
   | (with_reducible apply ih3)
   | (with_reducible apply ih4)
   | (with_reducible apply ih5)
   | (with_reducible apply ih6)
   | (with_reducible apply ih7)
   | (with_reducible apply ih8)
   | (with_reducible apply ih9)
   | (with_reducible apply ih10)
   | (with_reducible apply ih11)
   | (with_reducible apply ih12)
   | (with_reducible apply ih13)
   | (with_reducible apply ih14)
   | (with_reducible apply ih15)
   | (with_reducible apply ih16)
   | (with_reducible apply ih17)
   | (with_reducible apply cellarlaw7_Heavy.mono)
   | (with_reducible apply cellarlaw7_wakes.mono)
   | (with_reducible apply cellarref0_CopyTypes.mono)
   | (with_reducible apply cellarref0_EqTypes.mono)
   | (with_reducible apply cellarref7_Field.mono)
   | (with_reducible apply cellarref7_Types.mono)
   | (with_reducible apply lay_Align.mono)
   | (with_reducible apply lay_Check.mono)
   | (with_reducible apply lay_Field.mono)
   | (with_reducible apply lay_Item.mono)
   | (with_reducible apply lay_Size.mono)
   | (with_reducible apply LeO.refl)
   | (with_reducible apply LeO.none)
   | (with_reducible refine LeO.ite ?_ ?_)
   | (with_reducible refine LeO.bind ?_ (fun _ => ?_))
  ·intro y0 y1 y2 y3 y4 y5 y6 y7 y8 y9 y10 y11 y12 y13 y14 y15
   unfold cellarlaw7_LaySizes.j8
   repeat' first
   | (with_reducible apply ih0)
   | (with_reducible apply ih1)
   | (with_reducible apply ih2)
   | (with_reducible apply ih3)
   | (with_reducible apply ih4)
   | (with_reducible apply ih5)
   | (with_reducible apply ih6)
   | (with_reducible apply ih7)
   | (with_reducible apply ih8)
   | (with_reducible apply ih9)
   | (with_reducible apply ih10)
   | (with_reducible apply ih11)
   | (with_reducible apply ih12)
   | (with_reducible apply ih13)
   | (with_reducible apply ih14)
   | (with_reducible apply ih15)
   | (with_reducible apply ih16)
   | (with_reducible apply ih17)
   | (with_reducible apply cellarlaw7_Heavy.mono)
   | (with_reducible apply cellarlaw7_wakes.mono)
   | (with_reducible apply cellarref0_CopyTypes.mono)
   | (with_reducible apply cellarref0_EqTypes.mono)
   | (with_reducible apply cellarref7_Field.mono)
   | (with_reducible apply cellarref7_Types.mono)
   | (with_reducible apply lay_Align.mono)
   | (with_reducible apply lay_Check.mono)
   | (with_reducible apply lay_Field.mono)
   | (with_reducible apply lay_Item.mono)
   | (with_reducible apply lay_Size.mono)
   | (with_reducible apply LeO.refl)
   | (with_reducible apply LeO.none)
   | (with_reducible refine LeO.ite ?_ ?_)
   | (with_reducible refine LeO.bind ?_ (fun _ => ?_))
  ·intro y0 y1 y2 y3 y4 y5 y6 y7 y8 y9 y10 y11 y12 y13 y14 y15
   unfold cellarlaw7_LaySizes.l3
   repeat' first
   | (with_reducible apply ih0)
   | (with_reducible apply ih1)
   | (with_reducible apply ih2)
   | (with_reducible apply ih3)
   | (with_reducible apply ih4)
   | (with_reducible apply ih5)
   | (with_reducible apply ih6)
   | (with_reducible apply ih7)
   | (with_reducible apply ih8)
   | (with_reducible apply ih9)
   | (with_reducible apply ih10)
   | (with_reducible apply ih11)
   | (with_reducible apply ih12)
   | (with_reducible apply ih13)
   | (with_reducible apply ih14)
   | (with_reducible apply ih15)
   | (with_reducible apply ih16)
   | (with_reducible apply ih17)
   | (with_reducible apply cellarlaw7_Heavy.mono)
   | (with_reducible apply cellarlaw7_wakes.mono)
   | (with_reducible apply cellarref0_CopyTypes.mono)
   | (with_reducible apply cellarref0_EqTypes.mono)
   | (with_reducible apply cellarref7_Field.mono)
   | (with_reducible apply cellarref7_Types.mono)
   | (with_reducible apply lay_Align.mono)
   | (with_reducible apply lay_Check.mono)
   | (with_reducible apply lay_Field.mono)
   | (with_reducible apply lay_Item.mono)
   | (with_reducible apply lay_Size.mono)
   | (with_reducible apply LeO.refl)
   | (with_reducible apply LeO.none)
   | (with_reducible refine LeO.ite ?_ ?_)
   | (with_reducible refine LeO.bind ?_ (fun _ => ?_))
  ·intro y0 y1 y2 y3 y4 y5 y6 y7 y8 y9 y10 y11 y12 y13 y14 y15 y16
   unfold cellarlaw7_LaySizes.j10
   repeat' first
   | (with_reducible apply ih0)
   | (with_reducible apply ih1)
   | (with_reducible apply ih2)
   | (with_reducible apply ih3)
   | (with_reducible apply ih4)
   | (with_reducible apply ih5)
   | (with_reducible apply ih6)
   | (with_reducible apply ih7)
   | (with_reducible apply ih8)
   | (with_reducible apply ih9)
   | (with_reducible apply ih10)
   | (with_reducible apply ih11)
   | (with_reducible apply ih12)
   | (with_reducible apply ih13)
   | (with_reducible apply ih14)
   | (with_reducible apply ih15)
   | (with_reducible apply ih16)
   | (with_reducible apply ih17)
   | (with_reducible apply cellarlaw7_Heavy.mono)
   | (with_reducible apply cellarlaw7_wakes.mono)
   | (with_reducible apply cellarref0_CopyTypes.mono)
   | (with_reducible apply cellarref0_EqTypes.mono)
   | (with_reducible apply cellarref7_Field.mono)
   | (with_reducible apply cellarref7_Types.mono)
   | (with_reducible apply lay_Align.mono)
   | (with_reducible apply lay_Check.mono)
   | (with_reducible apply lay_Field.mono)
   | (with_reducible apply lay_Item.mono)
   | (with_reducible apply lay_Size.mono)
   | (with_reducible apply LeO.refl)
   | (with_reducible apply LeO.none)
   | (with_reducible refine LeO.ite ?_ ?_)
   | (with_reducible refine LeO.bind ?_ (fun _ => ?_))
  ·intro y0 y1 y2 y3 y4 y5 y6 y7 y8 y9 y10 y11 y12 y13 y14 y15 y16 y17 y18 y19 y20 y21
   unfold cellarlaw7_LaySizes.j11
   repeat' first
   | (with_reducible apply ih0)
   | (with_reducible apply ih1)
   | (with_reducible apply ih2)
   | (with_reducible apply ih3)
   | (with_reducible apply ih4)
   | (with_reducible apply ih5)
   | (with_reducible apply ih6)
   | (with_reducible apply ih7)
   | (with_reducible apply ih8)
   | (with_reducible apply ih9)
   | (with_reducible apply ih10)
   | (with_reducible apply ih11)
   | (with_reducible apply ih12)
   | (with_reducible apply ih13)
   | (with_reducible apply ih14)
   | (with_reducible apply ih15)
   | (with_reducible apply ih16)
   | (with_reducible apply ih17)
   | (with_reducible apply cellarlaw7_Heavy.mono)
   | (with_reducible apply cellarlaw7_wakes.mono)
   | (with_reducible apply cellarref0_CopyTypes.mono)
   | (with_reducible apply cellarref0_EqTypes.mono)
   | (with_reducible apply cellarref7_Field.mono)
   | (with_reducible apply cellarref7_Types.mono)
   | (with_reducible apply lay_Align.mono)
   | (with_reducible apply lay_Check.mono)
   | (with_reducible apply lay_Field.mono)
   | (with_reducible apply lay_Item.mono)
   | (with_reducible apply lay_Size.mono)
   | (with_reducible apply LeO.refl)
   | (with_reducible apply LeO.none)
   | (with_reducible refine LeO.ite ?_ ?_)
   | (with_reducible refine LeO.bind ?_ (fun _ => ?_))
  ·intro y0 y1 y2 y3 y4 y5 y6 y7 y8 y9 y10 y11 y12 y13 y14 y15 y16
   unfold cellarlaw7_LaySizes.j12
   repeat' first
   | (with_reducible apply ih0)
   | (with_reducible apply ih1)
   | (with_reducible apply ih2)
   | (with_reducible apply ih3)
   | (with_reducible apply ih4)
   | (with_reducible apply ih5)
   | (with_reducible apply ih6)
   | (with_reducible apply ih7)
   | (with_reducible apply ih8)
   | (with_reducible apply ih9)
   | (with_reducible apply ih10)
   | (with_reducible apply ih11)
   | (with_reducible apply ih12)
   | (with_reducible apply ih13)
   | (with_reducible apply ih14)
   | (with_reducible apply ih15)
   | (with_reducible apply ih16)
   | (with_reducible apply ih17)
   | (with_reducible apply cellarlaw7_Heavy.mono)
   | (with_reducible apply cellarlaw7_wakes.mono)
   | (with_reducible apply cellarref0_CopyTypes.mono)
   | (with_reducible apply cellarref0_EqTypes.mono)
   | (with_reducible apply cellarref7_Field.mono)
   | (with_reducible apply cellarref7_Types.mono)
   | (with_reducible apply lay_Align.mono)
   | (with_reducible apply lay_Check.mono)
   | (with_reducible apply lay_Field.mono)
   | (with_reducible apply lay_Item.mono)
   | (with_reducible apply lay_Size.mono)
   | (with_reducible apply LeO.refl)
   | (with_reducible apply LeO.none)
   | (with_reducible refine LeO.ite ?_ ?_)
   | (with_reducible refine LeO.bind ?_ (fun _ => ?_))
  ·intro y0 y1 y2 y3 y4 y5 y6 y7 y8 y9 y10 y11 y12 y13 y14 y15 y16
   unfold cellarlaw7_LaySizes.l4
   repeat' first
   | (with_reducible apply ih0)
   | (with_reducible apply ih1)
   | (with_reducible apply ih2)
   | (with_reducible apply ih3)
   | (with_reducible apply ih4)
   | (with_reducible apply ih5)
   | (with_reducible apply ih6)
   | (with_reducible apply ih7)
   | (with_reducible apply ih8)
   | (with_reducible apply ih9)
   | (with_reducible apply ih10)
   | (with_reducible apply ih11)
   | (with_reducible apply ih12)
   | (with_reducible apply ih13)
   | (with_reducible apply ih14)
   | (with_reducible apply ih15)
   | (with_reducible apply ih16)
   | (with_reducible apply ih17)
   | (with_reducible apply cellarlaw7_Heavy.mono)
   | (with_reducible apply cellarlaw7_wakes.mono)
   | (with_reducible apply cellarref0_CopyTypes.mono)
   | (with_reducible apply cellarref0_EqTypes.mono)
   | (with_reducible apply cellarref7_Field.mono)
   | (with_reducible apply cellarref7_Types.mono)
   | (with_reducible apply lay_Align.mono)
   | (with_reducible apply lay_Check.mono)
   | (with_reducible apply lay_Field.mono)
   | (with_reducible apply lay_Item.mono)
   | (with_reducible apply lay_Size.mono)
   | (with_reducible apply LeO.refl)
   | (with_reducible apply LeO.none)
   | (with_reducible refine LeO.ite ?_ ?_)
   | (with_reducible refine LeO.bind ?_ (fun _ => ?_))
  ·intro y0 y1 y2 y3 y4 y5 y6 y7 y8 y9 y10 y11 y12 y13 y14 y15 y16 y17
   unfold cellarlaw7_LaySizes.j14
   repeat' first
   | (with_reducible apply ih0)
   | (with_reducible apply ih1)
   | (with_reducible apply ih2)
   | (with_reducible apply ih3)
   | (with_reducible apply ih4)
   | (with_reducible apply ih5)
   | (with_reducible apply ih6)
   | (with_reducible apply ih7)
   | (with_reducible apply ih8)
   | (with_reducible apply ih9)
   | (with_reducible apply ih10)
   | (with_reducible apply ih11)
   | (with_reducible apply ih12)
   | (with_reducible apply ih13)
   | (with_reducible apply ih14)
   | (with_reducible apply ih15)
   | (with_reducible apply ih16)
   | (with_reducible apply ih17)
   | (with_reducible apply cellarlaw7_Heavy.mono)
   | (with_reducible apply cellarlaw7_wakes.mono)
   | (with_reducible apply cellarref0_CopyTypes.mono)
   | (with_reducible apply cellarref0_EqTypes.mono)
   | (with_reducible apply cellarref7_Field.mono)
   | (with_reducible apply cellarref7_Types.mono)
   | (with_reducible apply lay_Align.mono)
   | (with_reducible apply lay_Check.mono)
   | (with_reducible apply lay_Field.mono)
   | (with_reducible apply lay_Item.mono)
   | (with_reducible apply lay_Size.mono)
   | (with_reducible apply LeO.refl)
   | (with_reducible apply LeO.none)
   | (with_reducible refine LeO.ite ?_ ?_)
   | (with_reducible refine LeO.bind ?_ (fun _ => ?_))
  ·intro y0 y1 y2 y3 y4 y5 y6 y7 y8 y9 y10 y11 y12 y13 y14 y15 y16 y17 y18 y19 y20
   unfold cellarlaw7_LaySizes.j17
   repeat' first
   | (with_reducible apply ih0)
   | (with_reducible apply ih1)
   | (with_reducible apply ih2)
   | (with_reducible apply ih3)
   | (with_reducible apply ih4)
   | (with_reducible apply ih5)
   | (with_reducible apply ih6)
   | (with_reducible apply ih7)
   | (with_reducible apply ih8)
   | (with_reducible apply ih9)
   | (with_reducible apply ih10)
   | (with_reducible apply ih11)
   | (with_reducible apply ih12)
   | (with_reducible apply ih13)
   | (with_reducible apply ih14)
   | (with_reducible apply ih15)
   | (with_reducible apply ih16)
   | (with_reducible apply ih17)
   | (with_reducible apply cellarlaw7_Heavy.mono)
   | (with_reducible apply cellarlaw7_wakes.mono)
   | (with_reducible apply cellarref0_CopyTypes.mono)
   | (with_reducible apply cellarref0_EqTypes.mono)
   | (with_reducible apply cellarref7_Field.mono)
   | (with_reducible apply cellarref7_Types.mono)
   | (with_reducible apply lay_Align.mono)
   | (with_reducible apply lay_Check.mono)
   | (with_reducible apply lay_Field.mono)
   | (with_reducible apply lay_Item.mono)
   | (with_reducible apply lay_Size.mono)
   | (with_reducible apply LeO.refl)
   | (with_reducible apply LeO.none)
   | (with_reducible refine LeO.ite ?_ ?_)
   | (with_reducible refine LeO.bind ?_ (fun _ => ?_))
  ·intro y0 y1 y2 y3 y4 y5 y6 y7 y8 y9 y10 y11 y12 y13 y14 y15 y16 y17 y18 y19 y20
   unfold cellarlaw7_LaySizes.j16
   repeat' first
   | (with_reducible apply ih0)
   | (with_reducible apply ih1)
   | (with_reducible apply ih2)
   | (with_reducible apply ih3)
   | (with_reducible apply ih4)
   | (with_reducible apply ih5)
   | (with_reducible apply ih6)
   | (with_reducible apply ih7)
   | (with_reducible apply ih8)
   | (with_reducible apply ih9)
   | (with_reducible apply ih10)
   | (with_reducible apply ih11)
   | (with_reducible apply ih12)
   | (with_reducible apply ih13)
   | (with_reducible apply ih14)
   | (with_reducible apply ih15)
   | (with_reducible apply ih16)
   | (with_reducible apply ih17)
   | (with_reducible apply cellarlaw7_Heavy.mono)
   | (with_reducible apply cellarlaw7_wakes.mono)
   | (with_reducible apply cellarref0_CopyTypes.mono)
   | (with_reducible apply cellarref0_EqTypes.mono)
   | (with_reducible apply cellarref7_Field.mono)
   | (with_reducible apply cellarref7_Types.mono)
   | (with_reducible apply lay_Align.mono)
   | (with_reducible apply lay_Check.mono)
   | (with_reducible apply lay_Field.mono)
   | (with_reducible apply lay_Item.mono)
   | (with_reducible apply lay_Size.mono)
   | (with_reducible apply LeO.refl)
   | (with_reducible apply LeO.none)
   | (with_reducible refine LeO.ite ?_ ?_)
   | (with_reducible refine LeO.bind ?_ (fun _ => ?_))
  ·intro y0 y1 y2 y3 y4 y5 y6 y7 y8 y9 y10 y11 y12 y13 y14 y15 y16 y17 y18 y19 y20
   unfold cellarlaw7_LaySizes.j15
   repeat' first
   | (with_reducible apply ih0)
   | (with_reducible apply ih1)
   | (with_reducible apply ih2)
   | (with_reducible apply ih3)
   | (with_reducible apply ih4)
   | (with_reducible apply ih5)
   | (with_reducible apply ih6)
   | (with_reducible apply ih7)
   | (with_reducible apply ih8)
   | (with_reducible apply ih9)
   | (with_reducible apply ih10)
   | (with_reducible apply ih11)
   | (with_reducible apply ih12)
   | (with_reducible apply ih13)
   | (with_reducible apply ih14)
   | (with_reducible apply ih15)
   | (with_reducible apply ih16)
   | (with_reducible apply ih17)
   | (with_reducible apply cellarlaw7_Heavy.mono)
   | (with_reducible apply cellarlaw7_wakes.mono)
   | (with_reducible apply cellarref0_CopyTypes.mono)
   | (with_reducible apply cellarref0_EqTypes.mono)
   | (with_reducible apply cellarref7_Field.mono)
   | (with_reducible apply cellarref7_Types.mono)
   | (with_reducible apply lay_Align.mono)
   | (with_reducible apply lay_Check.mono)
   | (with_reducible apply lay_Field.mono)
   | (with_reducible apply lay_Item.mono)
   | (with_reducible apply lay_Size.mono)
   | (with_reducible apply LeO.refl)
   | (with_reducible apply LeO.none)
   | (with_reducible refine LeO.ite ?_ ?_)
   | (with_reducible refine LeO.bind ?_ (fun _ => ?_))
theorem cellarlaw7_LaySizes.mono : ∀ a0 a1 a2 a3 k, LeO (cellarlaw7_LaySizes.f k a0 a1 a2 a3) (cellarlaw7_LaySizes.f (k + 1) a0 a1 a2 a3) := by
 intro a0 a1 a2 a3 k
 obtain ⟨ih0, ih1, ih2, ih3, ih4, ih5, ih6, ih7, ih8, ih9, ih10, ih11, ih12, ih13, ih14, ih15, ih16, ih17⟩ := cellarlaw7_LaySizes.mono_l k
 unfold cellarlaw7_LaySizes.f
 repeat' first
   | (with_reducible apply ih0)
   | (with_reducible apply ih1)
   | (with_reducible apply ih2)
   | (with_reducible apply ih3)
   | (with_reducible apply ih4)
   | (with_reducible apply ih5)
   | (with_reducible apply ih6)
   | (with_reducible apply ih7)
   | (with_reducible apply ih8)
   | (with_reducible apply ih9)
   | (with_reducible apply ih10)
   | (with_reducible apply ih11)
   | (with_reducible apply ih12)
   | (with_reducible apply ih13)
   | (with_reducible apply ih14)
   | (with_reducible apply ih15)
   | (with_reducible apply ih16)
   | (with_reducible apply ih17)
   | (with_reducible apply cellarlaw7_Heavy.mono)
   | (with_reducible apply cellarlaw7_wakes.mono)
   | (with_reducible apply cellarref0_CopyTypes.mono)
   | (with_reducible apply cellarref0_EqTypes.mono)
   | (with_reducible apply cellarref7_Field.mono)
   | (with_reducible apply cellarref7_Types.mono)
   | (with_reducible apply lay_Align.mono)
   | (with_reducible apply lay_Check.mono)
   | (with_reducible apply lay_Field.mono)
   | (with_reducible apply lay_Item.mono)
   | (with_reducible apply lay_Size.mono)
   | (with_reducible apply LeO.refl)
   | (with_reducible apply LeO.none)
   | (with_reducible refine LeO.ite ?_ ?_)
   | (with_reducible refine LeO.bind ?_ (fun _ => ?_))
def cellarlaw7_LaySizes.T12 : Bool × List (List Nat × List Nat) := (true, [([], []), ([], []), ([0, 1], [0, 1]), ([2], [2]), ([], []), ([4], [4]), ([], []), ([5, 6], [5, 6]), ([7], [7]), ([3, 8], [3, 8]), ([9], [9]), ([10], [10]), ([10], [10]), ([10], [10]), ([11, 9, 0, 1, 2, 3, 4, 5, 6, 7, 8, 9, 10, 11], [11]), ([12, 14, 0, 1, 2, 3, 4, 5, 6, 7, 8, 9, 10, 11, 12, 14], [12]), ([13, 15, 0, 1, 2, 3, 4, 5, 6, 7, 8, 9, 10, 11, 12, 13, 14, 15], [13])])
def cellarlaw7_LaySizes.B12 : List Nat := [0, 0, 3, 7, 0, 16, 0, 112, 240, 511, 1023, 2047, 2047, 2047, 4095, 24575, 65535]
theorem cellarlaw7_LaySizes.tab12 : rtab .any (opsOf Try.f4 12) = cellarlaw7_LaySizes.T12 := by kernel_rfl
theorem cellarlaw7_LaySizes.bits12 : waitsOk cellarlaw7_LaySizes.T12.2 cellarlaw7_LaySizes.B12 = true := by kernel_rfl
def cellarlaw7_LaySizes.T23 : Bool × List (List Nat × List Nat) := (true, [([], []), ([], []), ([0, 1], [0, 1]), ([2], [2]), ([], []), ([], []), ([4, 5], [4, 5]), ([6], [6]), ([], []), ([3, 8, 0, 1, 2, 3, 8], [3]), ([7, 9, 0, 1, 2, 3, 4, 5, 6, 7, 8, 9], [7])])
def cellarlaw7_LaySizes.B23 : List Nat := [0, 0, 3, 7, 0, 0, 48, 112, 0, 271, 1023]
theorem cellarlaw7_LaySizes.tab23 : rtab .any (opsOf Try.f4 23) = cellarlaw7_LaySizes.T23 := by kernel_rfl
theorem cellarlaw7_LaySizes.bits23 : waitsOk cellarlaw7_LaySizes.T23.2 cellarlaw7_LaySizes.B23 = true := by kernel_rfl
def cellarlaw7_LaySizes.T31 : Bool × List (List Nat × List Nat) := (true, [([], []), ([], []), ([0, 1], [0, 1]), ([2], [2]), ([], []), ([], []), ([], []), ([], []), ([6, 7], [6, 7]), ([8], [8]), ([3, 4, 5, 9], [3, 4, 5, 9]), ([10], [10]), ([11], [11]), ([11], [11]), ([11], [11]), ([12, 10, 0, 1, 2, 3, 4, 5, 6, 7, 8, 9, 10, 11, 12], [12]), ([13, 15, 0, 1, 2, 3, 4, 5, 6, 7, 8, 9, 10, 11, 12, 13, 15], [13]), ([14, 16, 0, 1, 2, 3, 4, 5, 6, 7, 8, 9, 10, 11, 12, 13, 14, 15, 16], [14])])
def cellarlaw7_LaySizes.B31 : List Nat := [0, 0, 3, 7, 0, 0, 0, 0, 192, 448, 1023, 2047, 4095, 4095, 4095, 8191, 49151, 131071]
theorem cellarlaw7_LaySizes.tab31 : rtab .any (opsOf Try.f4 31) = cellarlaw7_LaySizes.T31 := by kernel_rfl
theorem cellarlaw7_LaySizes.bits31 : waitsOk cellarlaw7_LaySizes.T31.2 cellarlaw7_LaySizes.B31 = true := by kernel_rfl
def cellarlaw7_LaySizes.T34 : Bool × List (List Nat × List Nat) := (true, [([], []), ([], []), ([0, 1], [0, 1]), ([2], [2]), ([], []), ([], []), ([], []), ([], []), ([6, 7], [6, 7]), ([8], [8]), ([3, 4, 5, 9], [3, 4, 5, 9]), ([10], [10]), ([11], [11]), ([11], [11]), ([11], [11]), ([12, 10, 0, 1, 2, 3, 4, 5, 6, 7, 8, 9, 10, 11, 12], [12]), ([13, 15, 0, 1, 2, 3, 4, 5, 6, 7, 8, 9, 10, 11, 12, 13, 15], [13]), ([14, 16, 0, 1, 2, 3, 4, 5, 6, 7, 8, 9, 10, 11, 12, 13, 14, 15, 16], [14])])
def cellarlaw7_LaySizes.B34 : List Nat := [0, 0, 3, 7, 0, 0, 0, 0, 192, 448, 1023, 2047, 4095, 4095, 4095, 8191, 49151, 131071]
theorem cellarlaw7_LaySizes.tab34 : rtab .any (opsOf Try.f4 34) = cellarlaw7_LaySizes.T34 := by kernel_rfl
theorem cellarlaw7_LaySizes.bits34 : waitsOk cellarlaw7_LaySizes.T34.2 cellarlaw7_LaySizes.B34 = true := by kernel_rfl
def cellarlaw7_LaySizes.T41 : Bool × List (List Nat × List Nat) := (true, [([], []), ([], []), ([0, 1], [0, 1]), ([2], [2]), ([], []), ([], []), ([], []), ([], []), ([6, 7], [6, 7]), ([8], [8]), ([3, 4, 5, 9], [3, 4, 5, 9]), ([10], [10]), ([11], [11]), ([11], [11]), ([12, 10, 0, 1, 2, 3, 4, 5, 6, 7, 8, 9, 10, 11, 12], [12]), ([13, 14, 0, 1, 2, 3, 4, 5, 6, 7, 8, 9, 10, 11, 12, 13, 14], [13])])
def cellarlaw7_LaySizes.B41 : List Nat := [0, 0, 3, 7, 0, 0, 0, 0, 192, 448, 1023, 2047, 4095, 4095, 8191, 32767]
theorem cellarlaw7_LaySizes.tab41 : rtab .any (opsOf Try.f4 41) = cellarlaw7_LaySizes.T41 := by kernel_rfl
theorem cellarlaw7_LaySizes.bits41 : waitsOk cellarlaw7_LaySizes.T41.2 cellarlaw7_LaySizes.B41 = true := by kernel_rfl
def cellarlaw7_LaySizes.T47 : Bool × List (List Nat × List Nat) := (true, [([], []), ([], []), ([0, 1], [0, 1]), ([2], [2]), ([], []), ([], []), ([4, 5], [4, 5]), ([6], [6]), ([7], [7]), ([8], [8]), ([3, 9], [3, 9])])
def cellarlaw7_LaySizes.B47 : List Nat := [0, 0, 3, 7, 0, 0, 48, 112, 240, 496, 1023]
theorem cellarlaw7_LaySizes.tab47 : rtab .any (opsOf Try.f4 47) = cellarlaw7_LaySizes.T47 := by kernel_rfl
theorem cellarlaw7_LaySizes.bits47 : waitsOk cellarlaw7_LaySizes.T47.2 cellarlaw7_LaySizes.B47 = true := by kernel_rfl
def cellarlaw7_LaySizes.T48 : Bool × List (List Nat × List Nat) := (true, [([], []), ([], []), ([0, 1], [0, 1]), ([2], [2]), ([], []), ([], []), ([], []), ([5, 6], [5, 6]), ([7], [7]), ([8], [8]), ([4, 9], [4, 9]), ([10], [10]), ([3, 11], [3, 11]), ([], []), ([12, 13, 0, 1, 2, 3, 4, 5, 6, 7, 8, 9, 10, 11, 12, 13], [12])])
def cellarlaw7_LaySizes.B48 : List Nat := [0, 0, 3, 7, 0, 0, 0, 96, 224, 480, 1008, 2032, 4095, 0, 16383]
theorem cellarlaw7_LaySizes.tab48 : rtab .any (opsOf Try.f4 48) = cellarlaw7_LaySizes.T48 := by kernel_rfl
theorem cellarlaw7_LaySizes.bits48 : waitsOk cellarlaw7_LaySizes.T48.2 cellarlaw7_LaySizes.B48 = true := by kernel_rfl
abbrev cellarlaw7_LaySizes.b0 : Array Bool := #[false,false,false,false,false,false,false,false,false,false,false,false,false,false,false,false,false]
abbrev cellarlaw7_LaySizes.b10 : Array Bool := #[true,true,true,true,true,true,true,true,true,true,false,false,false,false,false,false,false]
abbrev cellarlaw7_LaySizes.b18 : Array Bool := #[false,false,false,false,false,false,false,false,false,false,false]
abbrev cellarlaw7_LaySizes.b29 : Array Bool := #[true,true,true,true,true,true,true,true,true,true,true]
abbrev cellarlaw7_LaySizes.b30 : Array Bool := #[false,false,false,false,false,false,false,false,false,false,false,false,false,false,false,false,false,false]
abbrev cellarlaw7_LaySizes.b41 : Array Bool := #[true,true,true,true,true,true,true,true,true,true,true,false,false,false,false,false,false,false]
abbrev cellarlaw7_LaySizes.b49 : Array Bool := #[false,false,false,false,false,false,false,false,false,false,false,false,false,false,false,false]
abbrev cellarlaw7_LaySizes.b60 : Array Bool := #[true,true,true,true,true,true,true,true,true,true,true,false,false,false,false,false]
abbrev cellarlaw7_LaySizes.b69 : Array Bool := #[false,false,false,false,false,false,false,false,false,false,false,false,false,false,false]
set_option maxHeartbeats 60000000 in
set_option maxRecDepth 100000 in
theorem cellarlaw7_LaySizes.calls (k : Nat) (A0_0 : Option Addr) (c0_0 : Nat) (l0_0 : List (S29)) (A0_1 : Option Addr) (c0_1 : Nat) (l0_1 : List (List (S31))) (A0_2 : Option Addr) (c0_2 : Nat) (l0_2 : List ByteArray) (A0_3 : Option Addr) (c0_3 : Nat) (l0_3 : List Int) (r : Bool) (w : World) (hr0_0 : Kd.C k29 w A0_0 l0_0.length l0_0) (hc0_0 : l0_0.length ≤ c0_0) (hr0_1 : Kd.C (Kd.slice 31 k31) w A0_1 l0_1.length l0_1) (hc0_1 : l0_1.length ≤ c0_1) (hr0_2 : Kd.C Kd.string w A0_2 l0_2.length l0_2) (hc0_2 : l0_2.length ≤ c0_2) (hr0_3 : Kd.C (Kd.int .i64) w A0_3 l0_3.length l0_3) (hc0_3 : l0_3.length ≤ c0_3) (h : cellarlaw7_LaySizes.f k l0_0 l0_1 l0_2 l0_3 = some r) :
  Calls Try.prog 4 #[.agg #[.slice A0_0 l0_0.length c0_0, .slice A0_1 l0_1.length c0_1, .slice A0_2 l0_2.length c0_2, .slice A0_3 l0_3.length c0_3]] w fun e w' => e = .returned (.bool r) ∧ Below w.heap.size w w' := by
 have hu27 := Try.underlying27
 have hu29 := Try.underlying29
 have HR0_0 := Aside0.mk hr0_0
 have HC0_0 := Aside0.mk hc0_0
 clear hr0_0 hc0_0
 have HR0_1 := Aside0.mk hr0_1
 have HC0_1 := Aside0.mk hc0_1
 clear hr0_1 hc0_1
 have HR0_2 := Aside0.mk hr0_2
 have HC0_2 := Aside0.mk hc0_2
 clear hr0_2 hc0_2
 have HR0_3 := Aside0.mk hr0_3
 have HC0_3 := Aside0.mk hc0_3
 clear hr0_3 hc0_3
 have HB := Aside0.mk (Below.refl w.heap.size w)
 have H : ((cellarlaw7_Heavy.f k l0_0 l0_1 l0_2 l0_3).bind fun t356 => (if t356 = true then (some true) else ((cellarlaw7_machines.f l0_0 l0_1 l0_2 l0_3).bind fun t357 => ((some (([(⟨#[97]⟩ : ByteArray), (⟨#[98]⟩ : ByteArray), (⟨#[122, 122]⟩ : ByteArray), (⟨#[]⟩ : ByteArray)] : List ByteArray) : List ByteArray)).bind fun y360 => (if y360.length + l0_2.length < 8796093022208 then (cellarlaw7_LaySizes.l0 k t357 (y360 ++ l0_2) 0 l0_0 l0_1 l0_2 l0_3) else (none)))))) = some r := h
 clear h
 replace H := Option.bind_eq_some_iff.mp H
 obtain ⟨t356, A20, H⟩ := H
 replace H : (if t356 = true then (some true) else ((cellarlaw7_machines.f l0_0 l0_1 l0_2 l0_3).bind fun t357 => ((some (([(⟨#[97]⟩ : ByteArray), (⟨#[98]⟩ : ByteArray), (⟨#[122, 122]⟩ : ByteArray), (⟨#[]⟩ : ByteArray)] : List ByteArray) : List ByteArray)).bind fun y360 => (if y360.length + l0_2.length < 8796093022208 then (cellarlaw7_LaySizes.l0 k t357 (y360 ++ l0_2) 0 l0_0 l0_1 l0_2 l0_3) else (none))))) = some r := H
 have A2 := Aside0.mk A20
 clear A20
 by_cases c3 : t356 = true
 ·subst c3
  have H1 : (some true) = some r := by rw [if_pos rfl] at H; exact H
  clear H
  have H := H1
  clear H1
  obtain rfl := Option.some.inj H
  go_enter Try.func4, Try.ntmps4
  go_wp2_with (first | ((with_reducible refine gate_dst (N := 1) rfl ?_); (try (refine gate_guard (by rfl) ?_; dsimp only)); refine zbox (N := 1) (cs := #[.slice A0_0 l0_0.length c0_0, .slice A0_1 l0_1.length c0_1, .slice A0_2 l0_2.length c0_2, .slice A0_3 l0_3.length c0_3]) (t := 27) ?_; intro gb355 hg w4 hbox hb; have n0_ := Aside0.mk (below_step (zw0 HB.out) hb); have BK355 := Aside0.mk (hbox); have GW355 := Aside0.mk (zg hg (below_size (zw0 HB.out))); have GE355 := GW355; clear HB; have HB := n0_; clear n0_; clear hb hbox hg; have hcz5_0 := zc BK355.out 0; have hcz5_1 := zc BK355.out 1; have hcz5_2 := zc BK355.out 2; have hcz5_3 := zc BK355.out 3; have hfz5_0 := blk_frozen BK355.out 0; have hfz5_1 := blk_frozen BK355.out 1; have hfz5_2 := blk_frozen BK355.out 2; have hfz5_3 := blk_frozen BK355.out 3) | ((with_reducible refine gate_callee (f := 14) rfl ?_); refine zgo (some 34) Try.func14 #[.agg #[.slice A0_0 l0_0.length c0_0, .slice A0_1 l0_1.length c0_1, .slice A0_2 l0_2.length c0_2, .slice A0_3 l0_3.length c0_3]] ?_; (with_reducible refine (cellarlaw7_Heavy.calls k _ _ l0_0 _ _ l0_1 _ _ l0_2 _ _ l0_3 true _ ?side1 ?side2 ?side3 ?side4 ?side5 ?side6 ?side7 ?side8 A2.out).mono ?_); (case side1 => repeat (first | exact (Kd.C_below HR0_0.out HB.out) | (with_reducible refine Kd.C_alloc ?_ _) | (with_reducible refine Kd.C_drewN ?_ _) | (with_reducible refine Kd.C_drew ?_))); (case side2 => exact HC0_0.out); (case side3 => repeat (first | exact (Kd.C_below HR0_1.out HB.out) | (with_reducible refine Kd.C_alloc ?_ _) | (with_reducible refine Kd.C_drewN ?_ _) | (with_reducible refine Kd.C_drew ?_))); (case side4 => exact HC0_1.out); (case side5 => repeat (first | exact (Kd.C_below HR0_2.out HB.out) | (with_reducible refine Kd.C_alloc ?_ _) | (with_reducible refine Kd.C_drewN ?_ _) | (with_reducible refine Kd.C_drew ?_))); (case side6 => exact HC0_2.out); (case side7 => repeat (first | exact (Kd.C_below HR0_3.out HB.out) | (with_reducible refine Kd.C_alloc ?_ _) | (with_reducible refine Kd.C_drewN ?_ _) | (with_reducible refine Kd.C_drew ?_))); (case side8 => exact HC0_3.out); rintro e w6 ⟨rfl, hb⟩; refine ⟨_, rfl, ?_⟩; have n0_ := Aside0.mk (zbb BK355.out hb); have n1_ := Aside0.mk (below_step (zw1 HB.out GE355.out) hb); clear BK355 HB; have BK355 := n0_; have HB := n1_; clear n0_ n1_; (try clear hb); (try clear hb2); (try clear hk); (try clear hi)))
  go_ret
  exact ⟨ze, zw1 HB.out GE355.out⟩
 ·replace c3 := Bool.eq_false_iff.mpr c3
  subst c3
  have H1 : ((cellarlaw7_machines.f l0_0 l0_1 l0_2 l0_3).bind fun t357 => ((some (([(⟨#[97]⟩ : ByteArray), (⟨#[98]⟩ : ByteArray), (⟨#[122, 122]⟩ : ByteArray), (⟨#[]⟩ : ByteArray)] : List ByteArray) : List ByteArray)).bind fun y360 => (if y360.length + l0_2.length < 8796093022208 then (cellarlaw7_LaySizes.l0 k t357 (y360 ++ l0_2) 0 l0_0 l0_1 l0_2 l0_3) else (none)))) = some r := by rw [if_neg (show ¬ (false = true) by decide)] at H; exact H
  clear H
  have H := H1
  clear H1
  replace H := Option.bind_eq_some_iff.mp H
  obtain ⟨t357, A70, H⟩ := H
  replace H : ((some (([(⟨#[97]⟩ : ByteArray), (⟨#[98]⟩ : ByteArray), (⟨#[122, 122]⟩ : ByteArray), (⟨#[]⟩ : ByteArray)] : List ByteArray) : List ByteArray)).bind fun y360 => (if y360.length + l0_2.length < 8796093022208 then (cellarlaw7_LaySizes.l0 k t357 (y360 ++ l0_2) 0 l0_0 l0_1 l0_2 l0_3) else (none))) = some r := H
  have A7 := Aside0.mk A70
  clear A70
  obtain ⟨y360, hy360⟩ : ∃ y_ : List ByteArray, y_ = (([(⟨#[97]⟩ : ByteArray), (⟨#[98]⟩ : ByteArray), (⟨#[122, 122]⟩ : ByteArray), (⟨#[]⟩ : ByteArray)] : List ByteArray)) := ⟨_, rfl⟩
  replace H : (if y360.length + l0_2.length < 8796093022208 then (cellarlaw7_LaySizes.l0 k t357 (y360 ++ l0_2) 0 l0_0 l0_1 l0_2 l0_3) else (none)) = some r := by first | (rw [hy360]; with_reducible exact H) | (have H2_ := (Option.bind_some _ _).symm.trans H; rw [hy360]; with_reducible exact H2_) | (have H2_ := (Option.bind_some _ _).symm.trans H; with_reducible exact H2_) | with_reducible exact H | (rw [hy360]; exact H) | exact H
  have Ny360 := Aside0.mk hy360
  clear hy360
  by_cases c8 : y360.length + l0_2.length < 8796093022208
  ·rw [if_pos c8] at H
   have LMc8 := Aside0.mk c8
   clear c8
   obtain ⟨y363, hy363⟩ : ∃ y_ : List ByteArray, y_ = (y360 ++ l0_2) := ⟨_, rfl⟩
   replace H : (cellarlaw7_LaySizes.l0 k t357 y363 0 l0_0 l0_1 l0_2 l0_3) = some r := by first | (rw [hy363]; with_reducible exact H) | (have H2_ := (Option.bind_some _ _).symm.trans H; rw [hy363]; with_reducible exact H2_) | (have H2_ := (Option.bind_some _ _).symm.trans H; with_reducible exact H2_) | with_reducible exact H | (rw [hy363]; exact H) | exact H
   have Ny363 := Aside0.mk hy363
   clear hy363
   have H' := Aside0.mk H
   clear H
   go_enter Try.func4, Try.ntmps4
   go_wp2_with (first | ((with_reducible refine gate_dst (N := 1) rfl ?_); (try (refine gate_guard (by rfl) ?_; dsimp only)); refine zbox (N := 1) (cs := #[.slice A0_0 l0_0.length c0_0, .slice A0_1 l0_1.length c0_1, .slice A0_2 l0_2.length c0_2, .slice A0_3 l0_3.length c0_3]) (t := 27) ?_; intro gb355 hg w9 hbox hb; have n0_ := Aside0.mk (below_step (zw0 HB.out) hb); have BK355 := Aside0.mk (hbox); have GW355 := Aside0.mk (zg hg (below_size (zw0 HB.out))); have GE355 := GW355; clear HB; have HB := n0_; clear n0_; clear hb hbox hg; have hcz10_0 := zc BK355.out 0; have hcz10_1 := zc BK355.out 1; have hcz10_2 := zc BK355.out 2; have hcz10_3 := zc BK355.out 3; have hfz10_0 := blk_frozen BK355.out 0; have hfz10_1 := blk_frozen BK355.out 1; have hfz10_2 := blk_frozen BK355.out 2; have hfz10_3 := blk_frozen BK355.out 3) | ((with_reducible refine gate_callee (f := 14) rfl ?_); refine zgo (some 34) Try.func14 #[.agg #[.slice A0_0 l0_0.length c0_0, .slice A0_1 l0_1.length c0_1, .slice A0_2 l0_2.length c0_2, .slice A0_3 l0_3.length c0_3]] ?_; (with_reducible refine (cellarlaw7_Heavy.calls k _ _ l0_0 _ _ l0_1 _ _ l0_2 _ _ l0_3 false _ ?side1 ?side2 ?side3 ?side4 ?side5 ?side6 ?side7 ?side8 A2.out).mono ?_); (case side1 => repeat (first | exact (Kd.C_below HR0_0.out HB.out) | (with_reducible refine Kd.C_alloc ?_ _) | (with_reducible refine Kd.C_drewN ?_ _) | (with_reducible refine Kd.C_drew ?_))); (case side2 => exact HC0_0.out); (case side3 => repeat (first | exact (Kd.C_below HR0_1.out HB.out) | (with_reducible refine Kd.C_alloc ?_ _) | (with_reducible refine Kd.C_drewN ?_ _) | (with_reducible refine Kd.C_drew ?_))); (case side4 => exact HC0_1.out); (case side5 => repeat (first | exact (Kd.C_below HR0_2.out HB.out) | (with_reducible refine Kd.C_alloc ?_ _) | (with_reducible refine Kd.C_drewN ?_ _) | (with_reducible refine Kd.C_drew ?_))); (case side6 => exact HC0_2.out); (case side7 => repeat (first | exact (Kd.C_below HR0_3.out HB.out) | (with_reducible refine Kd.C_alloc ?_ _) | (with_reducible refine Kd.C_drewN ?_ _) | (with_reducible refine Kd.C_drew ?_))); (case side8 => exact HC0_3.out); rintro e w11 ⟨rfl, hb⟩; refine ⟨_, rfl, ?_⟩; have n0_ := Aside0.mk (zbb BK355.out hb); have n1_ := Aside0.mk (below_step (zw1 HB.out GE355.out) hb); clear BK355 HB; have BK355 := n0_; have HB := n1_; clear n0_ n1_; (try clear hb); (try clear hb2); (try clear hk); (try clear hi); have hcz12_0 := zc BK355.out 0; have hcz12_1 := zc BK355.out 1; have hcz12_2 := zc BK355.out 2; have hcz12_3 := zc BK355.out 3; have hfz12_0 := blk_frozen BK355.out 0; have hfz12_1 := blk_frozen BK355.out 1; have hfz12_2 := blk_frozen BK355.out 2; have hfz12_3 := blk_frozen BK355.out 3) | ((with_reducible refine gate_callee (f := 15) rfl ?_); refine zgo (some 36) Try.func15 #[.agg #[.slice A0_0 l0_0.length c0_0, .slice A0_1 l0_1.length c0_1, .slice A0_2 l0_2.length c0_2, .slice A0_3 l0_3.length c0_3]] ?_; (with_reducible refine (cellarlaw7_machines.calls _ _ l0_0 _ _ l0_1 _ _ l0_2 _ _ l0_3 t357 _ ?side1 ?side2 ?side3 ?side4 ?side5 ?side6 ?side7 ?side8 A7.out).mono ?_); (case side1 => repeat (first | exact (Kd.C_below HR0_0.out HB.out) | (with_reducible refine Kd.C_alloc ?_ _) | (with_reducible refine Kd.C_drewN ?_ _) | (with_reducible refine Kd.C_drew ?_))); (case side2 => exact HC0_0.out); (case side3 => repeat (first | exact (Kd.C_below HR0_1.out HB.out) | (with_reducible refine Kd.C_alloc ?_ _) | (with_reducible refine Kd.C_drewN ?_ _) | (with_reducible refine Kd.C_drew ?_))); (case side4 => exact HC0_1.out); (case side5 => repeat (first | exact (Kd.C_below HR0_2.out HB.out) | (with_reducible refine Kd.C_alloc ?_ _) | (with_reducible refine Kd.C_drewN ?_ _) | (with_reducible refine Kd.C_drew ?_))); (case side6 => exact HC0_2.out); (case side7 => repeat (first | exact (Kd.C_below HR0_3.out HB.out) | (with_reducible refine Kd.C_alloc ?_ _) | (with_reducible refine Kd.C_drewN ?_ _) | (with_reducible refine Kd.C_drew ?_))); (case side8 => exact HC0_3.out); rintro e w13 ⟨v358, rfl, ho0, hb⟩; refine ⟨_, rfl, ?_⟩; have HO359 := Aside0.mk (Kd.R_lower ho0 (below_size (zw1 HB.out GE355.out))); have n1_ := Aside0.mk (zbb BK355.out hb); have n2_ := Aside0.mk (below_step (zw1 HB.out GE355.out) hb); clear BK355 HB; have BK355 := n1_; have HB := n2_; clear n1_ n2_; (try clear hb); (try clear hb2); (try clear hk); (try clear hi); (try clear ho0)) | ((with_reducible refine gate_dst (N := 37) rfl ?_); (try (refine gate_guard (by rfl) ?_; dsimp only)); refine Kd.R_lit Kd.string _ 9 ?hg (N := 37) ?hd (xs := ([(⟨#[97]⟩ : ByteArray), (⟨#[98]⟩ : ByteArray), (⟨#[122, 122]⟩ : ByteArray), (⟨#[]⟩ : ByteArray)] : List ByteArray)) (inner := [.string (⟨#[97]⟩ : ByteArray), .string (⟨#[98]⟩ : ByteArray), .string (⟨#[122, 122]⟩ : ByteArray), .string (⟨#[]⟩ : ByteArray)]) (ok := fun _ => True) (okp := fun _ => True) ?hr ?hp (fun _ hk => hk) trivial (Below.refl _ _) (Nat.le_refl _) (by simp) ?_; (case hd => rfl); (case hg => rfl); (case hr => first | (go_simp; done) | (go_simp; rfl)); (case hp => exact (Reps.one (show Kd.M Kd.string _ _ _ (⟨#[97]⟩ : ByteArray) [.string (⟨#[97]⟩ : ByteArray)] from rfl) (Reps.one (show Kd.M Kd.string _ _ _ (⟨#[98]⟩ : ByteArray) [.string (⟨#[98]⟩ : ByteArray)] from rfl) (Reps.one (show Kd.M Kd.string _ _ _ (⟨#[122, 122]⟩ : ByteArray) [.string (⟨#[122, 122]⟩ : ByteArray)] from rfl) (Reps.one (show Kd.M Kd.string _ _ _ (⟨#[]⟩ : ByteArray) [.string (⟨#[]⟩ : ByteArray)] from rfl) (Reps.none _ _)))))); intro v361 w14 ho15 hb hg_ hnew_; clear hg_ hnew_; (first | rw [← Ny360.out] at ho15 | (simp only [Int.reduceToNat] at ho15; rw [← Ny360.out] at ho15)); have n0_ := Aside0.mk (Kd.R_below (by (with_reducible repeat (first | apply Kd.R_alloc | apply Kd.R_drewN | apply Kd.R_drew)); exact HO359.out) hb); have HO362 := Aside0.mk (Kd.R_lower ho15 (below_size (zw1 HB.out GE355.out))); have n2_ := Aside0.mk (zbb BK355.out hb); have n3_ := Aside0.mk (below_step (zw1 HB.out GE355.out) hb); clear HO359 BK355 HB; have HO359 := n0_; have BK355 := n2_; have HB := n3_; clear n0_ n2_ n3_; clear hb ho15; have hcz16_0 := zc BK355.out 0; have hcz16_1 := zc BK355.out 1; have hcz16_2 := zc BK355.out 2; have hcz16_3 := zc BK355.out 3; have hfz16_0 := blk_frozen BK355.out 0; have hfz16_1 := blk_frozen BK355.out 1; have hfz16_2 := blk_frozen BK355.out 2; have hfz16_3 := blk_frozen BK355.out 3) | ((with_reducible refine gate_builtin (b := .append) (xs := #[.tmp 37, .tmp 39]) rfl ?_); (try (refine gate_guard (by rfl) ?_; dsimp only)); at_builtin; refine Kd.R_append_rows Kd.string (w0 := w) w.heap.size rfl (.tmp 37) (.tmp 39) 24 9 (.string ⟨#[]⟩) 16 rfl Try.underlying24 info9 rfl (by decide) (by omega) v361 y360 l0_2 _ _ _ (fun _ => True) (fun _ => False) rfl rfl ?aO ?aR (fun _ _ h => h) (fun _ h => h.elim) ?aF ?aB ?aS ?aL ?_; (case aR => repeat (first | exact (Kd.C_below HR0_2.out HB.out) | (with_reducible refine Kd.C_alloc ?_ _) | (with_reducible refine Kd.C_drewN ?_ _) | (with_reducible refine Kd.C_drew ?_))); (case aB => exact (zw1 HB.out GE355.out)); (case aF => exact (fun _ _ => trivial)); (case aO => exact (by (with_reducible repeat (first | apply Kd.R_alloc | apply Kd.R_drewN | apply Kd.R_drew)); exact HO362.out)); (case aS => exact (below_size (zw1 HB.out GE355.out))); (case aL => have := LMc8.out; omega); intro v364 w17 ho hb hg hat; rw [← Ny363.out] at ho; have n0_ := Aside0.mk (blk_grown (g := gb355) (o := .cells #[.slice A0_0 l0_0.length c0_0, .slice A0_1 l0_1.length c0_1, .slice A0_2 l0_2.length c0_2, .slice A0_3 l0_3.length c0_3] 27 (0, 0)) (zb BK355.out) hg (Kd.R_ne HO362.out BK355.out (by decide))); have n1_ := Aside0.mk (Kd.R_over' (by (with_reducible repeat (first | apply Kd.R_alloc | apply Kd.R_drewN | apply Kd.R_drew)); exact HO359.out) (Kd.R_typed (by (with_reducible repeat (first | apply Kd.R_alloc | apply Kd.R_drewN | apply Kd.R_drew)); exact HO362.out)) (by decide) hg); have n2_ := Aside0.mk (hb); have HO365 := Aside0.mk (ho); clear BK355 HO359 HB HO362; have BK355 := n0_; have HO359 := n1_; have HB := n2_; clear n0_ n1_ n2_; clear ho hb hg hat))
   go_loopg [5] k (fun kq v5 w' => ∃ (x5_1 : Int), v5 = .int .i64 x5_1 ∧ Aside0 (cellarlaw7_LaySizes.l0 kq t357 y363 x5_1 l0_0 l0_1 l0_2 l0_3 = some r) ∧ Aside0 (kq ≤ k) ∧ Aside0 (Kd.R k29 29 w' w.heap.size (fun _ => True) v358 t357) ∧ Aside0 (Kd.R Kd.string 9 w' w.heap.size (fun _ => True) v364 y363) ∧ Aside0 (w'.heap[gb355]? = some (.cells #[(.slice A0_0 l0_0.length c0_0), (.slice A0_1 l0_1.length c0_1), (.slice A0_2 l0_2.length c0_2), (.slice A0_3 l0_3.length c0_3)] 27 (0, 0))) ∧ Aside0 (Below w.heap.size w w'))
   case atStart => exact ⟨(0), (zr), H', ⟨Nat.le_refl _⟩, ⟨by (with_reducible repeat (first | apply Kd.R_alloc | apply Kd.R_drewN | apply Kd.R_drew)); exact HO359.out⟩, ⟨by (with_reducible repeat (first | apply Kd.R_alloc | apply Kd.R_drewN | apply Kd.R_drew)); exact HO365.out⟩, ⟨zb BK355.out⟩, ⟨zw1 HB.out GE355.out⟩⟩
   case round => as_aux_lemma =>
    clear H'
    try clear c1; try clear p2; try clear c3; try clear c4; try clear c8; try clear c14; try clear c15
    obtain ⟨x5_1, rfl, HA, HK1, HO_3, HO_4, BK355, HB⟩ := hrel
    cases gk with
    | zero => exact absurd HA.out (by simp [cellarlaw7_LaySizes.l0])
    | succ k1 =>
     have H := HA.out
     clear HA
     simp only [cellarlaw7_LaySizes.l0] at H
     by_cases c18 : x5_1 < (t357.length : Int)
     rotate_left
     ·rw [if_neg c18] at H
      have c18b0 : decide (x5_1 < (t357.length : Int)) = false := decide_eq_false c18
      clear c18
      replace H := Option.bind_eq_some_iff.mp H
      obtain ⟨t424, A1410, H⟩ := H
      replace H : (some t424) = some r := H
      have A141 := Aside0.mk A1410
      clear A1410
      obtain rfl := Option.some.inj H
      obtain ⟨Ao142, co142, eo142⟩ := Kd.R_slice HO_3.out
      subst eo142
      go_wp2_with (first | ((with_reducible refine gate_callee (f := 13) rfl ?_); refine zgo (some 289) Try.func13 #[] ?_; (with_reducible refine (cellarlaw7_wakes.calls k1  t424 _ A141.out).mono ?_); rintro e w143 ⟨rfl, hb⟩; refine ⟨_, rfl, ?_⟩; have n0_ := Aside0.mk (Kd.R_below (by (with_reducible repeat (first | apply Kd.R_alloc | apply Kd.R_drewN | apply Kd.R_drew)); exact HO_3.out) hb); have n1_ := Aside0.mk (Kd.R_below (by (with_reducible repeat (first | apply Kd.R_alloc | apply Kd.R_drewN | apply Kd.R_drew)); exact HO_4.out) hb); have n2_ := Aside0.mk (zbb BK355.out hb); have n3_ := Aside0.mk (below_step (zw1 HB.out GE355.out) hb); clear HO_3 HO_4 BK355 HB; have HO_3 := n0_; have HO_4 := n1_; have BK355 := n2_; have HB := n3_; clear n0_ n1_ n2_ n3_; (try clear hb); (try clear hb2); (try clear hk); (try clear hi)))
      go_ret
      exact ⟨ze, zw1 HB.out GE355.out⟩
     rw [if_pos c18] at H
     have c18b0 : decide (x5_1 < (t357.length : Int)) = true := decide_eq_true c18
     clear c18
     have H' := Aside0.mk H
     clear H
     obtain ⟨Ao19, co19, eo19⟩ := Kd.R_slice HO_3.out
     subst eo19
     go_wp2
     go_loopg [6] k1 (fun kq v6 w' => ∃ (x6_2 : Int), v6 = .int .i64 x6_2 ∧ Aside0 (cellarlaw7_LaySizes.l1 kq t357 y363 x5_1 x6_2 l0_0 l0_1 l0_2 l0_3 = some r) ∧ Aside0 (kq ≤ k1) ∧ Aside0 (Kd.R k29 29 w' w.heap.size (fun _ => True) (.slice Ao19 t357.length co19) t357) ∧ Aside0 (Kd.R Kd.string 9 w' w.heap.size (fun _ => True) v364 y363) ∧ Aside0 (w'.heap[gb355]? = some (.cells #[(.slice A0_0 l0_0.length c0_0), (.slice A0_1 l0_1.length c0_1), (.slice A0_2 l0_2.length c0_2), (.slice A0_3 l0_3.length c0_3)] 27 (0, 0))) ∧ Aside0 (Below w.heap.size w w'))
     case atStart => exact ⟨(0), (zr), H', ⟨Nat.le_refl _⟩, ⟨by (with_reducible repeat (first | apply Kd.R_alloc | apply Kd.R_drewN | apply Kd.R_drew)); exact HO_3.out⟩, ⟨by (with_reducible repeat (first | apply Kd.R_alloc | apply Kd.R_drewN | apply Kd.R_drew)); exact HO_4.out⟩, ⟨zb BK355.out⟩, ⟨zw1 HB.out GE355.out⟩⟩
     case round => as_aux_lemma =>
      clear H'
      try clear c1; try clear p2; try clear c3; try clear c4; try clear c8; try clear c14; try clear c15; try clear c18; try clear c18b0; try clear p2
      obtain ⟨x6_2, rfl, HA, HK2, HO_3, HO_4, BK355, HB⟩ := hrel
      cases gk with
      | zero => exact absurd HA.out (by simp [cellarlaw7_LaySizes.l1])
      | succ k2 =>
       have H := HA.out
       clear HA
       simp only [cellarlaw7_LaySizes.l1] at H
       have HC20 := Aside0.mk H
       clear H
       go_upto_region 9 with (fail)
       go_cut [55] (fun v55 wc => ∃ (kq : Nat) (x55_19 : Bool), v55 = .bool x55_19 ∧ Aside0 (cellarlaw7_LaySizes.j2 kq t357 y363 x5_1 x6_2 x55_19 l0_0 l0_1 l0_2 l0_3 = some r) ∧ Aside0 (kq ≤ k2) ∧ Aside0 (Kd.R k29 29 wc w.heap.size (fun _ => True) (.slice Ao19 t357.length co19) t357) ∧ Aside0 (Kd.R Kd.string 9 wc w.heap.size (fun _ => True) v364 y363) ∧ Aside0 (wc.heap[gb355]? = some (.cells #[(.slice A0_0 l0_0.length c0_0), (.slice A0_1 l0_1.length c0_1), (.slice A0_2 l0_2.length c0_2), (.slice A0_3 l0_3.length c0_3)] 27 (0, 0))) ∧ Aside0 (Below w.heap.size w wc))
       case first => as_aux_lemma =>
        have H := HC20.out
        clear HC20
        by_cases c21 : x6_2 < (l0_1.length : Int)
        rotate_left
        ·rw [if_neg c21] at H
         have c21b0 : decide (x6_2 < (l0_1.length : Int)) = false := decide_eq_false c21
         clear c21
         (first | rw [c21b0] | (simp only [i64_w, i32_w]; rw [c21b0]) | skip)
         have H' := Aside0.mk H
         clear H
         have hcz23_0 := zc BK355.out 0
         have hcz23_1 := zc BK355.out 1
         have hcz23_2 := zc BK355.out 2
         have hcz23_3 := zc BK355.out 3
         have hfz23_0 := blk_frozen BK355.out 0
         have hfz23_1 := blk_frozen BK355.out 1
         have hfz23_2 := blk_frozen BK355.out 2
         have hfz23_3 := blk_frozen BK355.out 3
         go_wp2
         go_meet
         case rel => exact ⟨_, (false), (zr), H', ⟨by have := HK1.out; have := HK2.out; first | omega | exact Nat.le_refl _⟩, ⟨by (with_reducible repeat (first | apply Kd.R_alloc | apply Kd.R_drewN | apply Kd.R_drew)); exact HO_3.out⟩, ⟨by (with_reducible repeat (first | apply Kd.R_alloc | apply Kd.R_drewN | apply Kd.R_drew)); exact HO_4.out⟩, ⟨zb BK355.out⟩, ⟨zw1 HB.out GE355.out⟩⟩
        rw [if_pos c21] at H
        have c21b0 : decide (x6_2 < (l0_1.length : Int)) = true := decide_eq_true c21
        clear c21
        (first | rw [c21b0] | (simp only [i64_w, i32_w]; rw [c21b0]) | skip)
        have H' := Aside0.mk H
        clear H
        have hcz22_0 := zc BK355.out 0
        have hcz22_1 := zc BK355.out 1
        have hcz22_2 := zc BK355.out 2
        have hcz22_3 := zc BK355.out 3
        have hfz22_0 := blk_frozen BK355.out 0
        have hfz22_1 := blk_frozen BK355.out 1
        have hfz22_2 := blk_frozen BK355.out 2
        have hfz22_3 := blk_frozen BK355.out 3
        go_wp2
        go_meet
        case rel => exact ⟨_, (decide (x6_2 < 6)), (zr), H', ⟨by have := HK1.out; have := HK2.out; first | omega | exact Nat.le_refl _⟩, ⟨by (with_reducible repeat (first | apply Kd.R_alloc | apply Kd.R_drewN | apply Kd.R_drew)); exact HO_3.out⟩, ⟨by (with_reducible repeat (first | apply Kd.R_alloc | apply Kd.R_drewN | apply Kd.R_drew)); exact HO_4.out⟩, ⟨zb BK355.out⟩, ⟨zw1 HB.out GE355.out⟩⟩
       case rest => as_aux_lemma =>
        clear HC20
        try clear c1; try clear c2; try clear p2; try clear c3; try clear c4; try clear c8; try clear c14; try clear c15; try clear c18; try clear c18b0; try clear c21; try clear c21b0; try clear p2
        obtain ⟨kq, x55_19, rfl, HA, HJ19, HO_3, HO_4, BK355, HB⟩ := hcut
        cases kq with
        | zero => exact absurd HA.out (by simp [cellarlaw7_LaySizes.j2])
        | succ kj19 =>
         have H := HA.out
         clear HA
         simp only [cellarlaw7_LaySizes.j2] at H
         by_cases c24 : x55_19 = true
         rotate_left
         ·replace c24 := Bool.eq_false_iff.mpr c24
          subst c24
          have H1 : (cellarlaw7_LaySizes.l0 kj19 t357 y363 (wrap64 (x5_1 + 1)) l0_0 l0_1 l0_2 l0_3) = some r := by rw [if_neg (show ¬ (false = true) by decide)] at H; exact H
          clear H
          have H := H1
          clear H1
          have H' := Aside0.mk H
          clear H
          go_wp2
          go_roundg kj19
          case measure => have := HK1.out; have := HK2.out; have := HJ19.out; omega
          case rel => exact ⟨(wrap64 (x5_1 + 1)), (zr), H', ⟨by have := HK1.out; have := HK2.out; have := HJ19.out; omega⟩, ⟨by (with_reducible repeat (first | apply Kd.R_alloc | apply Kd.R_drewN | apply Kd.R_drew)); exact HO_3.out⟩, ⟨by (with_reducible repeat (first | apply Kd.R_alloc | apply Kd.R_drewN | apply Kd.R_drew)); exact HO_4.out⟩, ⟨zb BK355.out⟩, ⟨zw1 HB.out GE355.out⟩⟩
         subst c24
         have H1 : (if 0 ≤ x6_2 then (if x6_2 < (l0_1.length : Int) then ((cellarref0_CopyTypes.f kj19 (rd_L6 l0_1 x6_2)).bind fun t367 => (if 0 ≤ x5_1 then (if x5_1 < (t357.length : Int) then ((cellarref7_Types.f kj19 ((rd_T29 t357 x5_1).f0) ((rd_T29 t357 x5_1).f1) (rd_L6 l0_1 x6_2)).bind fun bt372 => ((lay_Check.f kj19 ((rd_T29 t357 x5_1).f0) ((rd_T29 t357 x5_1).f1) t367).bind fun t380 => ((cellarlaw7_num.f t380).bind fun t381 => (if ((t381 == 0) != bt372.2.2) = true then (some false) else (cellarlaw7_LaySizes.l2 kj19 t357 y363 x5_1 x6_2 t367 bt372.1 bt372.2.1 bt372.2.2 (-1) l0_0 l0_1 l0_2 l0_3))))) else (none)) else (none))) else (none)) else (none)) = some r := by rw [if_pos rfl] at H; exact H
         clear H
         have H := H1
         clear H1
         by_cases c25 : 0 ≤ x6_2
         rotate_left
         ·rw [if_neg c25] at H
          exact absurd H (by simp)
         rw [if_pos c25] at H
         have c25b0 : decide (0 ≤ x6_2) = true := decide_eq_true c25
         clear c25
         by_cases c26 : x6_2 < (l0_1.length : Int)
         rotate_left
         ·rw [if_neg c26] at H
          exact absurd H (by simp)
         rw [if_pos c26] at H
         have c26b0 : decide (x6_2 < (l0_1.length : Int)) = true := decide_eq_true c26
         clear c26
         replace H := Option.bind_eq_some_iff.mp H
         obtain ⟨t367, A270, H⟩ := H
         replace H : (if 0 ≤ x5_1 then (if x5_1 < (t357.length : Int) then ((cellarref7_Types.f kj19 ((rd_T29 t357 x5_1).f0) ((rd_T29 t357 x5_1).f1) (rd_L6 l0_1 x6_2)).bind fun bt372 => ((lay_Check.f kj19 ((rd_T29 t357 x5_1).f0) ((rd_T29 t357 x5_1).f1) t367).bind fun t380 => ((cellarlaw7_num.f t380).bind fun t381 => (if ((t381 == 0) != bt372.2.2) = true then (some false) else (cellarlaw7_LaySizes.l2 kj19 t357 y363 x5_1 x6_2 t367 bt372.1 bt372.2.1 bt372.2.2 (-1) l0_0 l0_1 l0_2 l0_3))))) else (none)) else (none)) = some r := H
         have A27 := Aside0.mk A270
         clear A270
         by_cases c28 : 0 ≤ x5_1
         rotate_left
         ·rw [if_neg c28] at H
          exact absurd H (by simp)
         rw [if_pos c28] at H
         have c28b0 : decide (0 ≤ x5_1) = true := decide_eq_true c28
         clear c28
         by_cases c29 : x5_1 < (t357.length : Int)
         rotate_left
         ·rw [if_neg c29] at H
          exact absurd H (by simp)
         rw [if_pos c29] at H
         have c29b0 : decide (x5_1 < (t357.length : Int)) = true := decide_eq_true c29
         clear c29
         replace H := Option.bind_eq_some_iff.mp H
         obtain ⟨⟨t372, t375, t378⟩, A300, H⟩ := H
         replace H : ((lay_Check.f kj19 ((rd_T29 t357 x5_1).f0) ((rd_T29 t357 x5_1).f1) t367).bind fun t380 => ((cellarlaw7_num.f t380).bind fun t381 => (if ((t381 == 0) != t378) = true then (some false) else (cellarlaw7_LaySizes.l2 kj19 t357 y363 x5_1 x6_2 t367 t372 t375 t378 (-1) l0_0 l0_1 l0_2 l0_3)))) = some r := H
         have A30 := Aside0.mk A300
         clear A300
         replace H := Option.bind_eq_some_iff.mp H
         obtain ⟨t380, A310, H⟩ := H
         replace H : ((cellarlaw7_num.f t380).bind fun t381 => (if ((t381 == 0) != t378) = true then (some false) else (cellarlaw7_LaySizes.l2 kj19 t357 y363 x5_1 x6_2 t367 t372 t375 t378 (-1) l0_0 l0_1 l0_2 l0_3))) = some r := H
         have A31 := Aside0.mk A310
         clear A310
         replace H := Option.bind_eq_some_iff.mp H
         obtain ⟨t381, A320, H⟩ := H
         replace H : (if ((t381 == 0) != t378) = true then (some false) else (cellarlaw7_LaySizes.l2 kj19 t357 y363 x5_1 x6_2 t367 t372 t375 t378 (-1) l0_0 l0_1 l0_2 l0_3)) = some r := H
         have A32 := Aside0.mk A320
         clear A320
         by_cases c33 : ((t381 == 0) != t378) = true
         ·rw [if_pos c33] at H
          have c33b0 : ((t381 == 0) != t378) = true := c33
          (try (have c33b1 : decide ((t381 == 0) = t378) = false := by simpa using c33))
          (try (have c33b2 : ((t381 == 0) == t378) = false := by simpa using c33))
          (try (have c33b3 : ¬ ((t381 == 0) = t378) := by simpa using c33))
          clear c33
          obtain rfl := Option.some.inj H
          have hcz34_0 := zc BK355.out 0
          have hcz34_1 := zc BK355.out 1
          have hcz34_2 := zc BK355.out 2
          have hcz34_3 := zc BK355.out 3
          have hfz34_0 := blk_frozen BK355.out 0
          have hfz34_1 := blk_frozen BK355.out 1
          have hfz34_2 := blk_frozen BK355.out 2
          have hfz34_3 := blk_frozen BK355.out 3
          have p366 : 0 ≤ (x6_2 : Int) := zdec
          have q366 : x6_2 < (l0_1.length : Int) := zdec
          obtain ⟨ad366, A366_0, c366_0, e366, hx366_0, hl366_0, hi366_0⟩ := at_L6 HR0_1.out x6_2 p366 q366
          cases e366
          replace hx366_0 := zh HB.out hx366_0
          have HR366_0 := Aside0.mk hi366_0
          have HC366_0 := Aside0.mk hl366_0
          clear hi366_0 hl366_0
          replace p366 := eq_true p366
          replace q366 := eq_true q366
          try go_wp2_with (first | ((with_reducible refine gate_callee (f := 16) rfl ?_); refine zgo (some 63) Try.func16 #[.slice A366_0 (rd_L6 l0_1 x6_2).length c366_0] ?_; (with_reducible refine (cellarref0_CopyTypes.calls kj19 _ _ (rd_L6 l0_1 x6_2) t367 _ ?side1 ?side2 A27.out).mono ?_); (case side1 => repeat (first | exact (Kd.C_below HR366_0.out HB.out) | (with_reducible refine Kd.C_alloc ?_ _) | (with_reducible refine Kd.C_drewN ?_ _) | (with_reducible refine Kd.C_drew ?_))); (case side2 => exact HC366_0.out); rintro e w35 ⟨v368, rfl, ho0, hb⟩; refine ⟨_, rfl, ?_⟩; have n0_ := Aside0.mk (Kd.R_below (by (with_reducible repeat (first | apply Kd.R_alloc | apply Kd.R_drewN | apply Kd.R_drew)); exact HO_3.out) hb); have n1_ := Aside0.mk (Kd.R_below (by (with_reducible repeat (first | apply Kd.R_alloc | apply Kd.R_drewN | apply Kd.R_drew)); exact HO_4.out) hb); have HO369 := Aside0.mk (Kd.S_lower (Kd.S_new' ho0 (Kd.R_lt (by (with_reducible repeat (first | apply Kd.R_alloc | apply Kd.R_drewN | apply Kd.R_drew)); exact HO_4.out))) (below_size (zw1 HB.out GE355.out))); have n3_ := Aside0.mk (zbb BK355.out hb); have n4_ := Aside0.mk (below_step (zw1 HB.out GE355.out) hb); clear HO_3 HO_4 BK355 HB; have HO_3 := n0_; have HO_4 := n1_; have BK355 := n3_; have HB := n4_; clear n0_ n1_ n3_ n4_; (try clear hb); (try clear hb2); (try clear hk); (try clear hi); (try clear ho0)))
          have n0_ := Aside0.mk (Kd.R_drew HO_3.out)
          have n1_ := Aside0.mk (Kd.R_drew HO_4.out)
          have n2_ := Aside0.mk (Kd.S_drew HO369.out)
          have n3_ := Aside0.mk (blk_drew BK355.out)
          have n4_ := Aside0.mk (below_drew1 HB.out)
          clear HO_3
          clear HO_4
          clear HO369
          clear BK355
          clear HB
          have HO_3 := n0_
          have HO_4 := n1_
          have HO369 := n2_
          have BK355 := n3_
          have HB := n4_
          clear n0_ n1_ n2_ n3_ n4_
          have p370 : 0 ≤ (x5_1 : Int) := zdec
          have q370 : x5_1 < (t357.length : Int) := zdec
          obtain ⟨ad370, e370, hx370_0, hx370_1⟩ := at_T29 (Kd.R_reads' HO_3.out).2.2 x5_1 p370 q370
          cases e370
          replace p370 := eq_true p370
          replace q370 := eq_true q370
          have p371 : 0 ≤ (x6_2 : Int) := zdec
          have q371 : x6_2 < (l0_1.length : Int) := zdec
          obtain ⟨ad371, A371_0, c371_0, e371, hx371_0, hl371_0, hi371_0⟩ := at_L6 HR0_1.out x6_2 p371 q371
          have hw371_0 := hx371_0
          obtain rfl : ad366 = ad371 := (by injection e371)
          replace hx371_0 := zh HB.out hx371_0
          have HR371_0 := Aside0.mk hi371_0
          have HC371_0 := Aside0.mk hl371_0
          clear hi371_0 hl371_0
          replace p371 := eq_true p371
          replace q371 := eq_true q371
          refine start_ (n := 17) (S := fun w' => w'.cell? ⟨gb355, 0, none⟩ = some (.slice A0_0 l0_0.length c0_0) ∧ w'.cell? ⟨gb355, 1, none⟩ = some (.slice (some ad366) l0_1.length c0_1) ∧ w'.cell? ⟨gb355, 2, none⟩ = some (.slice A0_2 l0_2.length c0_2) ∧ w'.cell? ⟨gb355, 3, none⟩ = some (.slice A0_3 l0_3.length c0_3) ∧ w'.cell? (ad370.add ((x5_1).toNat * 2)) = some (.bool ((rd_T29 t357 x5_1).f0)) ∧ w'.cell? ⟨(ad370.add ((x5_1).toNat * 2)).block, (ad370.add ((x5_1).toNat * 2)).off + 1, none⟩ = some (.int .i64 ((rd_T29 t357 x5_1).f1)) ∧ w'.cell? (ad366.add (x6_2).toNat) = some (.slice A371_0 (rd_L6 l0_1 x6_2).length c371_0)) (ds := []) cellarlaw7_LaySizes.b0 (by kernel_rfl) rfl rfl ⟨(blk_cell BK355.out 0).trans rfl, (blk_cell BK355.out 1).trans rfl, (blk_cell BK355.out 2).trans rfl, (blk_cell BK355.out 3).trans rfl, hx370_0, hx370_1, ((HB.out.cell (World.block_lt_of_cell? w _ hw371_0)).trans hw371_0)⟩ (fun hHeld => ?_); refine with_tabW cellarlaw7_LaySizes.tab12 cellarlaw7_LaySizes.bits12 (fun HT_ HW_ => ?_)
          generalize w35.drew = w36 at HO_3 HO_4 HO369 BK355 HB HR371_0 hx370_0 hx370_1 hx371_0 hHeld ⊢
          refine zq 0 (some 65) HT_ ?_; refine zq 1 (some 66) HT_ ?_; refine zq 2 (some 67) HT_ ?_; refine zq 4 (some 69) HT_ ?_; refine zq 6 (some 71) HT_ ?_; refine zt 3 (some 68) HT_ HW_ hHeld ?_; refine zt 5 (some 70) HT_ HW_ hHeld ?_; refine zq 7 (some 72) HT_ ?_; refine zt 8 (some 73) HT_ HW_ hHeld ?_
          refine one_ (i := 9) (N := some 74) cellarlaw7_LaySizes.b10 rfl rfl (one_of HT_.out (by kernel_rfl)) (by decide) (fun K hK => ?_)
          refine goes_ Try.func17 (by kernel_rfl) rfl #[.agg #[.bool ((rd_T29 t357 x5_1).f0), .int .i64 ((rd_T29 t357 x5_1).f1)], .slice A371_0 (rd_L6 l0_1 x6_2).length c371_0] (by rfl) rfl rfl (by (try simp only [List.map_toArray, List.map_cons, List.map_nil]); first | done | rfl | (simp only [List.length_drop, List.length_take]; rfl)) ?_
          with_reducible refine (cellarref7_Types.calls kj19 ((rd_T29 t357 x5_1).f0) ((rd_T29 t357 x5_1).f1) _ _ (rd_L6 l0_1 x6_2) t372 t375 t378 _ ?side1 ?side2 A30.out).mono ?_
          (case side1 => repeat (first | exact (Kd.C_below HR371_0.out HB.out) | (with_reducible refine Kd.C_alloc ?_ _) | (with_reducible refine Kd.C_drewN ?_ _) | (with_reducible refine Kd.C_drew ?_)))
          (case side2 => exact HC371_0.out)
          rintro e w37 ⟨v373, v376, rfl, ho0, ho1, hb⟩
          have HS4_ := (hb.cell (World.block_lt_of_cell? _ _ (hHeld.2.2.2.2.1))).trans (hHeld.2.2.2.2.1)
          have HS5_ := (hb.cell (World.block_lt_of_cell? _ _ (hHeld.2.2.2.2.2.1))).trans (hHeld.2.2.2.2.2.1)
          refine ⟨_, rfl, ?_⟩
          have n0_ := Aside0.mk (Kd.R_below (by (with_reducible repeat (first | apply Kd.R_alloc | apply Kd.R_drewN | apply Kd.R_drew)); exact HO_3.out) hb)
          have n1_ := Aside0.mk (Kd.R_below (by (with_reducible repeat (first | apply Kd.R_alloc | apply Kd.R_drewN | apply Kd.R_drew)); exact HO_4.out) hb)
          have n2_ := Aside0.mk (Kd.S_mono (Kd.S_told (Kd.S_told (Kd.S_old (by (with_reducible repeat (first | apply Kd.S_alloc | apply Kd.S_drewN | apply Kd.S_drew)); exact HO369.out) hb) (Kd.R_base ho0)) (Kd.R_base ho1)) (fun _ h_ => h_.1))
          have n3_ := Aside0.mk (Kd.R_lower ho0 (below_size (zw1 HB.out GE355.out)))
          have n4_ := Aside0.mk (Kd.R_lower ho1 (below_size (zw1 HB.out GE355.out)))
          have n5_ := Aside0.mk (zbb BK355.out hb)
          have n6_ := Aside0.mk (below_step (zw1 HB.out GE355.out) hb)
          clear HO_3
          clear HO_4
          clear HO369
          clear BK355
          clear HB
          have HO_3 := n0_
          have HO_4 := n1_
          have HO369 := n2_
          have HO374 := n3_
          have HO377 := n4_
          have BK355 := n5_
          have HB := n6_
          clear n0_ n1_ n2_ n3_ n4_ n5_ n6_
          (try clear hb)
          (try clear hb2)
          (try clear hk)
          (try clear hi)
          (try clear ho0)
          (try clear ho1)
          refine hK.out _ _ ⟨(blk_cell BK355.out 0).trans rfl, (blk_cell BK355.out 1).trans rfl, (blk_cell BK355.out 2).trans rfl, (blk_cell BK355.out 3).trans rfl, HS4_, HS5_, ((HB.out.cell (World.block_lt_of_cell? w _ hw371_0)).trans hw371_0)⟩ (fun hHeld => ?_)
          clear hK K
          refine norm_ (a' := ?_) ?_ ?_
          rotate_left
          ·show Act.put _ (some 74) _ = _
           simp only [Act.put, List.setIfInBounds_toArray, List.set_cons_zero, List.set_cons_succ, i64_w, i32_w]
           rfl
          refine zq 10 (some 64) HT_ ?_; refine zq 11 (some 75) HT_ ?_; refine zq 12 (some 76) HT_ ?_; refine zq 13 (some 77) HT_ ?_; refine zq 14 (some 8) HT_ ?_; refine zq 15 (some 9) HT_ ?_; refine zq 16 (some 10) HT_ ?_
          refine done_ (done_of HT_.out (by kernel_rfl)) ?_
          have p379 : 0 ≤ (x5_1 : Int) := zdec
          have q379 : x5_1 < (t357.length : Int) := zdec
          obtain ⟨ad379, e379, hx379_0, hx379_1⟩ := at_T29 (Kd.R_reads' HO_3.out).2.2 x5_1 p379 q379
          obtain rfl : ad370 = ad379 := (by injection e379)
          replace p379 := eq_true p379
          replace q379 := eq_true q379
          obtain ⟨Ao38, co38, eo38⟩ := Kd.S_slice HO369.out
          subst eo38
          try go_wp2_with (first | ((with_reducible refine gate_callee (f := 12) rfl ?_); refine zgo (some 83) Try.func12 #[.agg #[.bool ((rd_T29 t357 x5_1).f0), .int .i64 ((rd_T29 t357 x5_1).f1)], .slice Ao38 t367.length co38] ?_; (with_reducible refine (lay_Check.calls kj19 ((rd_T29 t357 x5_1).f0) ((rd_T29 t357 x5_1).f1) _ _ t367 t380 _ ?side1 ?side2 A31.out).mono ?_); (case side1 => repeat (first | exact (Kd.S_reads' HO369.out).2.2 | (with_reducible refine Kd.C_alloc ?_ _) | (with_reducible refine Kd.C_drewN ?_ _) | (with_reducible refine Kd.C_drew ?_))); (case side2 => exact (Kd.S_reads' HO369.out).2.1); rintro e w39 ⟨rfl, hb⟩; refine ⟨_, rfl, ?_⟩; have n0_ := Aside0.mk (Kd.R_below (by (with_reducible repeat (first | apply Kd.R_alloc | apply Kd.R_drewN | apply Kd.R_drew)); exact HO_3.out) hb); have n1_ := Aside0.mk (Kd.R_below (by (with_reducible repeat (first | apply Kd.R_alloc | apply Kd.R_drewN | apply Kd.R_drew)); exact HO_4.out) hb); have n2_ := Aside0.mk (Kd.S_below (by (with_reducible repeat (first | apply Kd.S_alloc | apply Kd.S_drewN | apply Kd.S_drew)); exact HO369.out) hb); have n3_ := Aside0.mk (Kd.R_below (by (with_reducible repeat (first | apply Kd.R_alloc | apply Kd.R_drewN | apply Kd.R_drew)); exact HO374.out) hb); have n4_ := Aside0.mk (Kd.R_below (by (with_reducible repeat (first | apply Kd.R_alloc | apply Kd.R_drewN | apply Kd.R_drew)); exact HO377.out) hb); have n5_ := Aside0.mk (zbb BK355.out hb); have n6_ := Aside0.mk (below_step (zw1 HB.out GE355.out) hb); clear HO_3 HO_4 HO369 HO374 HO377 BK355 HB; have HO_3 := n0_; have HO_4 := n1_; have HO369 := n2_; have HO374 := n3_; have HO377 := n4_; have BK355 := n5_; have HB := n6_; clear n0_ n1_ n2_ n3_ n4_ n5_ n6_; (try clear hb); (try clear hb2); (try clear hk); (try clear hi)) | ((with_reducible refine gate_callee (f := 11) rfl ?_); refine zgo (some 84) Try.func11 #[.int .i64 t380] ?_; (with_reducible refine (cellarlaw7_num.calls t380 t381 _ A32.out).mono ?_); rintro e w' ⟨rfl, ⟨nd, rfl⟩⟩; refine ⟨_, rfl, ?_⟩))
          go_ret
          exact ⟨ze, zw1 HB.out GE355.out⟩
         rw [if_neg c33] at H
         have c33b0 : ((t381 == 0) != t378) = false := by simpa using c33
         (try (have c33b1 : decide ((t381 == 0) = t378) = true := by simpa using c33))
         (try (have c33b2 : ((t381 == 0) == t378) = true := by simpa using c33))
         clear c33
         have H' := Aside0.mk H
         clear H
         have hcz40_0 := zc BK355.out 0
         have hcz40_1 := zc BK355.out 1
         have hcz40_2 := zc BK355.out 2
         have hcz40_3 := zc BK355.out 3
         have hfz40_0 := blk_frozen BK355.out 0
         have hfz40_1 := blk_frozen BK355.out 1
         have hfz40_2 := blk_frozen BK355.out 2
         have hfz40_3 := blk_frozen BK355.out 3
         have p366 : 0 ≤ (x6_2 : Int) := zdec
         have q366 : x6_2 < (l0_1.length : Int) := zdec
         obtain ⟨ad366, A366_0, c366_0, e366, hx366_0, hl366_0, hi366_0⟩ := at_L6 HR0_1.out x6_2 p366 q366
         cases e366
         replace hx366_0 := zh HB.out hx366_0
         have HR366_0 := Aside0.mk hi366_0
         have HC366_0 := Aside0.mk hl366_0
         clear hi366_0 hl366_0
         replace p366 := eq_true p366
         replace q366 := eq_true q366
         try go_wp2_with (first | ((with_reducible refine gate_callee (f := 16) rfl ?_); refine zgo (some 63) Try.func16 #[.slice A366_0 (rd_L6 l0_1 x6_2).length c366_0] ?_; (with_reducible refine (cellarref0_CopyTypes.calls kj19 _ _ (rd_L6 l0_1 x6_2) t367 _ ?side1 ?side2 A27.out).mono ?_); (case side1 => repeat (first | exact (Kd.C_below HR366_0.out HB.out) | (with_reducible refine Kd.C_alloc ?_ _) | (with_reducible refine Kd.C_drewN ?_ _) | (with_reducible refine Kd.C_drew ?_))); (case side2 => exact HC366_0.out); rintro e w41 ⟨v368, rfl, ho0, hb⟩; refine ⟨_, rfl, ?_⟩; have n0_ := Aside0.mk (Kd.R_below (by (with_reducible repeat (first | apply Kd.R_alloc | apply Kd.R_drewN | apply Kd.R_drew)); exact HO_3.out) hb); have n1_ := Aside0.mk (Kd.R_below (by (with_reducible repeat (first | apply Kd.R_alloc | apply Kd.R_drewN | apply Kd.R_drew)); exact HO_4.out) hb); have HO369 := Aside0.mk (Kd.S_lower (Kd.S_new' ho0 (Kd.R_lt (by (with_reducible repeat (first | apply Kd.R_alloc | apply Kd.R_drewN | apply Kd.R_drew)); exact HO_4.out))) (below_size (zw1 HB.out GE355.out))); have n3_ := Aside0.mk (zbb BK355.out hb); have n4_ := Aside0.mk (below_step (zw1 HB.out GE355.out) hb); clear HO_3 HO_4 BK355 HB; have HO_3 := n0_; have HO_4 := n1_; have BK355 := n3_; have HB := n4_; clear n0_ n1_ n3_ n4_; (try clear hb); (try clear hb2); (try clear hk); (try clear hi); (try clear ho0)))
         have n0_ := Aside0.mk (Kd.R_drew HO_3.out)
         have n1_ := Aside0.mk (Kd.R_drew HO_4.out)
         have n2_ := Aside0.mk (Kd.S_drew HO369.out)
         have n3_ := Aside0.mk (blk_drew BK355.out)
         have n4_ := Aside0.mk (below_drew1 HB.out)
         clear HO_3
         clear HO_4
         clear HO369
         clear BK355
         clear HB
         have HO_3 := n0_
         have HO_4 := n1_
         have HO369 := n2_
         have BK355 := n3_
         have HB := n4_
         clear n0_ n1_ n2_ n3_ n4_
         have p370 : 0 ≤ (x5_1 : Int) := zdec
         have q370 : x5_1 < (t357.length : Int) := zdec
         obtain ⟨ad370, e370, hx370_0, hx370_1⟩ := at_T29 (Kd.R_reads' HO_3.out).2.2 x5_1 p370 q370
         cases e370
         replace p370 := eq_true p370
         replace q370 := eq_true q370
         have p371 : 0 ≤ (x6_2 : Int) := zdec
         have q371 : x6_2 < (l0_1.length : Int) := zdec
         obtain ⟨ad371, A371_0, c371_0, e371, hx371_0, hl371_0, hi371_0⟩ := at_L6 HR0_1.out x6_2 p371 q371
         have hw371_0 := hx371_0
         obtain rfl : ad366 = ad371 := (by injection e371)
         replace hx371_0 := zh HB.out hx371_0
         have HR371_0 := Aside0.mk hi371_0
         have HC371_0 := Aside0.mk hl371_0
         clear hi371_0 hl371_0
         replace p371 := eq_true p371
         replace q371 := eq_true q371
         refine start_ (n := 17) (S := fun w' => w'.cell? ⟨gb355, 0, none⟩ = some (.slice A0_0 l0_0.length c0_0) ∧ w'.cell? ⟨gb355, 1, none⟩ = some (.slice (some ad366) l0_1.length c0_1) ∧ w'.cell? ⟨gb355, 2, none⟩ = some (.slice A0_2 l0_2.length c0_2) ∧ w'.cell? ⟨gb355, 3, none⟩ = some (.slice A0_3 l0_3.length c0_3) ∧ w'.cell? (ad370.add ((x5_1).toNat * 2)) = some (.bool ((rd_T29 t357 x5_1).f0)) ∧ w'.cell? ⟨(ad370.add ((x5_1).toNat * 2)).block, (ad370.add ((x5_1).toNat * 2)).off + 1, none⟩ = some (.int .i64 ((rd_T29 t357 x5_1).f1)) ∧ w'.cell? (ad366.add (x6_2).toNat) = some (.slice A371_0 (rd_L6 l0_1 x6_2).length c371_0)) (ds := []) cellarlaw7_LaySizes.b0 (by kernel_rfl) rfl rfl ⟨(blk_cell BK355.out 0).trans rfl, (blk_cell BK355.out 1).trans rfl, (blk_cell BK355.out 2).trans rfl, (blk_cell BK355.out 3).trans rfl, hx370_0, hx370_1, ((HB.out.cell (World.block_lt_of_cell? w _ hw371_0)).trans hw371_0)⟩ (fun hHeld => ?_); refine with_tabW cellarlaw7_LaySizes.tab12 cellarlaw7_LaySizes.bits12 (fun HT_ HW_ => ?_)
         generalize w41.drew = w42 at HO_3 HO_4 HO369 BK355 HB HR371_0 hx370_0 hx370_1 hx371_0 hHeld ⊢
         refine zq 0 (some 65) HT_ ?_; refine zq 1 (some 66) HT_ ?_; refine zq 2 (some 67) HT_ ?_; refine zq 4 (some 69) HT_ ?_; refine zq 6 (some 71) HT_ ?_; refine zt 3 (some 68) HT_ HW_ hHeld ?_; refine zt 5 (some 70) HT_ HW_ hHeld ?_; refine zq 7 (some 72) HT_ ?_; refine zt 8 (some 73) HT_ HW_ hHeld ?_
         refine one_ (i := 9) (N := some 74) cellarlaw7_LaySizes.b10 rfl rfl (one_of HT_.out (by kernel_rfl)) (by decide) (fun K hK => ?_)
         refine goes_ Try.func17 (by kernel_rfl) rfl #[.agg #[.bool ((rd_T29 t357 x5_1).f0), .int .i64 ((rd_T29 t357 x5_1).f1)], .slice A371_0 (rd_L6 l0_1 x6_2).length c371_0] (by rfl) rfl rfl (by (try simp only [List.map_toArray, List.map_cons, List.map_nil]); first | done | rfl | (simp only [List.length_drop, List.length_take]; rfl)) ?_
         with_reducible refine (cellarref7_Types.calls kj19 ((rd_T29 t357 x5_1).f0) ((rd_T29 t357 x5_1).f1) _ _ (rd_L6 l0_1 x6_2) t372 t375 t378 _ ?side1 ?side2 A30.out).mono ?_
         (case side1 => repeat (first | exact (Kd.C_below HR371_0.out HB.out) | (with_reducible refine Kd.C_alloc ?_ _) | (with_reducible refine Kd.C_drewN ?_ _) | (with_reducible refine Kd.C_drew ?_)))
         (case side2 => exact HC371_0.out)
         rintro e w43 ⟨v373, v376, rfl, ho0, ho1, hb⟩
         have HS4_ := (hb.cell (World.block_lt_of_cell? _ _ (hHeld.2.2.2.2.1))).trans (hHeld.2.2.2.2.1)
         have HS5_ := (hb.cell (World.block_lt_of_cell? _ _ (hHeld.2.2.2.2.2.1))).trans (hHeld.2.2.2.2.2.1)
         refine ⟨_, rfl, ?_⟩
         have n0_ := Aside0.mk (Kd.R_below (by (with_reducible repeat (first | apply Kd.R_alloc | apply Kd.R_drewN | apply Kd.R_drew)); exact HO_3.out) hb)
         have n1_ := Aside0.mk (Kd.R_below (by (with_reducible repeat (first | apply Kd.R_alloc | apply Kd.R_drewN | apply Kd.R_drew)); exact HO_4.out) hb)
         have n2_ := Aside0.mk (Kd.S_mono (Kd.S_told (Kd.S_told (Kd.S_old (by (with_reducible repeat (first | apply Kd.S_alloc | apply Kd.S_drewN | apply Kd.S_drew)); exact HO369.out) hb) (Kd.R_base ho0)) (Kd.R_base ho1)) (fun _ h_ => h_.1))
         have n3_ := Aside0.mk (Kd.R_lower ho0 (below_size (zw1 HB.out GE355.out)))
         have n4_ := Aside0.mk (Kd.R_lower ho1 (below_size (zw1 HB.out GE355.out)))
         have n5_ := Aside0.mk (zbb BK355.out hb)
         have n6_ := Aside0.mk (below_step (zw1 HB.out GE355.out) hb)
         clear HO_3
         clear HO_4
         clear HO369
         clear BK355
         clear HB
         have HO_3 := n0_
         have HO_4 := n1_
         have HO369 := n2_
         have HO374 := n3_
         have HO377 := n4_
         have BK355 := n5_
         have HB := n6_
         clear n0_ n1_ n2_ n3_ n4_ n5_ n6_
         (try clear hb)
         (try clear hb2)
         (try clear hk)
         (try clear hi)
         (try clear ho0)
         (try clear ho1)
         refine hK.out _ _ ⟨(blk_cell BK355.out 0).trans rfl, (blk_cell BK355.out 1).trans rfl, (blk_cell BK355.out 2).trans rfl, (blk_cell BK355.out 3).trans rfl, HS4_, HS5_, ((HB.out.cell (World.block_lt_of_cell? w _ hw371_0)).trans hw371_0)⟩ (fun hHeld => ?_)
         clear hK K
         refine norm_ (a' := ?_) ?_ ?_
         rotate_left
         ·show Act.put _ (some 74) _ = _
          simp only [Act.put, List.setIfInBounds_toArray, List.set_cons_zero, List.set_cons_succ, i64_w, i32_w]
          rfl
         refine zq 10 (some 64) HT_ ?_; refine zq 11 (some 75) HT_ ?_; refine zq 12 (some 76) HT_ ?_; refine zq 13 (some 77) HT_ ?_; refine zq 14 (some 8) HT_ ?_; refine zq 15 (some 9) HT_ ?_; refine zq 16 (some 10) HT_ ?_
         refine done_ (done_of HT_.out (by kernel_rfl)) ?_
         have p379 : 0 ≤ (x5_1 : Int) := zdec
         have q379 : x5_1 < (t357.length : Int) := zdec
         obtain ⟨ad379, e379, hx379_0, hx379_1⟩ := at_T29 (Kd.R_reads' HO_3.out).2.2 x5_1 p379 q379
         obtain rfl : ad370 = ad379 := (by injection e379)
         replace p379 := eq_true p379
         replace q379 := eq_true q379
         obtain ⟨Ao44, co44, eo44⟩ := Kd.S_slice HO369.out
         subst eo44
         try go_wp2_with (first | ((with_reducible refine gate_callee (f := 12) rfl ?_); refine zgo (some 83) Try.func12 #[.agg #[.bool ((rd_T29 t357 x5_1).f0), .int .i64 ((rd_T29 t357 x5_1).f1)], .slice Ao44 t367.length co44] ?_; (with_reducible refine (lay_Check.calls kj19 ((rd_T29 t357 x5_1).f0) ((rd_T29 t357 x5_1).f1) _ _ t367 t380 _ ?side1 ?side2 A31.out).mono ?_); (case side1 => repeat (first | exact (Kd.S_reads' HO369.out).2.2 | (with_reducible refine Kd.C_alloc ?_ _) | (with_reducible refine Kd.C_drewN ?_ _) | (with_reducible refine Kd.C_drew ?_))); (case side2 => exact (Kd.S_reads' HO369.out).2.1); rintro e w45 ⟨rfl, hb⟩; refine ⟨_, rfl, ?_⟩; have n0_ := Aside0.mk (Kd.R_below (by (with_reducible repeat (first | apply Kd.R_alloc | apply Kd.R_drewN | apply Kd.R_drew)); exact HO_3.out) hb); have n1_ := Aside0.mk (Kd.R_below (by (with_reducible repeat (first | apply Kd.R_alloc | apply Kd.R_drewN | apply Kd.R_drew)); exact HO_4.out) hb); have n2_ := Aside0.mk (Kd.S_below (by (with_reducible repeat (first | apply Kd.S_alloc | apply Kd.S_drewN | apply Kd.S_drew)); exact HO369.out) hb); have n3_ := Aside0.mk (Kd.R_below (by (with_reducible repeat (first | apply Kd.R_alloc | apply Kd.R_drewN | apply Kd.R_drew)); exact HO374.out) hb); have n4_ := Aside0.mk (Kd.R_below (by (with_reducible repeat (first | apply Kd.R_alloc | apply Kd.R_drewN | apply Kd.R_drew)); exact HO377.out) hb); have n5_ := Aside0.mk (zbb BK355.out hb); have n6_ := Aside0.mk (below_step (zw1 HB.out GE355.out) hb); clear HO_3 HO_4 HO369 HO374 HO377 BK355 HB; have HO_3 := n0_; have HO_4 := n1_; have HO369 := n2_; have HO374 := n3_; have HO377 := n4_; have BK355 := n5_; have HB := n6_; clear n0_ n1_ n2_ n3_ n4_ n5_ n6_; (try clear hb); (try clear hb2); (try clear hk); (try clear hi)) | ((with_reducible refine gate_callee (f := 11) rfl ?_); refine zgo (some 84) Try.func11 #[.int .i64 t380] ?_; (with_reducible refine (cellarlaw7_num.calls t380 t381 _ A32.out).mono ?_); rintro e w' ⟨rfl, ⟨nd, rfl⟩⟩; refine ⟨_, rfl, ?_⟩))
         go_loopg [11] kj19 (fun kq v11 w' => ∃ (x11_4 : Int), v11 = .int .i64 x11_4 ∧ Aside0 (cellarlaw7_LaySizes.l2 kq t357 y363 x5_1 x6_2 t367 t372 t375 t378 x11_4 l0_0 l0_1 l0_2 l0_3 = some r) ∧ Aside0 (kq ≤ kj19) ∧ Aside0 (Kd.R k29 29 w' w.heap.size (fun _ => True) (.slice (some ad370) t357.length co19) t357) ∧ Aside0 (Kd.R Kd.string 9 w' w.heap.size (fun _ => True) v364 y363) ∧ Aside0 (Kd.S k31 31 w' w.heap.size (fun k_ => some k_ ≠ (v364 : Value).ownBlock ∧ some k_ ≠ (v373 : Value).ownBlock ∧ some k_ ≠ (v376 : Value).ownBlock) (.slice Ao44 t367.length co44) t367) ∧ Aside0 (Kd.R (Kd.int .i64) 3 w' w.heap.size (fun k_ => some k_ ≠ (v376 : Value).ownBlock) v373 t372) ∧ Aside0 (Kd.R (Kd.int .i64) 3 w' w.heap.size (fun k_ => some k_ ≠ (v373 : Value).ownBlock) v376 t375) ∧ Aside0 (w'.heap[gb355]? = some (.cells #[(.slice A0_0 l0_0.length c0_0), (.slice (some ad366) l0_1.length c0_1), (.slice A0_2 l0_2.length c0_2), (.slice A0_3 l0_3.length c0_3)] 27 (0, 0))) ∧ Aside0 (Below w.heap.size w w'))
         case atStart => exact ⟨((-1)), (zr), H', ⟨Nat.le_refl _⟩, ⟨by (with_reducible repeat (first | apply Kd.R_alloc | apply Kd.R_drewN | apply Kd.R_drew)); exact HO_3.out⟩, ⟨by (with_reducible repeat (first | apply Kd.R_alloc | apply Kd.R_drewN | apply Kd.R_drew)); exact HO_4.out⟩, ⟨by (with_reducible repeat (first | apply Kd.S_alloc | apply Kd.S_drewN | apply Kd.S_drew)); exact Kd.S_mono HO369.out (fun _ hk => ⟨hk.1.1.2, ⟨hk.1.2, hk.2⟩⟩)⟩, ⟨by (with_reducible repeat (first | apply Kd.R_alloc | apply Kd.R_drewN | apply Kd.R_drew)); exact HO374.out⟩, ⟨by (with_reducible repeat (first | apply Kd.R_alloc | apply Kd.R_drewN | apply Kd.R_drew)); exact HO377.out⟩, ⟨zb BK355.out⟩, ⟨zw1 HB.out GE355.out⟩⟩
         case round => as_aux_lemma =>
          clear H'
          try clear c1; try clear c2; try clear p2; try clear c3; try clear p3; try clear q3; try clear c4; try clear c8; try clear c11; try clear c12; try clear c14; try clear c15; try clear c16; try clear c17; try clear c18; try clear c18b0; try clear c21; try clear c21b0; try clear c24; try clear c25; try clear c25b0; try clear c26; try clear c26b0; try clear c28; try clear c28b0; try clear c29; try clear c29b0; try clear c33; try clear c33b0; try clear c33b1; try clear c33b2; try clear c36; try clear p36; try clear q36; try clear c37; try clear p37; try clear q37; try clear p2; try clear p366; try clear p370; try clear p371; try clear p379; try clear q366; try clear q370; try clear q371; try clear q379
          obtain ⟨x11_4, rfl, HA, HK4, HO_3, HO_4, HO_7, HO_8, HO_9, BK355, HB⟩ := hrel
          cases gk with
          | zero => exact absurd HA.out (by simp [cellarlaw7_LaySizes.l2])
          | succ k4 =>
           have H := HA.out
           clear HA
           simp only [cellarlaw7_LaySizes.l2] at H
           have HC46 := Aside0.mk H
           clear H
           go_upto_region 16 with (fail)
           go_cut [95] (fun v95 wc => ∃ (kq : Nat) (x95_45 : Bool), v95 = .bool x95_45 ∧ Aside0 (cellarlaw7_LaySizes.j4 kq t357 y363 x5_1 x6_2 t367 t372 t375 t378 x11_4 x95_45 l0_0 l0_1 l0_2 l0_3 = some r) ∧ Aside0 (kq ≤ k4) ∧ Aside0 (Kd.R k29 29 wc w.heap.size (fun _ => True) (.slice (some ad370) t357.length co19) t357) ∧ Aside0 (Kd.R Kd.string 9 wc w.heap.size (fun _ => True) v364 y363) ∧ Aside0 (Kd.S k31 31 wc w.heap.size (fun k_ => some k_ ≠ (v364 : Value).ownBlock ∧ some k_ ≠ (v373 : Value).ownBlock ∧ some k_ ≠ (v376 : Value).ownBlock) (.slice Ao44 t367.length co44) t367) ∧ Aside0 (Kd.R (Kd.int .i64) 3 wc w.heap.size (fun k_ => some k_ ≠ (v376 : Value).ownBlock) v373 t372) ∧ Aside0 (Kd.R (Kd.int .i64) 3 wc w.heap.size (fun k_ => some k_ ≠ (v373 : Value).ownBlock) v376 t375) ∧ Aside0 (wc.heap[gb355]? = some (.cells #[(.slice A0_0 l0_0.length c0_0), (.slice (some ad366) l0_1.length c0_1), (.slice A0_2 l0_2.length c0_2), (.slice A0_3 l0_3.length c0_3)] 27 (0, 0))) ∧ Aside0 (Below w.heap.size w wc))
           case first => as_aux_lemma =>
            have H := HC46.out
            clear HC46
            by_cases c47 : x11_4 ≤ (t367.length : Int)
            rotate_left
            ·rw [if_neg c47] at H
             have c47b0 : decide (x11_4 ≤ (t367.length : Int)) = false := decide_eq_false c47
             clear c47
             (first | rw [c47b0] | (simp only [i64_w, i32_w]; rw [c47b0]) | skip)
             have H' := Aside0.mk H
             clear H
             go_wp2
             go_meet
             case rel => exact ⟨_, (false), (zr), H', ⟨by have := HK1.out; have := HK2.out; have := HJ19.out; have := HK4.out; first | omega | exact Nat.le_refl _⟩, ⟨by (with_reducible repeat (first | apply Kd.R_alloc | apply Kd.R_drewN | apply Kd.R_drew)); exact HO_3.out⟩, ⟨by (with_reducible repeat (first | apply Kd.R_alloc | apply Kd.R_drewN | apply Kd.R_drew)); exact HO_4.out⟩, ⟨by (with_reducible repeat (first | apply Kd.S_alloc | apply Kd.S_drewN | apply Kd.S_drew)); exact HO_7.out⟩, ⟨by (with_reducible repeat (first | apply Kd.R_alloc | apply Kd.R_drewN | apply Kd.R_drew)); exact HO_8.out⟩, ⟨by (with_reducible repeat (first | apply Kd.R_alloc | apply Kd.R_drewN | apply Kd.R_drew)); exact HO_9.out⟩, ⟨zb BK355.out⟩, ⟨zw1 HB.out GE355.out⟩⟩
            rw [if_pos c47] at H
            have c47b0 : decide (x11_4 ≤ (t367.length : Int)) = true := decide_eq_true c47
            clear c47
            (first | rw [c47b0] | (simp only [i64_w, i32_w]; rw [c47b0]) | skip)
            have H' := Aside0.mk H
            clear H
            go_wp2
            go_meet
            case rel => exact ⟨_, (decide (x11_4 < 12)), (zr), H', ⟨by have := HK1.out; have := HK2.out; have := HJ19.out; have := HK4.out; first | omega | exact Nat.le_refl _⟩, ⟨by (with_reducible repeat (first | apply Kd.R_alloc | apply Kd.R_drewN | apply Kd.R_drew)); exact HO_3.out⟩, ⟨by (with_reducible repeat (first | apply Kd.R_alloc | apply Kd.R_drewN | apply Kd.R_drew)); exact HO_4.out⟩, ⟨by (with_reducible repeat (first | apply Kd.S_alloc | apply Kd.S_drewN | apply Kd.S_drew)); exact HO_7.out⟩, ⟨by (with_reducible repeat (first | apply Kd.R_alloc | apply Kd.R_drewN | apply Kd.R_drew)); exact HO_8.out⟩, ⟨by (with_reducible repeat (first | apply Kd.R_alloc | apply Kd.R_drewN | apply Kd.R_drew)); exact HO_9.out⟩, ⟨zb BK355.out⟩, ⟨zw1 HB.out GE355.out⟩⟩
           case rest => as_aux_lemma =>
            clear HC46
            try clear c1; try clear c2; try clear p2; try clear c3; try clear p3; try clear q3; try clear c4; try clear c8; try clear c11; try clear c12; try clear c14; try clear c15; try clear c16; try clear c17; try clear c18; try clear c18b0; try clear c21; try clear c21b0; try clear c24; try clear c25; try clear c25b0; try clear c26; try clear c26b0; try clear c28; try clear c28b0; try clear c29; try clear c29b0; try clear c33; try clear c33b0; try clear c33b1; try clear c33b2; try clear c36; try clear p36; try clear q36; try clear c37; try clear p37; try clear q37; try clear c47; try clear c47b0; try clear p2; try clear p3; try clear p36; try clear p366; try clear p37; try clear p370; try clear p371; try clear p379; try clear q3; try clear q36; try clear q366; try clear q37; try clear q370; try clear q371; try clear q379
            obtain ⟨kq, x95_45, rfl, HA, HJ45, HO_3, HO_4, HO_7, HO_8, HO_9, BK355, HB⟩ := hcut
            cases kq with
            | zero => exact absurd HA.out (by simp [cellarlaw7_LaySizes.j4])
            | succ kj45 =>
             have H := HA.out
             clear HA
             simp only [cellarlaw7_LaySizes.j4] at H
             by_cases c48 : x95_45 = true
             rotate_left
             ·replace c48 := Bool.eq_false_iff.mpr c48
              subst c48
              have H1 : (if 0 ≤ x6_2 then (if x6_2 < (l0_1.length : Int) then ((cellarref0_EqTypes.f kj45 t367 (rd_L6 l0_1 x6_2)).bind fun t423 => (if t423 = true then (cellarlaw7_LaySizes.l1 kj45 t357 y363 x5_1 (wrap64 (x6_2 + 1)) l0_0 l0_1 l0_2 l0_3) else (some false))) else (none)) else (none)) = some r := by rw [if_neg (show ¬ (false = true) by decide)] at H; exact H
              clear H
              have H := H1
              clear H1
              by_cases c133 : 0 ≤ x6_2
              rotate_left
              ·rw [if_neg c133] at H
               exact absurd H (by simp)
              rw [if_pos c133] at H
              have c133b0 : decide (0 ≤ x6_2) = true := decide_eq_true c133
              clear c133
              by_cases c134 : x6_2 < (l0_1.length : Int)
              rotate_left
              ·rw [if_neg c134] at H
               exact absurd H (by simp)
              rw [if_pos c134] at H
              have c134b0 : decide (x6_2 < (l0_1.length : Int)) = true := decide_eq_true c134
              clear c134
              replace H := Option.bind_eq_some_iff.mp H
              obtain ⟨t423, A1350, H⟩ := H
              replace H : (if t423 = true then (cellarlaw7_LaySizes.l1 kj45 t357 y363 x5_1 (wrap64 (x6_2 + 1)) l0_0 l0_1 l0_2 l0_3) else (some false)) = some r := H
              have A135 := Aside0.mk A1350
              clear A1350
              by_cases c136 : t423 = true
              rotate_left
              ·replace c136 := Bool.eq_false_iff.mpr c136
               subst c136
               have H1 : (some false) = some r := by rw [if_neg (show ¬ (false = true) by decide)] at H; exact H
               clear H
               have H := H1
               clear H1
               obtain rfl := Option.some.inj H
               have hcz139_0 := zc BK355.out 0
               have hcz139_1 := zc BK355.out 1
               have hcz139_2 := zc BK355.out 2
               have hcz139_3 := zc BK355.out 3
               have hfz139_0 := blk_frozen BK355.out 0
               have hfz139_1 := blk_frozen BK355.out 1
               have hfz139_2 := blk_frozen BK355.out 2
               have hfz139_3 := blk_frozen BK355.out 3
               have p422 : 0 ≤ (x6_2 : Int) := zdec
               have q422 : x6_2 < (l0_1.length : Int) := zdec
               obtain ⟨ad422, A422_0, c422_0, e422, hx422_0, hl422_0, hi422_0⟩ := at_L6 HR0_1.out x6_2 p422 q422
               obtain rfl : ad366 = ad422 := (by injection e422)
               replace hx422_0 := zh HB.out hx422_0
               have HR422_0 := Aside0.mk hi422_0
               have HC422_0 := Aside0.mk hl422_0
               clear hi422_0 hl422_0
               replace p422 := eq_true p422
               replace q422 := eq_true q422
               go_wp2_with (first | ((with_reducible refine gate_callee (f := 24) rfl ?_); refine zgo (some 287) Try.func24 #[.slice Ao44 t367.length co44, .slice A422_0 (rd_L6 l0_1 x6_2).length c422_0] ?_; (with_reducible refine (cellarref0_EqTypes.calls kj45 _ _ t367 _ _ (rd_L6 l0_1 x6_2) false _ ?side1 ?side2 ?side3 ?side4 A135.out).mono ?_); (case side1 => repeat (first | exact (Kd.S_reads' HO_7.out).2.2 | (with_reducible refine Kd.C_alloc ?_ _) | (with_reducible refine Kd.C_drewN ?_ _) | (with_reducible refine Kd.C_drew ?_))); (case side2 => exact (Kd.S_reads' HO_7.out).2.1); (case side3 => repeat (first | exact (Kd.C_below HR422_0.out HB.out) | (with_reducible refine Kd.C_alloc ?_ _) | (with_reducible refine Kd.C_drewN ?_ _) | (with_reducible refine Kd.C_drew ?_))); (case side4 => exact HC422_0.out); rintro e w140 ⟨rfl, hb⟩; refine ⟨_, rfl, ?_⟩; have n0_ := Aside0.mk (Kd.R_below (by (with_reducible repeat (first | apply Kd.R_alloc | apply Kd.R_drewN | apply Kd.R_drew)); exact HO_3.out) hb); have n1_ := Aside0.mk (Kd.R_below (by (with_reducible repeat (first | apply Kd.R_alloc | apply Kd.R_drewN | apply Kd.R_drew)); exact HO_4.out) hb); have n2_ := Aside0.mk (Kd.S_below (by (with_reducible repeat (first | apply Kd.S_alloc | apply Kd.S_drewN | apply Kd.S_drew)); exact HO_7.out) hb); have n3_ := Aside0.mk (Kd.R_below (by (with_reducible repeat (first | apply Kd.R_alloc | apply Kd.R_drewN | apply Kd.R_drew)); exact HO_8.out) hb); have n4_ := Aside0.mk (Kd.R_below (by (with_reducible repeat (first | apply Kd.R_alloc | apply Kd.R_drewN | apply Kd.R_drew)); exact HO_9.out) hb); have n5_ := Aside0.mk (zbb BK355.out hb); have n6_ := Aside0.mk (below_step (zw1 HB.out GE355.out) hb); clear HO_3 HO_4 HO_7 HO_8 HO_9 BK355 HB; have HO_3 := n0_; have HO_4 := n1_; have HO_7 := n2_; have HO_8 := n3_; have HO_9 := n4_; have BK355 := n5_; have HB := n6_; clear n0_ n1_ n2_ n3_ n4_ n5_ n6_; (try clear hb); (try clear hb2); (try clear hk); (try clear hi)))
               go_ret
               exact ⟨ze, zw1 HB.out GE355.out⟩
              subst c136
              have H1 : (cellarlaw7_LaySizes.l1 kj45 t357 y363 x5_1 (wrap64 (x6_2 + 1)) l0_0 l0_1 l0_2 l0_3) = some r := by rw [if_pos rfl] at H; exact H
              clear H
              have H := H1
              clear H1
              have H' := Aside0.mk H
              clear H
              have hcz137_0 := zc BK355.out 0
              have hcz137_1 := zc BK355.out 1
              have hcz137_2 := zc BK355.out 2
              have hcz137_3 := zc BK355.out 3
              have hfz137_0 := blk_frozen BK355.out 0
              have hfz137_1 := blk_frozen BK355.out 1
              have hfz137_2 := blk_frozen BK355.out 2
              have hfz137_3 := blk_frozen BK355.out 3
              have p422 : 0 ≤ (x6_2 : Int) := zdec
              have q422 : x6_2 < (l0_1.length : Int) := zdec
              obtain ⟨ad422, A422_0, c422_0, e422, hx422_0, hl422_0, hi422_0⟩ := at_L6 HR0_1.out x6_2 p422 q422
              obtain rfl : ad366 = ad422 := (by injection e422)
              replace hx422_0 := zh HB.out hx422_0
              have HR422_0 := Aside0.mk hi422_0
              have HC422_0 := Aside0.mk hl422_0
              clear hi422_0 hl422_0
              replace p422 := eq_true p422
              replace q422 := eq_true q422
              go_wp2_with (first | ((with_reducible refine gate_callee (f := 24) rfl ?_); refine zgo (some 287) Try.func24 #[.slice Ao44 t367.length co44, .slice A422_0 (rd_L6 l0_1 x6_2).length c422_0] ?_; (with_reducible refine (cellarref0_EqTypes.calls kj45 _ _ t367 _ _ (rd_L6 l0_1 x6_2) true _ ?side1 ?side2 ?side3 ?side4 A135.out).mono ?_); (case side1 => repeat (first | exact (Kd.S_reads' HO_7.out).2.2 | (with_reducible refine Kd.C_alloc ?_ _) | (with_reducible refine Kd.C_drewN ?_ _) | (with_reducible refine Kd.C_drew ?_))); (case side2 => exact (Kd.S_reads' HO_7.out).2.1); (case side3 => repeat (first | exact (Kd.C_below HR422_0.out HB.out) | (with_reducible refine Kd.C_alloc ?_ _) | (with_reducible refine Kd.C_drewN ?_ _) | (with_reducible refine Kd.C_drew ?_))); (case side4 => exact HC422_0.out); rintro e w138 ⟨rfl, hb⟩; refine ⟨_, rfl, ?_⟩; have n0_ := Aside0.mk (Kd.R_below (by (with_reducible repeat (first | apply Kd.R_alloc | apply Kd.R_drewN | apply Kd.R_drew)); exact HO_3.out) hb); have n1_ := Aside0.mk (Kd.R_below (by (with_reducible repeat (first | apply Kd.R_alloc | apply Kd.R_drewN | apply Kd.R_drew)); exact HO_4.out) hb); have n2_ := Aside0.mk (Kd.S_below (by (with_reducible repeat (first | apply Kd.S_alloc | apply Kd.S_drewN | apply Kd.S_drew)); exact HO_7.out) hb); have n3_ := Aside0.mk (Kd.R_below (by (with_reducible repeat (first | apply Kd.R_alloc | apply Kd.R_drewN | apply Kd.R_drew)); exact HO_8.out) hb); have n4_ := Aside0.mk (Kd.R_below (by (with_reducible repeat (first | apply Kd.R_alloc | apply Kd.R_drewN | apply Kd.R_drew)); exact HO_9.out) hb); have n5_ := Aside0.mk (zbb BK355.out hb); have n6_ := Aside0.mk (below_step (zw1 HB.out GE355.out) hb); clear HO_3 HO_4 HO_7 HO_8 HO_9 BK355 HB; have HO_3 := n0_; have HO_4 := n1_; have HO_7 := n2_; have HO_8 := n3_; have HO_9 := n4_; have BK355 := n5_; have HB := n6_; clear n0_ n1_ n2_ n3_ n4_ n5_ n6_; (try clear hb); (try clear hb2); (try clear hk); (try clear hi)))
              go_roundg kj45
              case measure => have := HK1.out; have := HK2.out; have := HJ19.out; have := HK4.out; have := HJ45.out; omega
              case rel => exact ⟨(wrap64 (x6_2 + 1)), (zr), H', ⟨by have := HK1.out; have := HK2.out; have := HJ19.out; have := HK4.out; have := HJ45.out; omega⟩, ⟨by (with_reducible repeat (first | apply Kd.R_alloc | apply Kd.R_drewN | apply Kd.R_drew)); exact HO_3.out⟩, ⟨by (with_reducible repeat (first | apply Kd.R_alloc | apply Kd.R_drewN | apply Kd.R_drew)); exact HO_4.out⟩, ⟨zb BK355.out⟩, ⟨zw1 HB.out GE355.out⟩⟩
             subst c48
             have H1 : (if t378 = true then ((cellarref0_Num.f x11_4 (wrap64 ((t367.length : Int) - 1))).bind fun t382 => (cellarlaw7_LaySizes.j5 kj45 t357 y363 x5_1 x6_2 t367 t372 t375 t378 x11_4 t382 l0_0 l0_1 l0_2 l0_3)) else (cellarlaw7_LaySizes.j5 kj45 t357 y363 x5_1 x6_2 t367 t372 t375 t378 x11_4 false l0_0 l0_1 l0_2 l0_3)) = some r := by rw [if_pos rfl] at H; exact H
             clear H
             have H := H1
             clear H1
             have HC49 := Aside0.mk H
             clear H
             go_upto_region 18 with (fail)
             go_cut [12] (fun v12 wc => ∃ (kq : Nat) (x12_48 : Bool), v12 = .bool x12_48 ∧ Aside0 (cellarlaw7_LaySizes.j5 kq t357 y363 x5_1 x6_2 t367 t372 t375 t378 x11_4 x12_48 l0_0 l0_1 l0_2 l0_3 = some r) ∧ Aside0 (kq ≤ kj45) ∧ Aside0 (Kd.R k29 29 wc w.heap.size (fun _ => True) (.slice (some ad370) t357.length co19) t357) ∧ Aside0 (Kd.R Kd.string 9 wc w.heap.size (fun _ => True) v364 y363) ∧ Aside0 (Kd.S k31 31 wc w.heap.size (fun k_ => some k_ ≠ (v364 : Value).ownBlock ∧ some k_ ≠ (v373 : Value).ownBlock ∧ some k_ ≠ (v376 : Value).ownBlock) (.slice Ao44 t367.length co44) t367) ∧ Aside0 (Kd.R (Kd.int .i64) 3 wc w.heap.size (fun k_ => some k_ ≠ (v376 : Value).ownBlock) v373 t372) ∧ Aside0 (Kd.R (Kd.int .i64) 3 wc w.heap.size (fun k_ => some k_ ≠ (v373 : Value).ownBlock) v376 t375) ∧ Aside0 (wc.heap[gb355]? = some (.cells #[(.slice A0_0 l0_0.length c0_0), (.slice (some ad366) l0_1.length c0_1), (.slice A0_2 l0_2.length c0_2), (.slice A0_3 l0_3.length c0_3)] 27 (0, 0))) ∧ Aside0 (Below w.heap.size w wc))
             case first => as_aux_lemma =>
              have H := HC49.out
              clear HC49
              by_cases c50 : t378 = true
              rotate_left
              ·replace c50 := Bool.eq_false_iff.mpr c50
               subst c50
               have H1 : (cellarlaw7_LaySizes.j5 kj45 t357 y363 x5_1 x6_2 t367 t372 t375 false x11_4 false l0_0 l0_1 l0_2 l0_3) = some r := by rw [if_neg (show ¬ (false = true) by decide)] at H; exact H
               clear H
               have H := H1
               clear H1
               have H' := Aside0.mk H
               clear H
               go_wp2
               go_meet
               case rel => exact ⟨_, (false), (zr), H', ⟨by have := HK1.out; have := HK2.out; have := HJ19.out; have := HK4.out; have := HJ45.out; first | omega | exact Nat.le_refl _⟩, ⟨by (with_reducible repeat (first | apply Kd.R_alloc | apply Kd.R_drewN | apply Kd.R_drew)); exact HO_3.out⟩, ⟨by (with_reducible repeat (first | apply Kd.R_alloc | apply Kd.R_drewN | apply Kd.R_drew)); exact HO_4.out⟩, ⟨by (with_reducible repeat (first | apply Kd.S_alloc | apply Kd.S_drewN | apply Kd.S_drew)); exact HO_7.out⟩, ⟨by (with_reducible repeat (first | apply Kd.R_alloc | apply Kd.R_drewN | apply Kd.R_drew)); exact HO_8.out⟩, ⟨by (with_reducible repeat (first | apply Kd.R_alloc | apply Kd.R_drewN | apply Kd.R_drew)); exact HO_9.out⟩, ⟨zb BK355.out⟩, ⟨zw1 HB.out GE355.out⟩⟩
              subst c50
              have H1 : ((cellarref0_Num.f x11_4 (wrap64 ((t367.length : Int) - 1))).bind fun t382 => (cellarlaw7_LaySizes.j5 kj45 t357 y363 x5_1 x6_2 t367 t372 t375 true x11_4 t382 l0_0 l0_1 l0_2 l0_3)) = some r := by rw [if_pos rfl] at H; exact H
              clear H
              have H := H1
              clear H1
              replace H := Option.bind_eq_some_iff.mp H
              obtain ⟨t382, A510, H⟩ := H
              replace H : (cellarlaw7_LaySizes.j5 kj45 t357 y363 x5_1 x6_2 t367 t372 t375 true x11_4 t382 l0_0 l0_1 l0_2 l0_3) = some r := H
              have A51 := Aside0.mk A510
              clear A510
              have H' := Aside0.mk H
              clear H
              go_wp2_with (first | (go_at_call 18; (with_reducible refine (cellarref0_Num.calls x11_4 (wrap64 ((t367.length : Int) - 1)) t382 _ A51.out).mono ?_); rintro e w' ⟨rfl, ⟨nd, rfl⟩⟩))
              go_meet
              case rel => exact ⟨_, (t382), (zr), H', ⟨by have := HK1.out; have := HK2.out; have := HJ19.out; have := HK4.out; have := HJ45.out; first | omega | exact Nat.le_refl _⟩, ⟨by (with_reducible repeat (first | apply Kd.R_alloc | apply Kd.R_drewN | apply Kd.R_drew)); exact HO_3.out⟩, ⟨by (with_reducible repeat (first | apply Kd.R_alloc | apply Kd.R_drewN | apply Kd.R_drew)); exact HO_4.out⟩, ⟨by (with_reducible repeat (first | apply Kd.S_alloc | apply Kd.S_drewN | apply Kd.S_drew)); exact HO_7.out⟩, ⟨by (with_reducible repeat (first | apply Kd.R_alloc | apply Kd.R_drewN | apply Kd.R_drew)); exact HO_8.out⟩, ⟨by (with_reducible repeat (first | apply Kd.R_alloc | apply Kd.R_drewN | apply Kd.R_drew)); exact HO_9.out⟩, ⟨zb BK355.out⟩, ⟨zw1 HB.out GE355.out⟩⟩
             case rest => as_aux_lemma =>
              clear HC49
              try clear c1; try clear c2; try clear p2; try clear c3; try clear p3; try clear q3; try clear c4; try clear c5; try clear p6; try clear c8; try clear c11; try clear c12; try clear c14; try clear c15; try clear c16; try clear c17; try clear c18; try clear c18b0; try clear c21; try clear c21b0; try clear c24; try clear c25; try clear c25b0; try clear c26; try clear c26b0; try clear c28; try clear c28b0; try clear c29; try clear c29b0; try clear c33; try clear c33b0; try clear c33b1; try clear c33b2; try clear c36; try clear p36; try clear q36; try clear c37; try clear p37; try clear q37; try clear c47; try clear c47b0; try clear c48; try clear c50; try clear p2; try clear p3; try clear p36; try clear p366; try clear p37; try clear p370; try clear p371; try clear p379; try clear q3; try clear q36; try clear q366; try clear q37; try clear q370; try clear q371; try clear q379
              obtain ⟨kq, x12_48, rfl, HA, HJ48, HO_3, HO_4, HO_7, HO_8, HO_9, BK355, HB⟩ := hcut
              cases kq with
              | zero => exact absurd HA.out (by simp [cellarlaw7_LaySizes.j5])
              | succ kj48 =>
               have H := HA.out
               clear HA
               simp only [cellarlaw7_LaySizes.j5] at H
               have HC52 := Aside0.mk H
               clear H
               go_upto_if 106 with (fail)
               go_cut [13] (fun v13 wc => ∃ (kq : Nat) (x13_51 : Int), v13 = .int .i64 x13_51 ∧ Aside0 (cellarlaw7_LaySizes.j6 kq t357 y363 x5_1 x6_2 t367 t372 t375 t378 x11_4 x12_48 x13_51 0 0 l0_0 l0_1 l0_2 l0_3 = some r) ∧ Aside0 (kq ≤ kj48) ∧ Aside0 (Kd.R k29 29 wc w.heap.size (fun _ => True) (.slice (some ad370) t357.length co19) t357) ∧ Aside0 (Kd.R Kd.string 9 wc w.heap.size (fun _ => True) v364 y363) ∧ Aside0 (Kd.S k31 31 wc w.heap.size (fun k_ => some k_ ≠ (v364 : Value).ownBlock ∧ some k_ ≠ (v373 : Value).ownBlock ∧ some k_ ≠ (v376 : Value).ownBlock) (.slice Ao44 t367.length co44) t367) ∧ Aside0 (Kd.R (Kd.int .i64) 3 wc w.heap.size (fun k_ => some k_ ≠ (v376 : Value).ownBlock) v373 t372) ∧ Aside0 (Kd.R (Kd.int .i64) 3 wc w.heap.size (fun k_ => some k_ ≠ (v373 : Value).ownBlock) v376 t375) ∧ Aside0 (wc.heap[gb355]? = some (.cells #[(.slice A0_0 l0_0.length c0_0), (.slice (some ad366) l0_1.length c0_1), (.slice A0_2 l0_2.length c0_2), (.slice A0_3 l0_3.length c0_3)] 27 (0, 0))) ∧ Aside0 (Below w.heap.size w wc))
               case first => as_aux_lemma =>
                have H := HC52.out
                clear HC52
                by_cases c53 : t378 = true
                ·subst c53
                 have H1 : (cellarlaw7_LaySizes.j6 kj48 t357 y363 x5_1 x6_2 t367 t372 t375 true x11_4 x12_48 3 0 0 l0_0 l0_1 l0_2 l0_3) = some r := by rw [if_pos rfl] at H; exact H
                 clear H
                 have H := H1
                 clear H1
                 have H' := Aside0.mk H
                 clear H
                 go_wp2
                 go_meet
                 case rel => exact ⟨_, (3), (zr), H', ⟨by have := HK1.out; have := HK2.out; have := HJ19.out; have := HK4.out; have := HJ45.out; have := HJ48.out; first | omega | exact Nat.le_refl _⟩, ⟨by (with_reducible repeat (first | apply Kd.R_alloc | apply Kd.R_drewN | apply Kd.R_drew)); exact HO_3.out⟩, ⟨by (with_reducible repeat (first | apply Kd.R_alloc | apply Kd.R_drewN | apply Kd.R_drew)); exact HO_4.out⟩, ⟨by (with_reducible repeat (first | apply Kd.S_alloc | apply Kd.S_drewN | apply Kd.S_drew)); exact HO_7.out⟩, ⟨by (with_reducible repeat (first | apply Kd.R_alloc | apply Kd.R_drewN | apply Kd.R_drew)); exact HO_8.out⟩, ⟨by (with_reducible repeat (first | apply Kd.R_alloc | apply Kd.R_drewN | apply Kd.R_drew)); exact HO_9.out⟩, ⟨zb BK355.out⟩, ⟨zw1 HB.out GE355.out⟩⟩
                replace c53 := Bool.eq_false_iff.mpr c53
                subst c53
                have H1 : (cellarlaw7_LaySizes.j6 kj48 t357 y363 x5_1 x6_2 t367 t372 t375 false x11_4 x12_48 1 0 0 l0_0 l0_1 l0_2 l0_3) = some r := by rw [if_neg (show ¬ (false = true) by decide)] at H; exact H
                clear H
                have H := H1
                clear H1
                have H' := Aside0.mk H
                clear H
                go_wp2
                go_meet
                case rel => exact ⟨_, (1), (zr), H', ⟨by have := HK1.out; have := HK2.out; have := HJ19.out; have := HK4.out; have := HJ45.out; have := HJ48.out; first | omega | exact Nat.le_refl _⟩, ⟨by (with_reducible repeat (first | apply Kd.R_alloc | apply Kd.R_drewN | apply Kd.R_drew)); exact HO_3.out⟩, ⟨by (with_reducible repeat (first | apply Kd.R_alloc | apply Kd.R_drewN | apply Kd.R_drew)); exact HO_4.out⟩, ⟨by (with_reducible repeat (first | apply Kd.S_alloc | apply Kd.S_drewN | apply Kd.S_drew)); exact HO_7.out⟩, ⟨by (with_reducible repeat (first | apply Kd.R_alloc | apply Kd.R_drewN | apply Kd.R_drew)); exact HO_8.out⟩, ⟨by (with_reducible repeat (first | apply Kd.R_alloc | apply Kd.R_drewN | apply Kd.R_drew)); exact HO_9.out⟩, ⟨zb BK355.out⟩, ⟨zw1 HB.out GE355.out⟩⟩
               case rest => as_aux_lemma =>
                clear HC52
                try clear c1; try clear c2; try clear p2; try clear c3; try clear p3; try clear q3; try clear c4; try clear c5; try clear p6; try clear c8; try clear c11; try clear c12; try clear c14; try clear c15; try clear c16; try clear c17; try clear c18; try clear c18b0; try clear c21; try clear c21b0; try clear c24; try clear c25; try clear c25b0; try clear c26; try clear c26b0; try clear c28; try clear c28b0; try clear c29; try clear c29b0; try clear c33; try clear c33b0; try clear c33b1; try clear c33b2; try clear c36; try clear p36; try clear q36; try clear c37; try clear p37; try clear q37; try clear c47; try clear c47b0; try clear c48; try clear c50; try clear c53; try clear p2; try clear p3; try clear p36; try clear p366; try clear p37; try clear p370; try clear p371; try clear p379; try clear p6; try clear q3; try clear q36; try clear q366; try clear q37; try clear q370; try clear q371; try clear q379
                obtain ⟨kq, x13_51, rfl, HA, HJ51, HO_3, HO_4, HO_7, HO_8, HO_9, BK355, HB⟩ := hcut
                cases kq with
                | zero => exact absurd HA.out (by simp [cellarlaw7_LaySizes.j6])
                | succ kj51 =>
                 have H := HA.out
                 clear HA
                 simp only [cellarlaw7_LaySizes.j6] at H
                 have HC54 := Aside0.mk H
                 clear H
                 go_upto_if 107 with (fail)
                 go_cut [13, 14, 15] (fun v13 v14 v15 wc => ∃ (kq : Nat) (x13_53 : Int) (x14_53 : Int) (x15_53 : Int), v13 = .int .i64 x13_53 ∧ v14 = .int .i64 x14_53 ∧ v15 = .int .i64 x15_53 ∧ Aside0 (cellarlaw7_LaySizes.j7 kq t357 y363 x5_1 x6_2 t367 t372 t375 t378 x11_4 x12_48 x13_53 x14_53 x15_53 l0_0 l0_1 l0_2 l0_3 = some r) ∧ Aside0 (kq ≤ kj51) ∧ Aside0 (Kd.R k29 29 wc w.heap.size (fun _ => True) (.slice (some ad370) t357.length co19) t357) ∧ Aside0 (Kd.R Kd.string 9 wc w.heap.size (fun _ => True) v364 y363) ∧ Aside0 (Kd.S k31 31 wc w.heap.size (fun k_ => some k_ ≠ (v364 : Value).ownBlock ∧ some k_ ≠ (v373 : Value).ownBlock ∧ some k_ ≠ (v376 : Value).ownBlock) (.slice Ao44 t367.length co44) t367) ∧ Aside0 (Kd.R (Kd.int .i64) 3 wc w.heap.size (fun k_ => some k_ ≠ (v376 : Value).ownBlock) v373 t372) ∧ Aside0 (Kd.R (Kd.int .i64) 3 wc w.heap.size (fun k_ => some k_ ≠ (v373 : Value).ownBlock) v376 t375) ∧ Aside0 (wc.heap[gb355]? = some (.cells #[(.slice A0_0 l0_0.length c0_0), (.slice (some ad366) l0_1.length c0_1), (.slice A0_2 l0_2.length c0_2), (.slice A0_3 l0_3.length c0_3)] 27 (0, 0))) ∧ Aside0 (Below w.heap.size w wc))
                 case first => as_aux_lemma =>
                  have H := HC54.out
                  clear HC54
                  by_cases c55 : x12_48 = true
                  rotate_left
                  ·replace c55 := Bool.eq_false_iff.mpr c55
                   subst c55
                   have H1 : (cellarlaw7_LaySizes.j7 kj51 t357 y363 x5_1 x6_2 t367 t372 t375 t378 x11_4 false x13_51 0 0 l0_0 l0_1 l0_2 l0_3) = some r := by rw [if_neg (show ¬ (false = true) by decide)] at H; exact H
                   clear H
                   have H := H1
                   clear H1
                   have H' := Aside0.mk H
                   clear H
                   go_wp2
                   go_meet
                   case rel => exact ⟨_, (x13_51), (0), (0), (zr), (zr), (zr), H', ⟨by have := HK1.out; have := HK2.out; have := HJ19.out; have := HK4.out; have := HJ45.out; have := HJ48.out; have := HJ51.out; first | omega | exact Nat.le_refl _⟩, ⟨by (with_reducible repeat (first | apply Kd.R_alloc | apply Kd.R_drewN | apply Kd.R_drew)); exact HO_3.out⟩, ⟨by (with_reducible repeat (first | apply Kd.R_alloc | apply Kd.R_drewN | apply Kd.R_drew)); exact HO_4.out⟩, ⟨by (with_reducible repeat (first | apply Kd.S_alloc | apply Kd.S_drewN | apply Kd.S_drew)); exact HO_7.out⟩, ⟨by (with_reducible repeat (first | apply Kd.R_alloc | apply Kd.R_drewN | apply Kd.R_drew)); exact HO_8.out⟩, ⟨by (with_reducible repeat (first | apply Kd.R_alloc | apply Kd.R_drewN | apply Kd.R_drew)); exact HO_9.out⟩, ⟨zb BK355.out⟩, ⟨zw1 HB.out GE355.out⟩⟩
                  subst c55
                  have H1 : (if 0 ≤ x11_4 then (if x11_4 < (t372.length : Int) then (if x11_4 < (t375.length : Int) then (cellarlaw7_LaySizes.j7 kj51 t357 y363 x5_1 x6_2 t367 t372 t375 t378 x11_4 true 0 (rd t372 x11_4) (rd t375 x11_4) l0_0 l0_1 l0_2 l0_3) else (none)) else (none)) else (none)) = some r := by rw [if_pos rfl] at H; exact H
                  clear H
                  have H := H1
                  clear H1
                  by_cases c56 : 0 ≤ x11_4
                  rotate_left
                  ·rw [if_neg c56] at H
                   exact absurd H (by simp)
                  rw [if_pos c56] at H
                  have c56b0 : decide (0 ≤ x11_4) = true := decide_eq_true c56
                  clear c56
                  (first | rw [c56b0] | (simp only [i64_w, i32_w]; rw [c56b0]) | skip)
                  by_cases c57 : x11_4 < (t372.length : Int)
                  rotate_left
                  ·rw [if_neg c57] at H
                   exact absurd H (by simp)
                  rw [if_pos c57] at H
                  have c57b0 : decide (x11_4 < (t372.length : Int)) = true := decide_eq_true c57
                  clear c57
                  by_cases c58 : x11_4 < (t375.length : Int)
                  rotate_left
                  ·rw [if_neg c58] at H
                   exact absurd H (by simp)
                  rw [if_pos c58] at H
                  have c58b0 : decide (x11_4 < (t375.length : Int)) = true := decide_eq_true c58
                  clear c58
                  have H' := Aside0.mk H
                  clear H
                  try go_wp2
                  have n0_ := Aside0.mk (Kd.R_drew HO_3.out)
                  have n1_ := Aside0.mk (Kd.R_drew HO_4.out)
                  have n2_ := Aside0.mk (Kd.S_drew HO_7.out)
                  have n3_ := Aside0.mk (Kd.R_drew HO_8.out)
                  have n4_ := Aside0.mk (Kd.R_drew HO_9.out)
                  have n5_ := Aside0.mk (blk_drew BK355.out)
                  have n6_ := Aside0.mk (below_drew1 HB.out)
                  clear HO_3
                  clear HO_4
                  clear HO_7
                  clear HO_8
                  clear HO_9
                  clear BK355
                  clear HB
                  have HO_3 := n0_
                  have HO_4 := n1_
                  have HO_7 := n2_
                  have HO_8 := n3_
                  have HO_9 := n4_
                  have BK355 := n5_
                  have HB := n6_
                  clear n0_ n1_ n2_ n3_ n4_ n5_ n6_
                  obtain ⟨Ao60, co60, eo60⟩ := Kd.R_slice HO_8.out
                  (first | subst eo60 | (injection eo60 with f1_ f2_ f3_; have f4_ := f1_.symm; have f5_ := f3_.symm; clear f1_ f2_ f3_; subst f4_; subst f5_))
                  have p383 : 0 ≤ (x11_4 : Int) := zdec
                  have q383 : x11_4 < (t372.length : Int) := zdec
                  obtain ⟨ad383, e383, hx383_0⟩ := Kd.at_int (Kd.R_reads' HO_8.out).2.2 x11_4 p383 q383
                  cases e383
                  replace p383 := eq_true p383
                  replace q383 := eq_true q383
                  obtain ⟨Ao61, co61, eo61⟩ := Kd.R_slice HO_9.out
                  (first | subst eo61 | (injection eo61 with f1_ f2_ f3_; have f4_ := f1_.symm; have f5_ := f3_.symm; clear f1_ f2_ f3_; subst f4_; subst f5_))
                  have p384 : 0 ≤ (x11_4 : Int) := zdec
                  have q384 : x11_4 < (t375.length : Int) := zdec
                  obtain ⟨ad384, e384, hx384_0⟩ := Kd.at_int (Kd.R_reads' HO_9.out).2.2 x11_4 p384 q384
                  cases e384
                  replace p384 := eq_true p384
                  replace q384 := eq_true q384
                  refine start_ (n := 11) (S := fun w' => w'.cell? (ad383.add (x11_4).toNat) = some (.int .i64 (rd t372 x11_4)) ∧ w'.cell? (ad384.add (x11_4).toNat) = some (.int .i64 (rd t375 x11_4))) (ds := []) cellarlaw7_LaySizes.b18 (by kernel_rfl) rfl rfl ⟨hx383_0, hx384_0⟩ (fun hHeld => ?_); refine with_tabW cellarlaw7_LaySizes.tab23 cellarlaw7_LaySizes.bits23 (fun HT_ HW_ => ?_)
                  generalize wc.drew = w59 at HO_3 HO_4 HO_7 HO_8 HO_9 BK355 HB hx383_0 hx384_0 hHeld ⊢
                  refine zq 0 (some 108) HT_ ?_; refine zq 1 (some 109) HT_ ?_; refine zq 2 (some 110) HT_ ?_; refine zq 4 (some 112) HT_ ?_; refine zq 5 (some 113) HT_ ?_; refine zq 6 (some 114) HT_ ?_; refine zq 8 (some 13) HT_ ?_; refine zt 3 (some 111) HT_ HW_ hHeld ?_; refine zq 9 (some 14) HT_ ?_; refine zt 7 (some 115) HT_ HW_ hHeld ?_; refine zq 10 (some 15) HT_ ?_
                  refine done_ (done_of HT_.out (by kernel_rfl)) ?_
                  try go_wp2
                  go_meet
                  case rel => exact ⟨_, (0), (rd t372 x11_4), (rd t375 x11_4), (zr), (zr), (zr), H', ⟨by have := HK1.out; have := HK2.out; have := HJ19.out; have := HK4.out; have := HJ45.out; have := HJ48.out; have := HJ51.out; first | omega | exact Nat.le_refl _⟩, ⟨by (with_reducible repeat (first | apply Kd.R_alloc | apply Kd.R_drewN | apply Kd.R_drew)); exact HO_3.out⟩, ⟨by (with_reducible repeat (first | apply Kd.R_alloc | apply Kd.R_drewN | apply Kd.R_drew)); exact HO_4.out⟩, ⟨by (with_reducible repeat (first | apply Kd.S_alloc | apply Kd.S_drewN | apply Kd.S_drew)); exact HO_7.out⟩, ⟨by (with_reducible repeat (first | apply Kd.R_alloc | apply Kd.R_drewN | apply Kd.R_drew)); exact HO_8.out⟩, ⟨by (with_reducible repeat (first | apply Kd.R_alloc | apply Kd.R_drewN | apply Kd.R_drew)); exact HO_9.out⟩, ⟨zb BK355.out⟩, ⟨zw1 HB.out GE355.out⟩⟩
                 case rest => as_aux_lemma =>
                  clear HC54
                  try clear c1; try clear c2; try clear p2; try clear c3; try clear p3; try clear q3; try clear c4; try clear c5; try clear p6; try clear c8; try clear c11; try clear c12; try clear c14; try clear c15; try clear c16; try clear c17; try clear c18; try clear c18b0; try clear c21; try clear c21b0; try clear c24; try clear c25; try clear c25b0; try clear c26; try clear c26b0; try clear c28; try clear c28b0; try clear c29; try clear c29b0; try clear c33; try clear c33b0; try clear c33b1; try clear c33b2; try clear c36; try clear p36; try clear q36; try clear c37; try clear p37; try clear q37; try clear p38; try clear q38; try clear c47; try clear c47b0; try clear c48; try clear c50; try clear c53; try clear c55; try clear c56; try clear c56b0; try clear c57; try clear c57b0; try clear c58; try clear c58b0; try clear p2; try clear p3; try clear p36; try clear p366; try clear p37; try clear p370; try clear p371; try clear p379; try clear p383; try clear p384; try clear p6; try clear q3; try clear q36; try clear q366; try clear q37; try clear q370; try clear q371; try clear q379; try clear q383; try clear q384
                  obtain ⟨kq, x13_53, x14_53, x15_53, rfl, rfl, rfl, HA, HJ53, HO_3, HO_4, HO_7, HO_8, HO_9, BK355, HB⟩ := hcut
                  cases kq with
                  | zero => exact absurd HA.out (by simp [cellarlaw7_LaySizes.j7])
                  | succ kj53 =>
                   have H := HA.out
                   clear HA
                   simp only [cellarlaw7_LaySizes.j7] at H
                   by_cases c62 : 0 ≤ x5_1
                   rotate_left
                   ·rw [if_neg c62] at H
                    exact absurd H (by simp)
                   rw [if_pos c62] at H
                   have c62b0 : decide (0 ≤ x5_1) = true := decide_eq_true c62
                   clear c62
                   by_cases c63 : x5_1 < (t357.length : Int)
                   rotate_left
                   ·rw [if_neg c63] at H
                    exact absurd H (by simp)
                   rw [if_pos c63] at H
                   have c63b0 : decide (x5_1 < (t357.length : Int)) = true := decide_eq_true c63
                   clear c63
                   replace H := Option.bind_eq_some_iff.mp H
                   obtain ⟨⟨t386, t387⟩, A640, H⟩ := H
                   replace H : ((lay_Align.f kj53 ((rd_T29 t357 x5_1).f0) ((rd_T29 t357 x5_1).f1) t367 x11_4).bind fun bt389 => ((cellarlaw7_num.f t387).bind fun t391 => (if t391 = x13_53 then ((cellarlaw7_num.f bt389.2).bind fun t392 => (if t392 = x13_53 then (if t386 = x14_53 then (cellarlaw7_LaySizes.j8 kj53 t357 y363 x5_1 x6_2 t367 t372 t375 t378 x11_4 x12_48 x13_53 (bt389.1 != x15_53) l0_0 l0_1 l0_2 l0_3) else (cellarlaw7_LaySizes.j8 kj53 t357 y363 x5_1 x6_2 t367 t372 t375 t378 x11_4 x12_48 x13_53 true l0_0 l0_1 l0_2 l0_3)) else (cellarlaw7_LaySizes.j8 kj53 t357 y363 x5_1 x6_2 t367 t372 t375 t378 x11_4 x12_48 x13_53 true l0_0 l0_1 l0_2 l0_3))) else (cellarlaw7_LaySizes.j8 kj53 t357 y363 x5_1 x6_2 t367 t372 t375 t378 x11_4 x12_48 x13_53 true l0_0 l0_1 l0_2 l0_3)))) = some r := H
                   have A64 := Aside0.mk A640
                   clear A640
                   replace H := Option.bind_eq_some_iff.mp H
                   obtain ⟨⟨t389, t390⟩, A650, H⟩ := H
                   replace H : ((cellarlaw7_num.f t387).bind fun t391 => (if t391 = x13_53 then ((cellarlaw7_num.f t390).bind fun t392 => (if t392 = x13_53 then (if t386 = x14_53 then (cellarlaw7_LaySizes.j8 kj53 t357 y363 x5_1 x6_2 t367 t372 t375 t378 x11_4 x12_48 x13_53 (t389 != x15_53) l0_0 l0_1 l0_2 l0_3) else (cellarlaw7_LaySizes.j8 kj53 t357 y363 x5_1 x6_2 t367 t372 t375 t378 x11_4 x12_48 x13_53 true l0_0 l0_1 l0_2 l0_3)) else (cellarlaw7_LaySizes.j8 kj53 t357 y363 x5_1 x6_2 t367 t372 t375 t378 x11_4 x12_48 x13_53 true l0_0 l0_1 l0_2 l0_3))) else (cellarlaw7_LaySizes.j8 kj53 t357 y363 x5_1 x6_2 t367 t372 t375 t378 x11_4 x12_48 x13_53 true l0_0 l0_1 l0_2 l0_3))) = some r := H
                   have A65 := Aside0.mk A650
                   clear A650
                   have HC66 := Aside0.mk H
                   clear H
                   have p385 : 0 ≤ (x5_1 : Int) := zdec
                   have q385 : x5_1 < (t357.length : Int) := zdec
                   obtain ⟨ad385, e385, hx385_0, hx385_1⟩ := at_T29 (Kd.R_reads' HO_3.out).2.2 x5_1 p385 q385
                   obtain rfl : ad370 = ad385 := (by injection e385)
                   replace p385 := eq_true p385
                   replace q385 := eq_true q385
                   go_upto_region 26 with (first | ((with_reducible refine gate_callee (f := 19) rfl ?_); refine zgo (some 123) Try.func19 #[.agg #[.bool ((rd_T29 t357 x5_1).f0), .int .i64 ((rd_T29 t357 x5_1).f1)], .slice Ao44 t367.length co44, .int .i64 x11_4] ?_; (with_reducible refine (lay_Size.calls kj53 ((rd_T29 t357 x5_1).f0) ((rd_T29 t357 x5_1).f1) _ _ t367 x11_4 t386 t387 _ ?side1 ?side2 A64.out).mono ?_); (case side1 => repeat (first | exact (Kd.S_reads' HO_7.out).2.2 | (with_reducible refine Kd.C_alloc ?_ _) | (with_reducible refine Kd.C_drewN ?_ _) | (with_reducible refine Kd.C_drew ?_))); (case side2 => exact (Kd.S_reads' HO_7.out).2.1); rintro e w67 ⟨rfl, hb⟩; refine ⟨_, rfl, ?_⟩; have n0_ := Aside0.mk (Kd.R_below (by (with_reducible repeat (first | apply Kd.R_alloc | apply Kd.R_drewN | apply Kd.R_drew)); exact HO_3.out) hb); have n1_ := Aside0.mk (Kd.R_below (by (with_reducible repeat (first | apply Kd.R_alloc | apply Kd.R_drewN | apply Kd.R_drew)); exact HO_4.out) hb); have n2_ := Aside0.mk (Kd.S_below (by (with_reducible repeat (first | apply Kd.S_alloc | apply Kd.S_drewN | apply Kd.S_drew)); exact HO_7.out) hb); have n3_ := Aside0.mk (Kd.R_below (by (with_reducible repeat (first | apply Kd.R_alloc | apply Kd.R_drewN | apply Kd.R_drew)); exact HO_8.out) hb); have n4_ := Aside0.mk (Kd.R_below (by (with_reducible repeat (first | apply Kd.R_alloc | apply Kd.R_drewN | apply Kd.R_drew)); exact HO_9.out) hb); have n5_ := Aside0.mk (zbb BK355.out hb); have n6_ := Aside0.mk (below_step (zw1 HB.out GE355.out) hb); clear HO_3 HO_4 HO_7 HO_8 HO_9 BK355 HB; have HO_3 := n0_; have HO_4 := n1_; have HO_7 := n2_; have HO_8 := n3_; have HO_9 := n4_; have BK355 := n5_; have HB := n6_; clear n0_ n1_ n2_ n3_ n4_ n5_ n6_; (try clear hb); (try clear hb2); (try clear hk); (try clear hi); have p388 : 0 ≤ (x5_1 : Int) := zdec; have q388 : x5_1 < (t357.length : Int) := zdec; obtain ⟨ad388, e388, hx388_0, hx388_1⟩ := at_T29 (Kd.R_reads' HO_3.out).2.2 x5_1 p388 q388; obtain rfl : ad370 = ad388 := (by injection e388); replace p388 := eq_true p388; replace q388 := eq_true q388) | ((with_reducible refine gate_callee (f := 20) rfl ?_); refine zgo (some 133) Try.func20 #[.agg #[.bool ((rd_T29 t357 x5_1).f0), .int .i64 ((rd_T29 t357 x5_1).f1)], .slice Ao44 t367.length co44, .int .i64 x11_4] ?_; (with_reducible refine (lay_Align.calls kj53 ((rd_T29 t357 x5_1).f0) ((rd_T29 t357 x5_1).f1) _ _ t367 x11_4 t389 t390 _ ?side1 ?side2 A65.out).mono ?_); (case side1 => repeat (first | exact (Kd.S_reads' HO_7.out).2.2 | (with_reducible refine Kd.C_alloc ?_ _) | (with_reducible refine Kd.C_drewN ?_ _) | (with_reducible refine Kd.C_drew ?_))); (case side2 => exact (Kd.S_reads' HO_7.out).2.1); rintro e w68 ⟨rfl, hb⟩; refine ⟨_, rfl, ?_⟩; have n0_ := Aside0.mk (Kd.R_below (by (with_reducible repeat (first | apply Kd.R_alloc | apply Kd.R_drewN | apply Kd.R_drew)); exact HO_3.out) hb); have n1_ := Aside0.mk (Kd.R_below (by (with_reducible repeat (first | apply Kd.R_alloc | apply Kd.R_drewN | apply Kd.R_drew)); exact HO_4.out) hb); have n2_ := Aside0.mk (Kd.S_below (by (with_reducible repeat (first | apply Kd.S_alloc | apply Kd.S_drewN | apply Kd.S_drew)); exact HO_7.out) hb); have n3_ := Aside0.mk (Kd.R_below (by (with_reducible repeat (first | apply Kd.R_alloc | apply Kd.R_drewN | apply Kd.R_drew)); exact HO_8.out) hb); have n4_ := Aside0.mk (Kd.R_below (by (with_reducible repeat (first | apply Kd.R_alloc | apply Kd.R_drewN | apply Kd.R_drew)); exact HO_9.out) hb); have n5_ := Aside0.mk (zbb BK355.out hb); have n6_ := Aside0.mk (below_step (zw1 HB.out GE355.out) hb); clear HO_3 HO_4 HO_7 HO_8 HO_9 BK355 HB; have HO_3 := n0_; have HO_4 := n1_; have HO_7 := n2_; have HO_8 := n3_; have HO_9 := n4_; have BK355 := n5_; have HB := n6_; clear n0_ n1_ n2_ n3_ n4_ n5_ n6_; (try clear hb); (try clear hb2); (try clear hk); (try clear hi)))
                   (try simp only [Act.put, List.setIfInBounds_toArray, List.set_cons_zero, List.set_cons_succ])
                   go_cut [155] (fun v155 wc => ∃ (kq : Nat) (x155_65 : Bool), v155 = .bool x155_65 ∧ Aside0 (cellarlaw7_LaySizes.j8 kq t357 y363 x5_1 x6_2 t367 t372 t375 t378 x11_4 x12_48 x13_53 x155_65 l0_0 l0_1 l0_2 l0_3 = some r) ∧ Aside0 (kq ≤ kj53) ∧ Aside0 (Kd.R k29 29 wc w.heap.size (fun _ => True) (.slice (some ad370) t357.length co19) t357) ∧ Aside0 (Kd.R Kd.string 9 wc w.heap.size (fun _ => True) v364 y363) ∧ Aside0 (Kd.S k31 31 wc w.heap.size (fun k_ => some k_ ≠ (v364 : Value).ownBlock ∧ some k_ ≠ (v373 : Value).ownBlock ∧ some k_ ≠ (v376 : Value).ownBlock) (.slice Ao44 t367.length co44) t367) ∧ Aside0 (Kd.R (Kd.int .i64) 3 wc w.heap.size (fun k_ => some k_ ≠ (v376 : Value).ownBlock) v373 t372) ∧ Aside0 (Kd.R (Kd.int .i64) 3 wc w.heap.size (fun k_ => some k_ ≠ (v373 : Value).ownBlock) v376 t375) ∧ Aside0 (wc.heap[gb355]? = some (.cells #[(.slice A0_0 l0_0.length c0_0), (.slice (some ad366) l0_1.length c0_1), (.slice A0_2 l0_2.length c0_2), (.slice A0_3 l0_3.length c0_3)] 27 (0, 0))) ∧ Aside0 (Below w.heap.size w wc))
                   case first => as_aux_lemma =>
                    have H := HC66.out
                    clear HC66
                    replace H := Option.bind_eq_some_iff.mp H
                    obtain ⟨t391, A690, H⟩ := H
                    replace H : (if t391 = x13_53 then ((cellarlaw7_num.f t390).bind fun t392 => (if t392 = x13_53 then (if t386 = x14_53 then (cellarlaw7_LaySizes.j8 kj53 t357 y363 x5_1 x6_2 t367 t372 t375 t378 x11_4 x12_48 x13_53 (t389 != x15_53) l0_0 l0_1 l0_2 l0_3) else (cellarlaw7_LaySizes.j8 kj53 t357 y363 x5_1 x6_2 t367 t372 t375 t378 x11_4 x12_48 x13_53 true l0_0 l0_1 l0_2 l0_3)) else (cellarlaw7_LaySizes.j8 kj53 t357 y363 x5_1 x6_2 t367 t372 t375 t378 x11_4 x12_48 x13_53 true l0_0 l0_1 l0_2 l0_3))) else (cellarlaw7_LaySizes.j8 kj53 t357 y363 x5_1 x6_2 t367 t372 t375 t378 x11_4 x12_48 x13_53 true l0_0 l0_1 l0_2 l0_3)) = some r := H
                    have A69 := Aside0.mk A690
                    clear A690
                    by_cases c70 : t391 = x13_53
                    rotate_left
                    ·rw [if_neg c70] at H
                     have c70b0 : (t391 == x13_53) = false := beq_eq_false_iff_ne.mpr c70
                     have c70b1 : (t391 != x13_53) = true := bne_iff_ne.mpr c70
                     (first | rw [c70b0] | (simp only [i64_w, i32_w]; rw [c70b0]) | skip)
                     have H' := Aside0.mk H
                     clear H
                     go_wp2_with (first | ((with_reducible refine gate_callee (f := 11) rfl ?_); refine zgo (some 137) Try.func11 #[.int .i64 t387] ?_; (with_reducible refine (cellarlaw7_num.calls t387 t391 _ A69.out).mono ?_); rintro e w' ⟨rfl, ⟨nd, rfl⟩⟩; refine ⟨_, rfl, ?_⟩))
                     go_meet
                     case rel => exact ⟨_, (true), (zr), H', ⟨by have := HK1.out; have := HK2.out; have := HJ19.out; have := HK4.out; have := HJ45.out; have := HJ48.out; have := HJ51.out; have := HJ53.out; first | omega | exact Nat.le_refl _⟩, ⟨by (with_reducible repeat (first | apply Kd.R_alloc | apply Kd.R_drewN | apply Kd.R_drew)); exact HO_3.out⟩, ⟨by (with_reducible repeat (first | apply Kd.R_alloc | apply Kd.R_drewN | apply Kd.R_drew)); exact HO_4.out⟩, ⟨by (with_reducible repeat (first | apply Kd.S_alloc | apply Kd.S_drewN | apply Kd.S_drew)); exact HO_7.out⟩, ⟨by (with_reducible repeat (first | apply Kd.R_alloc | apply Kd.R_drewN | apply Kd.R_drew)); exact HO_8.out⟩, ⟨by (with_reducible repeat (first | apply Kd.R_alloc | apply Kd.R_drewN | apply Kd.R_drew)); exact HO_9.out⟩, ⟨zb BK355.out⟩, ⟨zw1 HB.out GE355.out⟩⟩
                    rw [if_pos c70] at H
                    have c70b0 : (t391 == x13_53) = true := beq_iff_eq.mpr c70
                    have c70b1 : (t391 != x13_53) = false := bne_eq_false_iff_eq.mpr c70
                    clear c70
                    (first | rw [c70b0] | (simp only [i64_w, i32_w]; rw [c70b0]) | skip)
                    replace H := Option.bind_eq_some_iff.mp H
                    obtain ⟨t392, A710, H⟩ := H
                    replace H : (if t392 = x13_53 then (if t386 = x14_53 then (cellarlaw7_LaySizes.j8 kj53 t357 y363 x5_1 x6_2 t367 t372 t375 t378 x11_4 x12_48 x13_53 (t389 != x15_53) l0_0 l0_1 l0_2 l0_3) else (cellarlaw7_LaySizes.j8 kj53 t357 y363 x5_1 x6_2 t367 t372 t375 t378 x11_4 x12_48 x13_53 true l0_0 l0_1 l0_2 l0_3)) else (cellarlaw7_LaySizes.j8 kj53 t357 y363 x5_1 x6_2 t367 t372 t375 t378 x11_4 x12_48 x13_53 true l0_0 l0_1 l0_2 l0_3)) = some r := H
                    have A71 := Aside0.mk A710
                    clear A710
                    by_cases c72 : t392 = x13_53
                    rotate_left
                    ·rw [if_neg c72] at H
                     have c72b0 : (t392 == x13_53) = false := beq_eq_false_iff_ne.mpr c72
                     have c72b1 : (t392 != x13_53) = true := bne_iff_ne.mpr c72
                     have H' := Aside0.mk H
                     clear H
                     go_wp2_with (first | ((with_reducible refine gate_callee (f := 11) rfl ?_); refine zgo (some 137) Try.func11 #[.int .i64 t387] ?_; (with_reducible refine (cellarlaw7_num.calls t387 t391 _ A69.out).mono ?_); rintro e w' ⟨rfl, ⟨nd, rfl⟩⟩; refine ⟨_, rfl, ?_⟩) | (go_at_call 11; (with_reducible refine (cellarlaw7_num.calls t390 t392 _ A71.out).mono ?_); rintro e w' ⟨rfl, ⟨nd, rfl⟩⟩))
                     go_meet
                     case rel => exact ⟨_, (true), (zr), H', ⟨by have := HK1.out; have := HK2.out; have := HJ19.out; have := HK4.out; have := HJ45.out; have := HJ48.out; have := HJ51.out; have := HJ53.out; first | omega | exact Nat.le_refl _⟩, ⟨by (with_reducible repeat (first | apply Kd.R_alloc | apply Kd.R_drewN | apply Kd.R_drew)); exact HO_3.out⟩, ⟨by (with_reducible repeat (first | apply Kd.R_alloc | apply Kd.R_drewN | apply Kd.R_drew)); exact HO_4.out⟩, ⟨by (with_reducible repeat (first | apply Kd.S_alloc | apply Kd.S_drewN | apply Kd.S_drew)); exact HO_7.out⟩, ⟨by (with_reducible repeat (first | apply Kd.R_alloc | apply Kd.R_drewN | apply Kd.R_drew)); exact HO_8.out⟩, ⟨by (with_reducible repeat (first | apply Kd.R_alloc | apply Kd.R_drewN | apply Kd.R_drew)); exact HO_9.out⟩, ⟨zb BK355.out⟩, ⟨zw1 HB.out GE355.out⟩⟩
                    rw [if_pos c72] at H
                    have c72b0 : (t392 == x13_53) = true := beq_iff_eq.mpr c72
                    have c72b1 : (t392 != x13_53) = false := bne_eq_false_iff_eq.mpr c72
                    clear c72
                    by_cases c73 : t386 = x14_53
                    rotate_left
                    ·rw [if_neg c73] at H
                     have c73b0 : (t386 == x14_53) = false := beq_eq_false_iff_ne.mpr c73
                     have c73b1 : (t386 != x14_53) = true := bne_iff_ne.mpr c73
                     have H' := Aside0.mk H
                     clear H
                     go_wp2_with (first | ((with_reducible refine gate_callee (f := 11) rfl ?_); refine zgo (some 137) Try.func11 #[.int .i64 t387] ?_; (with_reducible refine (cellarlaw7_num.calls t387 t391 _ A69.out).mono ?_); rintro e w' ⟨rfl, ⟨nd, rfl⟩⟩; refine ⟨_, rfl, ?_⟩) | (go_at_call 11; (with_reducible refine (cellarlaw7_num.calls t390 t392 _ A71.out).mono ?_); rintro e w' ⟨rfl, ⟨nd, rfl⟩⟩))
                     go_meet
                     case rel => exact ⟨_, (true), (zr), H', ⟨by have := HK1.out; have := HK2.out; have := HJ19.out; have := HK4.out; have := HJ45.out; have := HJ48.out; have := HJ51.out; have := HJ53.out; first | omega | exact Nat.le_refl _⟩, ⟨by (with_reducible repeat (first | apply Kd.R_alloc | apply Kd.R_drewN | apply Kd.R_drew)); exact HO_3.out⟩, ⟨by (with_reducible repeat (first | apply Kd.R_alloc | apply Kd.R_drewN | apply Kd.R_drew)); exact HO_4.out⟩, ⟨by (with_reducible repeat (first | apply Kd.S_alloc | apply Kd.S_drewN | apply Kd.S_drew)); exact HO_7.out⟩, ⟨by (with_reducible repeat (first | apply Kd.R_alloc | apply Kd.R_drewN | apply Kd.R_drew)); exact HO_8.out⟩, ⟨by (with_reducible repeat (first | apply Kd.R_alloc | apply Kd.R_drewN | apply Kd.R_drew)); exact HO_9.out⟩, ⟨zb BK355.out⟩, ⟨zw1 HB.out GE355.out⟩⟩
                    rw [if_pos c73] at H
                    have c73b0 : (t386 == x14_53) = true := beq_iff_eq.mpr c73
                    have c73b1 : (t386 != x14_53) = false := bne_eq_false_iff_eq.mpr c73
                    clear c73
                    have H' := Aside0.mk H
                    clear H
                    go_wp2_with (first | ((with_reducible refine gate_callee (f := 11) rfl ?_); refine zgo (some 137) Try.func11 #[.int .i64 t387] ?_; (with_reducible refine (cellarlaw7_num.calls t387 t391 _ A69.out).mono ?_); rintro e w' ⟨rfl, ⟨nd, rfl⟩⟩; refine ⟨_, rfl, ?_⟩) | (go_at_call 11; (with_reducible refine (cellarlaw7_num.calls t390 t392 _ A71.out).mono ?_); rintro e w' ⟨rfl, ⟨nd, rfl⟩⟩))
                    go_meet
                    case rel => exact ⟨_, ((t389 != x15_53)), (zr), H', ⟨by have := HK1.out; have := HK2.out; have := HJ19.out; have := HK4.out; have := HJ45.out; have := HJ48.out; have := HJ51.out; have := HJ53.out; first | omega | exact Nat.le_refl _⟩, ⟨by (with_reducible repeat (first | apply Kd.R_alloc | apply Kd.R_drewN | apply Kd.R_drew)); exact HO_3.out⟩, ⟨by (with_reducible repeat (first | apply Kd.R_alloc | apply Kd.R_drewN | apply Kd.R_drew)); exact HO_4.out⟩, ⟨by (with_reducible repeat (first | apply Kd.S_alloc | apply Kd.S_drewN | apply Kd.S_drew)); exact HO_7.out⟩, ⟨by (with_reducible repeat (first | apply Kd.R_alloc | apply Kd.R_drewN | apply Kd.R_drew)); exact HO_8.out⟩, ⟨by (with_reducible repeat (first | apply Kd.R_alloc | apply Kd.R_drewN | apply Kd.R_drew)); exact HO_9.out⟩, ⟨zb BK355.out⟩, ⟨zw1 HB.out GE355.out⟩⟩
                   case rest => as_aux_lemma =>
                    clear HC66
                    try clear c1; try clear c2; try clear p2; try clear c3; try clear p3; try clear q3; try clear c4; try clear c5; try clear c6; try clear p6; try clear c7; try clear c8; try clear c11; try clear c12; try clear c14; try clear c15; try clear c16; try clear c17; try clear c18; try clear c18b0; try clear c19; try clear c20; try clear c21; try clear c21b0; try clear c24; try clear c25; try clear c25b0; try clear c26; try clear c26b0; try clear c28; try clear c28b0; try clear c29; try clear c29b0; try clear c33; try clear c33b0; try clear c33b1; try clear c33b2; try clear c36; try clear p36; try clear q36; try clear c37; try clear p37; try clear q37; try clear p38; try clear q38; try clear c47; try clear c47b0; try clear c48; try clear c50; try clear c53; try clear c55; try clear c56; try clear c56b0; try clear c57; try clear c57b0; try clear c58; try clear c58b0; try clear c62; try clear c62b0; try clear c63; try clear c63b0; try clear c70; try clear c70b0; try clear c70b1; try clear c72; try clear c72b0; try clear c72b1; try clear c73; try clear c73b0; try clear c73b1; try clear p2; try clear p3; try clear p36; try clear p366; try clear p37; try clear p370; try clear p371; try clear p379; try clear p38; try clear p383; try clear p384; try clear p385; try clear p388; try clear p6; try clear q3; try clear q36; try clear q366; try clear q37; try clear q370; try clear q371; try clear q379; try clear q38; try clear q383; try clear q384; try clear q385; try clear q388
                    obtain ⟨kq, x155_65, rfl, HA, HJ65, HO_3, HO_4, HO_7, HO_8, HO_9, BK355, HB⟩ := hcut
                    cases kq with
                    | zero => exact absurd HA.out (by simp [cellarlaw7_LaySizes.j8])
                    | succ kj65 =>
                     have H := HA.out
                     clear HA
                     simp only [cellarlaw7_LaySizes.j8] at H
                     by_cases c74 : x155_65 = true
                     ·subst c74
                      have H1 : (some false) = some r := by rw [if_pos rfl] at H; exact H
                      clear H
                      have H := H1
                      clear H1
                      obtain rfl := Option.some.inj H
                      go_wp2
                      go_ret
                      exact ⟨ze, zw1 HB.out GE355.out⟩
                     replace c74 := Bool.eq_false_iff.mpr c74
                     subst c74
                     have H1 : (cellarlaw7_LaySizes.l3 kj65 t357 y363 x5_1 x6_2 t367 t372 t375 t378 x11_4 x12_48 x13_53 0 l0_0 l0_1 l0_2 l0_3) = some r := by rw [if_neg (show ¬ (false = true) by decide)] at H; exact H
                     clear H
                     have H := H1
                     clear H1
                     have H' := Aside0.mk H
                     clear H
                     go_wp2
                     go_loopg [20] kj65 (fun kq v20 w' => ∃ (x20_10 : Int), v20 = .int .i64 x20_10 ∧ Aside0 (cellarlaw7_LaySizes.l3 kq t357 y363 x5_1 x6_2 t367 t372 t375 t378 x11_4 x12_48 x13_53 x20_10 l0_0 l0_1 l0_2 l0_3 = some r) ∧ Aside0 (kq ≤ kj65) ∧ Aside0 (Kd.R k29 29 w' w.heap.size (fun _ => True) (.slice (some ad370) t357.length co19) t357) ∧ Aside0 (Kd.R Kd.string 9 w' w.heap.size (fun _ => True) v364 y363) ∧ Aside0 (Kd.S k31 31 w' w.heap.size (fun k_ => some k_ ≠ (v364 : Value).ownBlock ∧ some k_ ≠ (v373 : Value).ownBlock ∧ some k_ ≠ (v376 : Value).ownBlock) (.slice Ao44 t367.length co44) t367) ∧ Aside0 (Kd.R (Kd.int .i64) 3 w' w.heap.size (fun k_ => some k_ ≠ (v376 : Value).ownBlock) v373 t372) ∧ Aside0 (Kd.R (Kd.int .i64) 3 w' w.heap.size (fun k_ => some k_ ≠ (v373 : Value).ownBlock) v376 t375) ∧ Aside0 (w'.heap[gb355]? = some (.cells #[(.slice A0_0 l0_0.length c0_0), (.slice (some ad366) l0_1.length c0_1), (.slice A0_2 l0_2.length c0_2), (.slice A0_3 l0_3.length c0_3)] 27 (0, 0))) ∧ Aside0 (Below w.heap.size w w'))
                     case atStart => exact ⟨(0), (zr), H', ⟨Nat.le_refl _⟩, ⟨by (with_reducible repeat (first | apply Kd.R_alloc | apply Kd.R_drewN | apply Kd.R_drew)); exact HO_3.out⟩, ⟨by (with_reducible repeat (first | apply Kd.R_alloc | apply Kd.R_drewN | apply Kd.R_drew)); exact HO_4.out⟩, ⟨by (with_reducible repeat (first | apply Kd.S_alloc | apply Kd.S_drewN | apply Kd.S_drew)); exact HO_7.out⟩, ⟨by (with_reducible repeat (first | apply Kd.R_alloc | apply Kd.R_drewN | apply Kd.R_drew)); exact HO_8.out⟩, ⟨by (with_reducible repeat (first | apply Kd.R_alloc | apply Kd.R_drewN | apply Kd.R_drew)); exact HO_9.out⟩, ⟨zb BK355.out⟩, ⟨zw1 HB.out GE355.out⟩⟩
                     case round => as_aux_lemma =>
                      clear H'
                      try clear c1; try clear c2; try clear p2; try clear c3; try clear p3; try clear q3; try clear c4; try clear c5; try clear c6; try clear p6; try clear c7; try clear c8; try clear c11; try clear c12; try clear c14; try clear c15; try clear c16; try clear c17; try clear c18; try clear c18b0; try clear c19; try clear c20; try clear c21; try clear c21b0; try clear c24; try clear c25; try clear c25b0; try clear c26; try clear c26b0; try clear c28; try clear c28b0; try clear c29; try clear c29b0; try clear c33; try clear c33b0; try clear c33b1; try clear c33b2; try clear c36; try clear p36; try clear q36; try clear c37; try clear p37; try clear q37; try clear p38; try clear q38; try clear c47; try clear c47b0; try clear c48; try clear c50; try clear c53; try clear c55; try clear c56; try clear c56b0; try clear c57; try clear c57b0; try clear c58; try clear c58b0; try clear c62; try clear c62b0; try clear c63; try clear c63b0; try clear c70; try clear c70b0; try clear c70b1; try clear c72; try clear c72b0; try clear c72b1; try clear c73; try clear c73b0; try clear c73b1; try clear c74; try clear p2; try clear p3; try clear p36; try clear p366; try clear p37; try clear p370; try clear p371; try clear p379; try clear p38; try clear p383; try clear p384; try clear p385; try clear p388; try clear p6; try clear q3; try clear q36; try clear q366; try clear q37; try clear q370; try clear q371; try clear q379; try clear q38; try clear q383; try clear q384; try clear q385; try clear q388
                      obtain ⟨x20_10, rfl, HA, HK10, HO_3, HO_4, HO_7, HO_8, HO_9, BK355, HB⟩ := hrel
                      cases gk with
                      | zero => exact absurd HA.out (by simp [cellarlaw7_LaySizes.l3])
                      | succ k10 =>
                       have H := HA.out
                       clear HA
                       simp only [cellarlaw7_LaySizes.l3] at H
                       have HC75 := Aside0.mk H
                       clear H
                       go_upto_region 29 with (fail)
                       go_cut [163] (fun v163 wc => ∃ (kq : Nat) (x163_74 : Bool), v163 = .bool x163_74 ∧ Aside0 (cellarlaw7_LaySizes.j10 kq t357 y363 x5_1 x6_2 t367 t372 t375 t378 x11_4 x12_48 x13_53 x20_10 x163_74 l0_0 l0_1 l0_2 l0_3 = some r) ∧ Aside0 (kq ≤ k10) ∧ Aside0 (Kd.R k29 29 wc w.heap.size (fun _ => True) (.slice (some ad370) t357.length co19) t357) ∧ Aside0 (Kd.R Kd.string 9 wc w.heap.size (fun _ => True) v364 y363) ∧ Aside0 (Kd.S k31 31 wc w.heap.size (fun k_ => some k_ ≠ (v364 : Value).ownBlock ∧ some k_ ≠ (v373 : Value).ownBlock ∧ some k_ ≠ (v376 : Value).ownBlock) (.slice Ao44 t367.length co44) t367) ∧ Aside0 (Kd.R (Kd.int .i64) 3 wc w.heap.size (fun k_ => some k_ ≠ (v376 : Value).ownBlock) v373 t372) ∧ Aside0 (Kd.R (Kd.int .i64) 3 wc w.heap.size (fun k_ => some k_ ≠ (v373 : Value).ownBlock) v376 t375) ∧ Aside0 (wc.heap[gb355]? = some (.cells #[(.slice A0_0 l0_0.length c0_0), (.slice (some ad366) l0_1.length c0_1), (.slice A0_2 l0_2.length c0_2), (.slice A0_3 l0_3.length c0_3)] 27 (0, 0))) ∧ Aside0 (Below w.heap.size w wc))
                       case first => as_aux_lemma =>
                        have H := HC75.out
                        clear HC75
                        by_cases c76 : x20_10 < (y363.length : Int)
                        rotate_left
                        ·rw [if_neg c76] at H
                         have c76b0 : decide (x20_10 < (y363.length : Int)) = false := decide_eq_false c76
                         clear c76
                         (first | rw [c76b0] | (simp only [i64_w, i32_w]; rw [c76b0]) | skip)
                         have H' := Aside0.mk H
                         clear H
                         obtain ⟨Ao78, co78, eo78⟩ := Kd.R_slice HO_4.out
                         subst eo78
                         go_wp2
                         go_meet
                         case rel => exact ⟨_, (false), (zr), H', ⟨by have := HK1.out; have := HK2.out; have := HJ19.out; have := HK4.out; have := HJ45.out; have := HJ48.out; have := HJ51.out; have := HJ53.out; have := HJ65.out; have := HK10.out; first | omega | exact Nat.le_refl _⟩, ⟨by (with_reducible repeat (first | apply Kd.R_alloc | apply Kd.R_drewN | apply Kd.R_drew)); exact HO_3.out⟩, ⟨by (with_reducible repeat (first | apply Kd.R_alloc | apply Kd.R_drewN | apply Kd.R_drew)); exact HO_4.out⟩, ⟨by (with_reducible repeat (first | apply Kd.S_alloc | apply Kd.S_drewN | apply Kd.S_drew)); exact HO_7.out⟩, ⟨by (with_reducible repeat (first | apply Kd.R_alloc | apply Kd.R_drewN | apply Kd.R_drew)); exact HO_8.out⟩, ⟨by (with_reducible repeat (first | apply Kd.R_alloc | apply Kd.R_drewN | apply Kd.R_drew)); exact HO_9.out⟩, ⟨zb BK355.out⟩, ⟨zw1 HB.out GE355.out⟩⟩
                        rw [if_pos c76] at H
                        have c76b0 : decide (x20_10 < (y363.length : Int)) = true := decide_eq_true c76
                        clear c76
                        (first | rw [c76b0] | (simp only [i64_w, i32_w]; rw [c76b0]) | skip)
                        have H' := Aside0.mk H
                        clear H
                        obtain ⟨Ao77, co77, eo77⟩ := Kd.R_slice HO_4.out
                        subst eo77
                        go_wp2
                        go_meet
                        case rel => exact ⟨_, (decide (x20_10 < 8)), (zr), H', ⟨by have := HK1.out; have := HK2.out; have := HJ19.out; have := HK4.out; have := HJ45.out; have := HJ48.out; have := HJ51.out; have := HJ53.out; have := HJ65.out; have := HK10.out; first | omega | exact Nat.le_refl _⟩, ⟨by (with_reducible repeat (first | apply Kd.R_alloc | apply Kd.R_drewN | apply Kd.R_drew)); exact HO_3.out⟩, ⟨by (with_reducible repeat (first | apply Kd.R_alloc | apply Kd.R_drewN | apply Kd.R_drew)); exact HO_4.out⟩, ⟨by (with_reducible repeat (first | apply Kd.S_alloc | apply Kd.S_drewN | apply Kd.S_drew)); exact HO_7.out⟩, ⟨by (with_reducible repeat (first | apply Kd.R_alloc | apply Kd.R_drewN | apply Kd.R_drew)); exact HO_8.out⟩, ⟨by (with_reducible repeat (first | apply Kd.R_alloc | apply Kd.R_drewN | apply Kd.R_drew)); exact HO_9.out⟩, ⟨zb BK355.out⟩, ⟨zw1 HB.out GE355.out⟩⟩
                       case rest => as_aux_lemma =>
                        clear HC75
                        try clear c1; try clear c2; try clear p2; try clear c3; try clear p3; try clear q3; try clear c4; try clear c5; try clear c6; try clear p6; try clear c7; try clear c8; try clear c11; try clear c12; try clear c14; try clear c15; try clear c16; try clear c17; try clear c18; try clear c18b0; try clear c19; try clear c20; try clear c21; try clear c21b0; try clear c24; try clear c25; try clear c25b0; try clear c26; try clear c26b0; try clear c28; try clear c28b0; try clear c29; try clear c29b0; try clear c33; try clear c33b0; try clear c33b1; try clear c33b2; try clear c36; try clear p36; try clear q36; try clear c37; try clear p37; try clear q37; try clear p38; try clear q38; try clear c47; try clear c47b0; try clear c48; try clear c50; try clear c53; try clear c55; try clear c56; try clear c56b0; try clear c57; try clear c57b0; try clear c58; try clear c58b0; try clear c62; try clear c62b0; try clear c63; try clear c63b0; try clear c70; try clear c70b0; try clear c70b1; try clear c72; try clear c72b0; try clear c72b1; try clear c73; try clear c73b0; try clear c73b1; try clear c74; try clear c76; try clear c76b0; try clear p2; try clear p3; try clear p36; try clear p366; try clear p37; try clear p370; try clear p371; try clear p379; try clear p38; try clear p383; try clear p384; try clear p385; try clear p388; try clear p6; try clear q3; try clear q36; try clear q366; try clear q37; try clear q370; try clear q371; try clear q379; try clear q38; try clear q383; try clear q384; try clear q385; try clear q388
                        obtain ⟨kq, x163_74, rfl, HA, HJ74, HO_3, HO_4, HO_7, HO_8, HO_9, BK355, HB⟩ := hcut
                        cases kq with
                        | zero => exact absurd HA.out (by simp [cellarlaw7_LaySizes.j10])
                        | succ kj74 =>
                         have H := HA.out
                         clear HA
                         simp only [cellarlaw7_LaySizes.j10] at H
                         by_cases c79 : x163_74 = true
                         ·subst c79
                          have H1 : (if 0 ≤ x5_1 then (if x5_1 < (t357.length : Int) then (if 0 ≤ x20_10 then (if x20_10 < (y363.length : Int) then ((lay_Field.f kj74 ((rd_T29 t357 x5_1).f0) ((rd_T29 t357 x5_1).f1) t367 x11_4 (rdOf ByteArray.empty y363 x20_10)).bind fun bt395 => (if x12_48 = true then ((cellarref7_Field.f kj74 ((rd_T29 t357 x5_1).f0) ((rd_T29 t357 x5_1).f1) t367 x11_4 (rdOf ByteArray.empty y363 x20_10)).bind fun bt400 => (cellarlaw7_LaySizes.j11 kj74 t357 y363 x5_1 x6_2 t367 t372 t375 t378 x11_4 x12_48 x13_53 x20_10 bt395.1 bt395.2.1 bt395.2.2 bt400.2.2 bt400.1 bt400.2.1 l0_0 l0_1 l0_2 l0_3)) else (cellarlaw7_LaySizes.j11 kj74 t357 y363 x5_1 x6_2 t367 t372 t375 t378 x11_4 x12_48 x13_53 x20_10 bt395.1 bt395.2.1 bt395.2.2 x13_53 0 0 l0_0 l0_1 l0_2 l0_3))) else (none)) else (none)) else (none)) else (none)) = some r := by rw [if_pos rfl] at H; exact H
                          clear H
                          have H := H1
                          clear H1
                          by_cases c80 : 0 ≤ x5_1
                          rotate_left
                          ·rw [if_neg c80] at H
                           exact absurd H (by simp)
                          rw [if_pos c80] at H
                          have c80b0 : decide (0 ≤ x5_1) = true := decide_eq_true c80
                          clear c80
                          by_cases c81 : x5_1 < (t357.length : Int)
                          rotate_left
                          ·rw [if_neg c81] at H
                           exact absurd H (by simp)
                          rw [if_pos c81] at H
                          have c81b0 : decide (x5_1 < (t357.length : Int)) = true := decide_eq_true c81
                          clear c81
                          by_cases c82 : 0 ≤ x20_10
                          rotate_left
                          ·rw [if_neg c82] at H
                           exact absurd H (by simp)
                          rw [if_pos c82] at H
                          have c82b0 : decide (0 ≤ x20_10) = true := decide_eq_true c82
                          clear c82
                          by_cases c83 : x20_10 < (y363.length : Int)
                          rotate_left
                          ·rw [if_neg c83] at H
                           exact absurd H (by simp)
                          rw [if_pos c83] at H
                          have c83b0 : decide (x20_10 < (y363.length : Int)) = true := decide_eq_true c83
                          clear c83
                          replace H := Option.bind_eq_some_iff.mp H
                          obtain ⟨⟨t395, t396, t397⟩, A840, H⟩ := H
                          replace H : (if x12_48 = true then ((cellarref7_Field.f kj74 ((rd_T29 t357 x5_1).f0) ((rd_T29 t357 x5_1).f1) t367 x11_4 (rdOf ByteArray.empty y363 x20_10)).bind fun bt400 => (cellarlaw7_LaySizes.j11 kj74 t357 y363 x5_1 x6_2 t367 t372 t375 t378 x11_4 x12_48 x13_53 x20_10 t395 t396 t397 bt400.2.2 bt400.1 bt400.2.1 l0_0 l0_1 l0_2 l0_3)) else (cellarlaw7_LaySizes.j11 kj74 t357 y363 x5_1 x6_2 t367 t372 t375 t378 x11_4 x12_48 x13_53 x20_10 t395 t396 t397 x13_53 0 0 l0_0 l0_1 l0_2 l0_3)) = some r := H
                          have A84 := Aside0.mk A840
                          clear A840
                          have HC85 := Aside0.mk H
                          clear H
                          try go_wp2
                          have n0_ := Aside0.mk (Kd.R_drew HO_3.out)
                          have n1_ := Aside0.mk (Kd.R_drew HO_4.out)
                          have n2_ := Aside0.mk (Kd.S_drew HO_7.out)
                          have n3_ := Aside0.mk (Kd.R_drew HO_8.out)
                          have n4_ := Aside0.mk (Kd.R_drew HO_9.out)
                          have n5_ := Aside0.mk (blk_drew BK355.out)
                          have n6_ := Aside0.mk (below_drew1 HB.out)
                          clear HO_3
                          clear HO_4
                          clear HO_7
                          clear HO_8
                          clear HO_9
                          clear BK355
                          clear HB
                          have HO_3 := n0_
                          have HO_4 := n1_
                          have HO_7 := n2_
                          have HO_8 := n3_
                          have HO_9 := n4_
                          have BK355 := n5_
                          have HB := n6_
                          clear n0_ n1_ n2_ n3_ n4_ n5_ n6_
                          have p393 : 0 ≤ (x5_1 : Int) := zdec
                          have q393 : x5_1 < (t357.length : Int) := zdec
                          obtain ⟨ad393, e393, hx393_0, hx393_1⟩ := at_T29 (Kd.R_reads' HO_3.out).2.2 x5_1 p393 q393
                          obtain rfl : ad370 = ad393 := (by injection e393)
                          replace p393 := eq_true p393
                          replace q393 := eq_true q393
                          obtain ⟨Ao87, co87, eo87⟩ := Kd.R_slice HO_4.out
                          (first | subst eo87 | (injection eo87 with f1_ f2_ f3_; have f4_ := f1_.symm; have f5_ := f3_.symm; clear f1_ f2_ f3_; subst f4_; subst f5_))
                          have p394 : 0 ≤ (x20_10 : Int) := zdec
                          have q394 : x20_10 < (y363.length : Int) := zdec
                          obtain ⟨ad394, e394, hx394_0⟩ := Kd.at_string (Kd.R_reads' HO_4.out).2.2 x20_10 p394 q394
                          cases e394
                          replace p394 := eq_true p394
                          replace q394 := eq_true q394
                          refine start_ (n := 18) (S := fun w' => w'.cell? (ad370.add ((x5_1).toNat * 2)) = some (.bool ((rd_T29 t357 x5_1).f0)) ∧ w'.cell? ⟨(ad370.add ((x5_1).toNat * 2)).block, (ad370.add ((x5_1).toNat * 2)).off + 1, none⟩ = some (.int .i64 ((rd_T29 t357 x5_1).f1)) ∧ w'.cell? (ad394.add (x20_10).toNat) = some (.string (rdOf ByteArray.empty y363 x20_10))) (ds := []) cellarlaw7_LaySizes.b30 (by kernel_rfl) rfl rfl ⟨hx393_0, hx393_1, hx394_0⟩ (fun hHeld => ?_); refine with_tabW cellarlaw7_LaySizes.tab31 cellarlaw7_LaySizes.bits31 (fun HT_ HW_ => ?_)
                          generalize wc.drew = w86 at HO_3 HO_4 HO_7 HO_8 HO_9 BK355 HB hx393_0 hx393_1 hx394_0 hHeld ⊢
                          refine zq 0 (some 167) HT_ ?_; refine zq 1 (some 168) HT_ ?_; refine zq 2 (some 169) HT_ ?_; refine zq 4 (some 171) HT_ ?_; refine zq 5 (some 172) HT_ ?_; refine zq 6 (some 173) HT_ ?_; refine zq 7 (some 174) HT_ ?_; refine zq 8 (some 175) HT_ ?_; refine zt 3 (some 170) HT_ HW_ hHeld ?_; refine zt 9 (some 176) HT_ HW_ hHeld ?_
                          refine one_ (i := 10) (N := some 177) cellarlaw7_LaySizes.b41 rfl rfl (one_of HT_.out (by kernel_rfl)) (by decide) (fun K hK => ?_)
                          refine goes_ Try.func21 (by kernel_rfl) rfl #[.agg #[.bool ((rd_T29 t357 x5_1).f0), .int .i64 ((rd_T29 t357 x5_1).f1)], .slice Ao44 t367.length co44, .int .i64 x11_4, .string (rdOf ByteArray.empty y363 x20_10)] (by rfl) rfl rfl (by (try simp only [List.map_toArray, List.map_cons, List.map_nil]); first | done | rfl | (simp only [List.length_drop, List.length_take]; rfl)) ?_
                          with_reducible refine (lay_Field.calls kj74 ((rd_T29 t357 x5_1).f0) ((rd_T29 t357 x5_1).f1) _ _ t367 x11_4 (rdOf ByteArray.empty y363 x20_10) t395 t396 t397 _ ?side1 ?side2 A84.out).mono ?_
                          (case side1 => repeat (first | exact (Kd.S_reads' HO_7.out).2.2 | (with_reducible refine Kd.C_alloc ?_ _) | (with_reducible refine Kd.C_drewN ?_ _) | (with_reducible refine Kd.C_drew ?_)))
                          (case side2 => exact (Kd.S_reads' HO_7.out).2.1)
                          rintro e w88 ⟨rfl, hb⟩
                          have HS0_ := (hb.cell (World.block_lt_of_cell? _ _ (hHeld.1))).trans (hHeld.1)
                          have HS1_ := (hb.cell (World.block_lt_of_cell? _ _ (hHeld.2.1))).trans (hHeld.2.1)
                          have HS2_ := (hb.cell (World.block_lt_of_cell? _ _ (hHeld.2.2))).trans (hHeld.2.2)
                          refine ⟨_, rfl, ?_⟩
                          have n0_ := Aside0.mk (Kd.R_below (by (with_reducible repeat (first | apply Kd.R_alloc | apply Kd.R_drewN | apply Kd.R_drew)); exact HO_3.out) hb)
                          have n1_ := Aside0.mk (Kd.R_below (by (with_reducible repeat (first | apply Kd.R_alloc | apply Kd.R_drewN | apply Kd.R_drew)); exact HO_4.out) hb)
                          have n2_ := Aside0.mk (Kd.S_below (by (with_reducible repeat (first | apply Kd.S_alloc | apply Kd.S_drewN | apply Kd.S_drew)); exact HO_7.out) hb)
                          have n3_ := Aside0.mk (Kd.R_below (by (with_reducible repeat (first | apply Kd.R_alloc | apply Kd.R_drewN | apply Kd.R_drew)); exact HO_8.out) hb)
                          have n4_ := Aside0.mk (Kd.R_below (by (with_reducible repeat (first | apply Kd.R_alloc | apply Kd.R_drewN | apply Kd.R_drew)); exact HO_9.out) hb)
                          have n5_ := Aside0.mk (zbb BK355.out hb)
                          have n6_ := Aside0.mk (below_step (zw1 HB.out GE355.out) hb)
                          clear HO_3
                          clear HO_4
                          clear HO_7
                          clear HO_8
                          clear HO_9
                          clear BK355
                          clear HB
                          have HO_3 := n0_
                          have HO_4 := n1_
                          have HO_7 := n2_
                          have HO_8 := n3_
                          have HO_9 := n4_
                          have BK355 := n5_
                          have HB := n6_
                          clear n0_ n1_ n2_ n3_ n4_ n5_ n6_
                          (try clear hb)
                          (try clear hb2)
                          (try clear hk)
                          (try clear hi)
                          refine hK.out _ _ ⟨HS0_, HS1_, HS2_⟩ (fun hHeld => ?_)
                          clear hK K
                          refine norm_ (a' := ?_) ?_ ?_
                          rotate_left
                          ·show Act.put _ (some 177) _ = _
                           simp only [Act.put, List.setIfInBounds_toArray, List.set_cons_zero, List.set_cons_succ, i64_w, i32_w]
                           rfl
                          refine zq 11 (some 166) HT_ ?_; refine zq 12 (some 178) HT_ ?_; refine zq 13 (some 179) HT_ ?_; refine zq 14 (some 180) HT_ ?_; refine zq 15 (some 21) HT_ ?_; refine zq 16 (some 22) HT_ ?_; refine zq 17 (some 23) HT_ ?_
                          refine done_ (done_of HT_.out (by kernel_rfl)) ?_
                          go_upto_if 182 with (fail)
                          go_cut [24, 25, 26] (fun v24 v25 v26 wc => ∃ (kq : Nat) (x24_84 : Int) (x25_84 : Int) (x26_84 : Int), v24 = .int .i64 x24_84 ∧ v25 = .int .i64 x25_84 ∧ v26 = .int .i64 x26_84 ∧ Aside0 (cellarlaw7_LaySizes.j11 kq t357 y363 x5_1 x6_2 t367 t372 t375 t378 x11_4 x12_48 x13_53 x20_10 t395 t396 t397 x24_84 x25_84 x26_84 l0_0 l0_1 l0_2 l0_3 = some r) ∧ Aside0 (kq ≤ kj74) ∧ Aside0 (Kd.R k29 29 wc w.heap.size (fun _ => True) (.slice (some ad370) t357.length co19) t357) ∧ Aside0 (Kd.R Kd.string 9 wc w.heap.size (fun _ => True) (.slice (some ad394) y363.length co87) y363) ∧ Aside0 (Kd.S k31 31 wc w.heap.size (fun k_ => some k_ ≠ ((.slice (some ad394) y363.length co87) : Value).ownBlock ∧ some k_ ≠ (v373 : Value).ownBlock ∧ some k_ ≠ (v376 : Value).ownBlock) (.slice Ao44 t367.length co44) t367) ∧ Aside0 (Kd.R (Kd.int .i64) 3 wc w.heap.size (fun k_ => some k_ ≠ (v376 : Value).ownBlock) v373 t372) ∧ Aside0 (Kd.R (Kd.int .i64) 3 wc w.heap.size (fun k_ => some k_ ≠ (v373 : Value).ownBlock) v376 t375) ∧ Aside0 (wc.heap[gb355]? = some (.cells #[(.slice A0_0 l0_0.length c0_0), (.slice (some ad366) l0_1.length c0_1), (.slice A0_2 l0_2.length c0_2), (.slice A0_3 l0_3.length c0_3)] 27 (0, 0))) ∧ Aside0 (Below w.heap.size w wc))
                          case first => as_aux_lemma =>
                           have H := HC85.out
                           clear HC85
                           by_cases c89 : x12_48 = true
                           rotate_left
                           ·replace c89 := Bool.eq_false_iff.mpr c89
                            subst c89
                            have H1 : (cellarlaw7_LaySizes.j11 kj74 t357 y363 x5_1 x6_2 t367 t372 t375 t378 x11_4 false x13_53 x20_10 t395 t396 t397 x13_53 0 0 l0_0 l0_1 l0_2 l0_3) = some r := by rw [if_neg (show ¬ (false = true) by decide)] at H; exact H
                            clear H
                            have H := H1
                            clear H1
                            have H' := Aside0.mk H
                            clear H
                            go_wp2
                            go_meet
                            case rel => exact ⟨_, (x13_53), (0), (0), (zr), (zr), (zr), H', ⟨by have := HK1.out; have := HK2.out; have := HJ19.out; have := HK4.out; have := HJ45.out; have := HJ48.out; have := HJ51.out; have := HJ53.out; have := HJ65.out; have := HK10.out; have := HJ74.out; first | omega | exact Nat.le_refl _⟩, ⟨by (with_reducible repeat (first | apply Kd.R_alloc | apply Kd.R_drewN | apply Kd.R_drew)); exact HO_3.out⟩, ⟨by (with_reducible repeat (first | apply Kd.R_alloc | apply Kd.R_drewN | apply Kd.R_drew)); exact HO_4.out⟩, ⟨by (with_reducible repeat (first | apply Kd.S_alloc | apply Kd.S_drewN | apply Kd.S_drew)); exact HO_7.out⟩, ⟨by (with_reducible repeat (first | apply Kd.R_alloc | apply Kd.R_drewN | apply Kd.R_drew)); exact HO_8.out⟩, ⟨by (with_reducible repeat (first | apply Kd.R_alloc | apply Kd.R_drewN | apply Kd.R_drew)); exact HO_9.out⟩, ⟨zb BK355.out⟩, ⟨zw1 HB.out GE355.out⟩⟩
                           subst c89
                           have H1 : ((cellarref7_Field.f kj74 ((rd_T29 t357 x5_1).f0) ((rd_T29 t357 x5_1).f1) t367 x11_4 (rdOf ByteArray.empty y363 x20_10)).bind fun bt400 => (cellarlaw7_LaySizes.j11 kj74 t357 y363 x5_1 x6_2 t367 t372 t375 t378 x11_4 true x13_53 x20_10 t395 t396 t397 bt400.2.2 bt400.1 bt400.2.1 l0_0 l0_1 l0_2 l0_3)) = some r := by rw [if_pos rfl] at H; exact H
                           clear H
                           have H := H1
                           clear H1
                           replace H := Option.bind_eq_some_iff.mp H
                           obtain ⟨⟨t400, t401, t402⟩, A900, H⟩ := H
                           replace H : (cellarlaw7_LaySizes.j11 kj74 t357 y363 x5_1 x6_2 t367 t372 t375 t378 x11_4 true x13_53 x20_10 t395 t396 t397 t402 t400 t401 l0_0 l0_1 l0_2 l0_3) = some r := H
                           have A90 := Aside0.mk A900
                           clear A900
                           have H' := Aside0.mk H
                           clear H
                           try go_wp2
                           have n0_ := Aside0.mk (Kd.R_drew HO_3.out)
                           have n1_ := Aside0.mk (Kd.R_drew HO_4.out)
                           have n2_ := Aside0.mk (Kd.S_drew HO_7.out)
                           have n3_ := Aside0.mk (Kd.R_drew HO_8.out)
                           have n4_ := Aside0.mk (Kd.R_drew HO_9.out)
                           have n5_ := Aside0.mk (blk_drew BK355.out)
                           have n6_ := Aside0.mk (below_drew1 HB.out)
                           clear HO_3
                           clear HO_4
                           clear HO_7
                           clear HO_8
                           clear HO_9
                           clear BK355
                           clear HB
                           have HO_3 := n0_
                           have HO_4 := n1_
                           have HO_7 := n2_
                           have HO_8 := n3_
                           have HO_9 := n4_
                           have BK355 := n5_
                           have HB := n6_
                           clear n0_ n1_ n2_ n3_ n4_ n5_ n6_
                           have p398 : 0 ≤ (x5_1 : Int) := zdec
                           have q398 : x5_1 < (t357.length : Int) := zdec
                           obtain ⟨ad398, e398, hx398_0, hx398_1⟩ := at_T29 (Kd.R_reads' HO_3.out).2.2 x5_1 p398 q398
                           obtain rfl : ad370 = ad398 := (by injection e398)
                           replace p398 := eq_true p398
                           replace q398 := eq_true q398
                           have p399 : 0 ≤ (x20_10 : Int) := zdec
                           have q399 : x20_10 < (y363.length : Int) := zdec
                           obtain ⟨ad399, e399, hx399_0⟩ := Kd.at_string (Kd.R_reads' HO_4.out).2.2 x20_10 p399 q399
                           obtain rfl : ad394 = ad399 := (by injection e399)
                           replace p399 := eq_true p399
                           replace q399 := eq_true q399
                           refine start_ (n := 18) (S := fun w' => w'.cell? (ad370.add ((x5_1).toNat * 2)) = some (.bool ((rd_T29 t357 x5_1).f0)) ∧ w'.cell? ⟨(ad370.add ((x5_1).toNat * 2)).block, (ad370.add ((x5_1).toNat * 2)).off + 1, none⟩ = some (.int .i64 ((rd_T29 t357 x5_1).f1)) ∧ w'.cell? (ad394.add (x20_10).toNat) = some (.string (rdOf ByteArray.empty y363 x20_10))) (ds := []) cellarlaw7_LaySizes.b30 (by kernel_rfl) rfl rfl ⟨hx398_0, hx398_1, hx399_0⟩ (fun hHeld => ?_); refine with_tabW cellarlaw7_LaySizes.tab34 cellarlaw7_LaySizes.bits34 (fun HT_ HW_ => ?_)
                           generalize w88.drew = w91 at HO_3 HO_4 HO_7 HO_8 HO_9 BK355 HB hx398_0 hx398_1 hx399_0 hHeld ⊢
                           refine zq 0 (some 184) HT_ ?_; refine zq 1 (some 185) HT_ ?_; refine zq 2 (some 186) HT_ ?_; refine zq 4 (some 188) HT_ ?_; refine zq 5 (some 189) HT_ ?_; refine zq 6 (some 190) HT_ ?_; refine zq 7 (some 191) HT_ ?_; refine zq 8 (some 192) HT_ ?_; refine zt 3 (some 187) HT_ HW_ hHeld ?_; refine zt 9 (some 193) HT_ HW_ hHeld ?_
                           refine one_ (i := 10) (N := some 194) cellarlaw7_LaySizes.b41 rfl rfl (one_of HT_.out (by kernel_rfl)) (by decide) (fun K hK => ?_)
                           refine goes_ Try.func22 (by kernel_rfl) rfl #[.agg #[.bool ((rd_T29 t357 x5_1).f0), .int .i64 ((rd_T29 t357 x5_1).f1)], .slice Ao44 t367.length co44, .int .i64 x11_4, .string (rdOf ByteArray.empty y363 x20_10)] (by rfl) rfl rfl (by (try simp only [List.map_toArray, List.map_cons, List.map_nil]); first | done | rfl | (simp only [List.length_drop, List.length_take]; rfl)) ?_
                           with_reducible refine (cellarref7_Field.calls kj74 ((rd_T29 t357 x5_1).f0) ((rd_T29 t357 x5_1).f1) _ _ t367 x11_4 (rdOf ByteArray.empty y363 x20_10) t400 t401 t402 _ ?side1 ?side2 A90.out).mono ?_
                           (case side1 => repeat (first | exact (Kd.S_reads' HO_7.out).2.2 | (with_reducible refine Kd.C_alloc ?_ _) | (with_reducible refine Kd.C_drewN ?_ _) | (with_reducible refine Kd.C_drew ?_)))
                           (case side2 => exact (Kd.S_reads' HO_7.out).2.1)
                           rintro e w92 ⟨rfl, hb⟩
                           have HS0_ := (hb.cell (World.block_lt_of_cell? _ _ (hHeld.1))).trans (hHeld.1)
                           have HS1_ := (hb.cell (World.block_lt_of_cell? _ _ (hHeld.2.1))).trans (hHeld.2.1)
                           have HS2_ := (hb.cell (World.block_lt_of_cell? _ _ (hHeld.2.2))).trans (hHeld.2.2)
                           refine ⟨_, rfl, ?_⟩
                           have n0_ := Aside0.mk (Kd.R_below (by (with_reducible repeat (first | apply Kd.R_alloc | apply Kd.R_drewN | apply Kd.R_drew)); exact HO_3.out) hb)
                           have n1_ := Aside0.mk (Kd.R_below (by (with_reducible repeat (first | apply Kd.R_alloc | apply Kd.R_drewN | apply Kd.R_drew)); exact HO_4.out) hb)
                           have n2_ := Aside0.mk (Kd.S_below (by (with_reducible repeat (first | apply Kd.S_alloc | apply Kd.S_drewN | apply Kd.S_drew)); exact HO_7.out) hb)
                           have n3_ := Aside0.mk (Kd.R_below (by (with_reducible repeat (first | apply Kd.R_alloc | apply Kd.R_drewN | apply Kd.R_drew)); exact HO_8.out) hb)
                           have n4_ := Aside0.mk (Kd.R_below (by (with_reducible repeat (first | apply Kd.R_alloc | apply Kd.R_drewN | apply Kd.R_drew)); exact HO_9.out) hb)
                           have n5_ := Aside0.mk (zbb BK355.out hb)
                           have n6_ := Aside0.mk (below_step (zw1 HB.out GE355.out) hb)
                           clear HO_3
                           clear HO_4
                           clear HO_7
                           clear HO_8
                           clear HO_9
                           clear BK355
                           clear HB
                           have HO_3 := n0_
                           have HO_4 := n1_
                           have HO_7 := n2_
                           have HO_8 := n3_
                           have HO_9 := n4_
                           have BK355 := n5_
                           have HB := n6_
                           clear n0_ n1_ n2_ n3_ n4_ n5_ n6_
                           (try clear hb)
                           (try clear hb2)
                           (try clear hk)
                           (try clear hi)
                           refine hK.out _ _ ⟨HS0_, HS1_, HS2_⟩ (fun hHeld => ?_)
                           clear hK K
                           refine norm_ (a' := ?_) ?_ ?_
                           rotate_left
                           ·show Act.put _ (some 194) _ = _
                            simp only [Act.put, List.setIfInBounds_toArray, List.set_cons_zero, List.set_cons_succ, i64_w, i32_w]
                            rfl
                           refine zq 11 (some 183) HT_ ?_; refine zq 12 (some 195) HT_ ?_; refine zq 13 (some 196) HT_ ?_; refine zq 14 (some 197) HT_ ?_; refine zq 15 (some 25) HT_ ?_; refine zq 16 (some 26) HT_ ?_; refine zq 17 (some 24) HT_ ?_
                           refine done_ (done_of HT_.out (by kernel_rfl)) ?_
                           try go_wp2
                           go_meet
                           case rel => exact ⟨_, (t402), (t400), (t401), (zr), (zr), (zr), H', ⟨by have := HK1.out; have := HK2.out; have := HJ19.out; have := HK4.out; have := HJ45.out; have := HJ48.out; have := HJ51.out; have := HJ53.out; have := HJ65.out; have := HK10.out; have := HJ74.out; first | omega | exact Nat.le_refl _⟩, ⟨by (with_reducible repeat (first | apply Kd.R_alloc | apply Kd.R_drewN | apply Kd.R_drew)); exact HO_3.out⟩, ⟨by (with_reducible repeat (first | apply Kd.R_alloc | apply Kd.R_drewN | apply Kd.R_drew)); exact HO_4.out⟩, ⟨by (with_reducible repeat (first | apply Kd.S_alloc | apply Kd.S_drewN | apply Kd.S_drew)); exact HO_7.out⟩, ⟨by (with_reducible repeat (first | apply Kd.R_alloc | apply Kd.R_drewN | apply Kd.R_drew)); exact HO_8.out⟩, ⟨by (with_reducible repeat (first | apply Kd.R_alloc | apply Kd.R_drewN | apply Kd.R_drew)); exact HO_9.out⟩, ⟨zb BK355.out⟩, ⟨zw1 HB.out GE355.out⟩⟩
                          case rest => as_aux_lemma =>
                           clear HC85
                           try clear c2; try clear p2; try clear p3; try clear q3; try clear p6; try clear c7; try clear c8; try clear c21; try clear c22; try clear p36; try clear q36; try clear p37; try clear q37; try clear p38; try clear q38; try clear p39; try clear q39; try clear c79; try clear c80; try clear c80b0; try clear c81; try clear c81b0; try clear c82; try clear c82b0; try clear c83; try clear c83b0; try clear c89; try clear p2; try clear p3; try clear p36; try clear p366; try clear p37; try clear p370; try clear p371; try clear p379; try clear p38; try clear p383; try clear p384; try clear p385; try clear p388; try clear p393; try clear p394; try clear p398; try clear p399; try clear p6; try clear q3; try clear q36; try clear q366; try clear q37; try clear q370; try clear q371; try clear q379; try clear q38; try clear q383; try clear q384; try clear q385; try clear q388; try clear q393; try clear q394; try clear q398; try clear q399
                           obtain ⟨kq, x24_84, x25_84, x26_84, rfl, rfl, rfl, HA, HJ84, HO_3, HO_4, HO_7, HO_8, HO_9, BK355, HB⟩ := hcut
                           cases kq with
                           | zero => exact absurd HA.out (by simp [cellarlaw7_LaySizes.j11])
                           | succ kj84 =>
                            have H := HA.out
                            clear HA
                            simp only [cellarlaw7_LaySizes.j11] at H
                            have HC93 := Aside0.mk H
                            clear H
                            go_upto_region 35 with (fail)
                            go_cut [211] (fun v211 wc => ∃ (kq : Nat) (x211_92 : Bool), v211 = .bool x211_92 ∧ Aside0 (cellarlaw7_LaySizes.j12 kq t357 y363 x5_1 x6_2 t367 t372 t375 t378 x11_4 x12_48 x13_53 x20_10 x211_92 l0_0 l0_1 l0_2 l0_3 = some r) ∧ Aside0 (kq ≤ kj84) ∧ Aside0 (Kd.R k29 29 wc w.heap.size (fun _ => True) (.slice (some ad370) t357.length co19) t357) ∧ Aside0 (Kd.R Kd.string 9 wc w.heap.size (fun _ => True) (.slice (some ad394) y363.length co87) y363) ∧ Aside0 (Kd.S k31 31 wc w.heap.size (fun k_ => some k_ ≠ ((.slice (some ad394) y363.length co87) : Value).ownBlock ∧ some k_ ≠ (v373 : Value).ownBlock ∧ some k_ ≠ (v376 : Value).ownBlock) (.slice Ao44 t367.length co44) t367) ∧ Aside0 (Kd.R (Kd.int .i64) 3 wc w.heap.size (fun k_ => some k_ ≠ (v376 : Value).ownBlock) v373 t372) ∧ Aside0 (Kd.R (Kd.int .i64) 3 wc w.heap.size (fun k_ => some k_ ≠ (v373 : Value).ownBlock) v376 t375) ∧ Aside0 (wc.heap[gb355]? = some (.cells #[(.slice A0_0 l0_0.length c0_0), (.slice (some ad366) l0_1.length c0_1), (.slice A0_2 l0_2.length c0_2), (.slice A0_3 l0_3.length c0_3)] 27 (0, 0))) ∧ Aside0 (Below w.heap.size w wc))
                            case first => as_aux_lemma =>
                             have H := HC93.out
                             clear HC93
                             replace H := Option.bind_eq_some_iff.mp H
                             obtain ⟨t403, A940, H⟩ := H
                             replace H : (if t403 = x24_84 then (if t395 = x25_84 then (cellarlaw7_LaySizes.j12 kj84 t357 y363 x5_1 x6_2 t367 t372 t375 t378 x11_4 x12_48 x13_53 x20_10 (t396 != x26_84) l0_0 l0_1 l0_2 l0_3) else (cellarlaw7_LaySizes.j12 kj84 t357 y363 x5_1 x6_2 t367 t372 t375 t378 x11_4 x12_48 x13_53 x20_10 true l0_0 l0_1 l0_2 l0_3)) else (cellarlaw7_LaySizes.j12 kj84 t357 y363 x5_1 x6_2 t367 t372 t375 t378 x11_4 x12_48 x13_53 x20_10 true l0_0 l0_1 l0_2 l0_3)) = some r := H
                             have A94 := Aside0.mk A940
                             clear A940
                             by_cases c95 : t403 = x24_84
                             rotate_left
                             ·rw [if_neg c95] at H
                              have c95b0 : (t403 == x24_84) = false := beq_eq_false_iff_ne.mpr c95
                              have c95b1 : (t403 != x24_84) = true := bne_iff_ne.mpr c95
                              (first | rw [c95b0] | (simp only [i64_w, i32_w]; rw [c95b0]) | skip)
                              have H' := Aside0.mk H
                              clear H
                              go_wp2_with (first | ((with_reducible refine gate_callee (f := 11) rfl ?_); refine zgo (some 199) Try.func11 #[.int .i64 t397] ?_; (with_reducible refine (cellarlaw7_num.calls t397 t403 _ A94.out).mono ?_); rintro e w' ⟨rfl, ⟨nd, rfl⟩⟩; refine ⟨_, rfl, ?_⟩))
                              go_meet
                              case rel => exact ⟨_, (true), (zr), H', ⟨by have := HK1.out; have := HK2.out; have := HJ19.out; have := HK4.out; have := HJ45.out; have := HJ48.out; have := HJ51.out; have := HJ53.out; have := HJ65.out; have := HK10.out; have := HJ74.out; have := HJ84.out; first | omega | exact Nat.le_refl _⟩, ⟨by (with_reducible repeat (first | apply Kd.R_alloc | apply Kd.R_drewN | apply Kd.R_drew)); exact HO_3.out⟩, ⟨by (with_reducible repeat (first | apply Kd.R_alloc | apply Kd.R_drewN | apply Kd.R_drew)); exact HO_4.out⟩, ⟨by (with_reducible repeat (first | apply Kd.S_alloc | apply Kd.S_drewN | apply Kd.S_drew)); exact HO_7.out⟩, ⟨by (with_reducible repeat (first | apply Kd.R_alloc | apply Kd.R_drewN | apply Kd.R_drew)); exact HO_8.out⟩, ⟨by (with_reducible repeat (first | apply Kd.R_alloc | apply Kd.R_drewN | apply Kd.R_drew)); exact HO_9.out⟩, ⟨zb BK355.out⟩, ⟨zw1 HB.out GE355.out⟩⟩
                             rw [if_pos c95] at H
                             have c95b0 : (t403 == x24_84) = true := beq_iff_eq.mpr c95
                             have c95b1 : (t403 != x24_84) = false := bne_eq_false_iff_eq.mpr c95
                             clear c95
                             (first | rw [c95b0] | (simp only [i64_w, i32_w]; rw [c95b0]) | skip)
                             by_cases c96 : t395 = x25_84
                             rotate_left
                             ·rw [if_neg c96] at H
                              have c96b0 : (t395 == x25_84) = false := beq_eq_false_iff_ne.mpr c96
                              have c96b1 : (t395 != x25_84) = true := bne_iff_ne.mpr c96
                              have H' := Aside0.mk H
                              clear H
                              go_wp2_with (first | ((with_reducible refine gate_callee (f := 11) rfl ?_); refine zgo (some 199) Try.func11 #[.int .i64 t397] ?_; (with_reducible refine (cellarlaw7_num.calls t397 t403 _ A94.out).mono ?_); rintro e w' ⟨rfl, ⟨nd, rfl⟩⟩; refine ⟨_, rfl, ?_⟩))
                              go_meet
                              case rel => exact ⟨_, (true), (zr), H', ⟨by have := HK1.out; have := HK2.out; have := HJ19.out; have := HK4.out; have := HJ45.out; have := HJ48.out; have := HJ51.out; have := HJ53.out; have := HJ65.out; have := HK10.out; have := HJ74.out; have := HJ84.out; first | omega | exact Nat.le_refl _⟩, ⟨by (with_reducible repeat (first | apply Kd.R_alloc | apply Kd.R_drewN | apply Kd.R_drew)); exact HO_3.out⟩, ⟨by (with_reducible repeat (first | apply Kd.R_alloc | apply Kd.R_drewN | apply Kd.R_drew)); exact HO_4.out⟩, ⟨by (with_reducible repeat (first | apply Kd.S_alloc | apply Kd.S_drewN | apply Kd.S_drew)); exact HO_7.out⟩, ⟨by (with_reducible repeat (first | apply Kd.R_alloc | apply Kd.R_drewN | apply Kd.R_drew)); exact HO_8.out⟩, ⟨by (with_reducible repeat (first | apply Kd.R_alloc | apply Kd.R_drewN | apply Kd.R_drew)); exact HO_9.out⟩, ⟨zb BK355.out⟩, ⟨zw1 HB.out GE355.out⟩⟩
                             rw [if_pos c96] at H
                             have c96b0 : (t395 == x25_84) = true := beq_iff_eq.mpr c96
                             have c96b1 : (t395 != x25_84) = false := bne_eq_false_iff_eq.mpr c96
                             clear c96
                             have H' := Aside0.mk H
                             clear H
                             go_wp2_with (first | ((with_reducible refine gate_callee (f := 11) rfl ?_); refine zgo (some 199) Try.func11 #[.int .i64 t397] ?_; (with_reducible refine (cellarlaw7_num.calls t397 t403 _ A94.out).mono ?_); rintro e w' ⟨rfl, ⟨nd, rfl⟩⟩; refine ⟨_, rfl, ?_⟩))
                             go_meet
                             case rel => exact ⟨_, ((t396 != x26_84)), (zr), H', ⟨by have := HK1.out; have := HK2.out; have := HJ19.out; have := HK4.out; have := HJ45.out; have := HJ48.out; have := HJ51.out; have := HJ53.out; have := HJ65.out; have := HK10.out; have := HJ74.out; have := HJ84.out; first | omega | exact Nat.le_refl _⟩, ⟨by (with_reducible repeat (first | apply Kd.R_alloc | apply Kd.R_drewN | apply Kd.R_drew)); exact HO_3.out⟩, ⟨by (with_reducible repeat (first | apply Kd.R_alloc | apply Kd.R_drewN | apply Kd.R_drew)); exact HO_4.out⟩, ⟨by (with_reducible repeat (first | apply Kd.S_alloc | apply Kd.S_drewN | apply Kd.S_drew)); exact HO_7.out⟩, ⟨by (with_reducible repeat (first | apply Kd.R_alloc | apply Kd.R_drewN | apply Kd.R_drew)); exact HO_8.out⟩, ⟨by (with_reducible repeat (first | apply Kd.R_alloc | apply Kd.R_drewN | apply Kd.R_drew)); exact HO_9.out⟩, ⟨zb BK355.out⟩, ⟨zw1 HB.out GE355.out⟩⟩
                            case rest => as_aux_lemma =>
                             clear HC93
                             try clear c1; try clear c2; try clear p2; try clear p3; try clear q3; try clear p6; try clear c7; try clear c8; try clear c9; try clear c11; try clear c21; try clear c22; try clear p36; try clear q36; try clear p37; try clear q37; try clear p38; try clear q38; try clear p39; try clear q39; try clear c79; try clear c80; try clear c80b0; try clear c81; try clear c81b0; try clear c82; try clear c82b0; try clear c83; try clear c83b0; try clear c89; try clear c95; try clear c95b0; try clear c95b1; try clear c96; try clear c96b0; try clear c96b1; try clear p2; try clear p3; try clear p36; try clear p366; try clear p37; try clear p370; try clear p371; try clear p379; try clear p38; try clear p383; try clear p384; try clear p385; try clear p388; try clear p39; try clear p393; try clear p394; try clear p398; try clear p399; try clear p6; try clear q3; try clear q36; try clear q366; try clear q37; try clear q370; try clear q371; try clear q379; try clear q38; try clear q383; try clear q384; try clear q385; try clear q388; try clear q39; try clear q393; try clear q394; try clear q398; try clear q399
                             obtain ⟨kq, x211_92, rfl, HA, HJ92, HO_3, HO_4, HO_7, HO_8, HO_9, BK355, HB⟩ := hcut
                             cases kq with
                             | zero => exact absurd HA.out (by simp [cellarlaw7_LaySizes.j12])
                             | succ kj92 =>
                              have H := HA.out
                              clear HA
                              simp only [cellarlaw7_LaySizes.j12] at H
                              by_cases c97 : x211_92 = true
                              ·subst c97
                               have H1 : (some false) = some r := by rw [if_pos rfl] at H; exact H
                               clear H
                               have H := H1
                               clear H1
                               obtain rfl := Option.some.inj H
                               go_wp2
                               go_ret
                               exact ⟨ze, zw1 HB.out GE355.out⟩
                              replace c97 := Bool.eq_false_iff.mpr c97
                              subst c97
                              have H1 : (cellarlaw7_LaySizes.l3 kj92 t357 y363 x5_1 x6_2 t367 t372 t375 t378 x11_4 x12_48 x13_53 (wrap64 (x20_10 + 1)) l0_0 l0_1 l0_2 l0_3) = some r := by rw [if_neg (show ¬ (false = true) by decide)] at H; exact H
                              clear H
                              have H := H1
                              clear H1
                              have H' := Aside0.mk H
                              clear H
                              go_wp2
                              go_roundg kj92
                              case measure => have := HK1.out; have := HK2.out; have := HJ19.out; have := HK4.out; have := HJ45.out; have := HJ48.out; have := HJ51.out; have := HJ53.out; have := HJ65.out; have := HK10.out; have := HJ74.out; have := HJ84.out; have := HJ92.out; omega
                              case rel => exact ⟨(wrap64 (x20_10 + 1)), (zr), H', ⟨by have := HK1.out; have := HK2.out; have := HJ19.out; have := HK4.out; have := HJ45.out; have := HJ48.out; have := HJ51.out; have := HJ53.out; have := HJ65.out; have := HK10.out; have := HJ74.out; have := HJ84.out; have := HJ92.out; omega⟩, ⟨by (with_reducible repeat (first | apply Kd.R_alloc | apply Kd.R_drewN | apply Kd.R_drew)); exact HO_3.out⟩, ⟨by (with_reducible repeat (first | apply Kd.R_alloc | apply Kd.R_drewN | apply Kd.R_drew)); exact HO_4.out⟩, ⟨by (with_reducible repeat (first | apply Kd.S_alloc | apply Kd.S_drewN | apply Kd.S_drew)); exact HO_7.out⟩, ⟨by (with_reducible repeat (first | apply Kd.R_alloc | apply Kd.R_drewN | apply Kd.R_drew)); exact HO_8.out⟩, ⟨by (with_reducible repeat (first | apply Kd.R_alloc | apply Kd.R_drewN | apply Kd.R_drew)); exact HO_9.out⟩, ⟨zb BK355.out⟩, ⟨zw1 HB.out GE355.out⟩⟩
                         replace c79 := Bool.eq_false_iff.mpr c79
                         subst c79
                         have H1 : ((some (([0, 1, 15, (-1)] : List Int) : List Int)).bind fun y404 => (if y404.length + l0_3.length < 17592186044416 then (cellarlaw7_LaySizes.l4 kj74 t357 y363 x5_1 x6_2 t367 t372 t375 t378 x11_4 x12_48 x13_53 (y404 ++ l0_3) 0 l0_0 l0_1 l0_2 l0_3) else (none))) = some r := by rw [if_neg (show ¬ (false = true) by decide)] at H; exact H
                         clear H
                         have H := H1
                         clear H1
                         obtain ⟨y404, hy404⟩ : ∃ y_ : List Int, y_ = (([0, 1, 15, (-1)] : List Int)) := ⟨_, rfl⟩
                         replace H : (if y404.length + l0_3.length < 17592186044416 then (cellarlaw7_LaySizes.l4 kj74 t357 y363 x5_1 x6_2 t367 t372 t375 t378 x11_4 x12_48 x13_53 (y404 ++ l0_3) 0 l0_0 l0_1 l0_2 l0_3) else (none)) = some r := by first | (rw [hy404]; with_reducible exact H) | (have H2_ := (Option.bind_some _ _).symm.trans H; rw [hy404]; with_reducible exact H2_) | (have H2_ := (Option.bind_some _ _).symm.trans H; with_reducible exact H2_) | with_reducible exact H | (rw [hy404]; exact H) | exact H
                         have Ny404 := Aside0.mk hy404
                         clear hy404
                         by_cases c98 : y404.length + l0_3.length < 17592186044416
                         rotate_left
                         ·rw [if_neg c98] at H
                          exact absurd H (by simp)
                         rw [if_pos c98] at H
                         have LMc98 := Aside0.mk c98
                         clear c98
                         obtain ⟨y407, hy407⟩ : ∃ y_ : List Int, y_ = (y404 ++ l0_3) := ⟨_, rfl⟩
                         replace H : (cellarlaw7_LaySizes.l4 kj74 t357 y363 x5_1 x6_2 t367 t372 t375 t378 x11_4 x12_48 x13_53 y407 0 l0_0 l0_1 l0_2 l0_3) = some r := by first | (rw [hy407]; with_reducible exact H) | (have H2_ := (Option.bind_some _ _).symm.trans H; rw [hy407]; with_reducible exact H2_) | (have H2_ := (Option.bind_some _ _).symm.trans H; with_reducible exact H2_) | with_reducible exact H | (rw [hy407]; exact H) | exact H
                         have Ny407 := Aside0.mk hy407
                         clear hy407
                         have H' := Aside0.mk H
                         clear H
                         go_wp2_with (first | ((with_reducible refine gate_dst (N := 212) rfl ?_); (try (refine gate_guard (by rfl) ?_; dsimp only)); refine Kd.R_lit (Kd.int .i64) _ 3 ?hg (N := 212) ?hd (xs := ([0, 1, 15, (-1)] : List Int)) (inner := [.int .i64 0, .int .i64 1, .int .i64 15, .int .i64 (-1)]) (ok := fun _ => True) (okp := fun _ => True) ?hr ?hp (fun _ hk => hk) trivial (Below.refl _ _) (Nat.le_refl _) (by simp) ?_; (case hd => rfl); (case hg => rfl); (case hr => first | (go_simp; done) | (go_simp; rfl)); (case hp => exact (Reps.one (show Kd.M (Kd.int .i64) _ _ _ 0 [.int .i64 0] from rfl) (Reps.one (show Kd.M (Kd.int .i64) _ _ _ 1 [.int .i64 1] from rfl) (Reps.one (show Kd.M (Kd.int .i64) _ _ _ 15 [.int .i64 15] from rfl) (Reps.one (show Kd.M (Kd.int .i64) _ _ _ (-1) [.int .i64 (-1)] from rfl) (Reps.none _ _)))))); intro v405 w99 ho100 hb hg_ hnew_; clear hg_ hnew_; (first | rw [← Ny404.out] at ho100 | (simp only [Int.reduceToNat] at ho100; rw [← Ny404.out] at ho100)); have n0_ := Aside0.mk (Kd.R_below (by (with_reducible repeat (first | apply Kd.R_alloc | apply Kd.R_drewN | apply Kd.R_drew)); exact HO_3.out) hb); have n1_ := Aside0.mk (Kd.R_below (by (with_reducible repeat (first | apply Kd.R_alloc | apply Kd.R_drewN | apply Kd.R_drew)); exact HO_4.out) hb); have n2_ := Aside0.mk (Kd.S_elder' (by (with_reducible repeat (first | apply Kd.S_alloc | apply Kd.S_drewN | apply Kd.S_drew)); exact HO_7.out) (Kd.R_base ho100) hb); have n3_ := Aside0.mk (Kd.R_elder' (by (with_reducible repeat (first | apply Kd.R_alloc | apply Kd.R_drewN | apply Kd.R_drew)); exact HO_8.out) (Kd.R_base ho100) hb); have n4_ := Aside0.mk (Kd.R_elder' (by (with_reducible repeat (first | apply Kd.R_alloc | apply Kd.R_drewN | apply Kd.R_drew)); exact HO_9.out) (Kd.R_base ho100) hb); have HO406 := Aside0.mk (Kd.R_lower (Kd.R_new' (Kd.R_new' ho100 (Kd.R_lt (by (with_reducible repeat (first | apply Kd.R_alloc | apply Kd.R_drewN | apply Kd.R_drew)); exact HO_8.out))) (Kd.R_lt (by (with_reducible repeat (first | apply Kd.R_alloc | apply Kd.R_drewN | apply Kd.R_drew)); exact HO_9.out))) (below_size (zw1 HB.out GE355.out))); have n6_ := Aside0.mk (zbb BK355.out hb); have n7_ := Aside0.mk (below_step (zw1 HB.out GE355.out) hb); clear HO_3 HO_4 HO_7 HO_8 HO_9 BK355 HB; have HO_3 := n0_; have HO_4 := n1_; have HO_7 := n2_; have HO_8 := n3_; have HO_9 := n4_; have BK355 := n6_; have HB := n7_; clear n0_ n1_ n2_ n3_ n4_ n6_ n7_; clear hb ho100; have hcz101_0 := zc BK355.out 0; have hcz101_1 := zc BK355.out 1; have hcz101_2 := zc BK355.out 2; have hcz101_3 := zc BK355.out 3; have hfz101_0 := blk_frozen BK355.out 0; have hfz101_1 := blk_frozen BK355.out 1; have hfz101_2 := blk_frozen BK355.out 2; have hfz101_3 := blk_frozen BK355.out 3) | ((with_reducible refine gate_builtin (b := .append) (xs := #[.tmp 212, .tmp 214]) rfl ?_); (try (refine gate_guard (by rfl) ?_; dsimp only)); at_builtin; refine Kd.R_append_rows (Kd.int .i64) (w0 := w) w.heap.size rfl (.tmp 212) (.tmp 214) 25 3 (.int .i64 0) 8 rfl Try.underlying25 info3 rfl (by decide) (by omega) v405 y404 l0_3 _ _ _ (fun k_ => some k_ ≠ (v373 : Value).ownBlock ∧ some k_ ≠ (v376 : Value).ownBlock) (fun _ => False) rfl rfl ?aO ?aR (fun _ _ h => h) (fun _ h => h.elim) ?aF ?aB ?aS ?aL ?_; (case aR => repeat (first | exact (Kd.C_below HR0_3.out HB.out) | (with_reducible refine Kd.C_alloc ?_ _) | (with_reducible refine Kd.C_drewN ?_ _) | (with_reducible refine Kd.C_drew ?_))); (case aB => exact (zw1 HB.out GE355.out)); (case aF => exact (fun k_ hk => ⟨Kd.fresh' (Kd.R_lt (by (with_reducible repeat (first | apply Kd.R_alloc | apply Kd.R_drewN | apply Kd.R_drew)); exact HO_8.out)) k_ hk, Kd.fresh' (Kd.R_lt (by (with_reducible repeat (first | apply Kd.R_alloc | apply Kd.R_drewN | apply Kd.R_drew)); exact HO_9.out)) k_ hk⟩)); (case aO => exact (by (with_reducible repeat (first | apply Kd.R_alloc | apply Kd.R_drewN | apply Kd.R_drew)); exact Kd.R_mono HO406.out (fun _ hk => ⟨hk.1.2, hk.2⟩))); (case aS => exact (below_size (zw1 HB.out GE355.out))); (case aL => have := LMc98.out; omega); intro v408 w102 ho hb hg hat; rw [← Ny407.out] at ho; have n0_ := Aside0.mk (Kd.R_over' (by (with_reducible repeat (first | apply Kd.R_alloc | apply Kd.R_drewN | apply Kd.R_drew)); exact HO_3.out) (Kd.R_typed (by (with_reducible repeat (first | apply Kd.R_alloc | apply Kd.R_drewN | apply Kd.R_drew)); exact HO406.out)) (by decide) hg); have n1_ := Aside0.mk (Kd.R_over' (by (with_reducible repeat (first | apply Kd.R_alloc | apply Kd.R_drewN | apply Kd.R_drew)); exact HO_4.out) (Kd.R_typed (by (with_reducible repeat (first | apply Kd.R_alloc | apply Kd.R_drewN | apply Kd.R_drew)); exact HO406.out)) (by decide) hg); have n2_ := Aside0.mk (Kd.S_after (ok := (fun k_ => some k_ ≠ (v364 : Value).ownBlock ∧ some k_ ≠ (v373 : Value).ownBlock ∧ some k_ ≠ (v376 : Value).ownBlock)) (by (with_reducible repeat (first | apply Kd.S_alloc | apply Kd.S_drewN | apply Kd.S_drew)); exact HO_7.out) hg hat); have n3_ := Aside0.mk (Kd.R_after (ok := (fun k_ => some k_ ≠ (v376 : Value).ownBlock)) (by (with_reducible repeat (first | apply Kd.R_alloc | apply Kd.R_drewN | apply Kd.R_drew)); exact HO_8.out) hg hat); have n4_ := Aside0.mk (Kd.R_after (ok := (fun k_ => some k_ ≠ (v373 : Value).ownBlock)) (by (with_reducible repeat (first | apply Kd.R_alloc | apply Kd.R_drewN | apply Kd.R_drew)); exact HO_9.out) hg hat); have n5_ := Aside0.mk (blk_grown (g := gb355) (o := .cells #[.slice A0_0 l0_0.length c0_0, .slice (some ad366) l0_1.length c0_1, .slice A0_2 l0_2.length c0_2, .slice A0_3 l0_3.length c0_3] 27 (0, 0)) (zb BK355.out) hg (Kd.R_ne HO406.out BK355.out (by decide))); have n6_ := Aside0.mk (hb); have HO409 := Aside0.mk (ho); clear HO_3 HO_4 HO_7 HO_8 HO_9 BK355 HB HO406; have HO_3 := n0_; have HO_4 := n1_; have HO_7 := n2_; have HO_8 := n3_; have HO_9 := n4_; have BK355 := n5_; have HB := n6_; clear n0_ n1_ n2_ n3_ n4_ n5_ n6_; clear ho hb hg hat))
                         go_loopg [28] kj74 (fun kq v28 w' => ∃ (x28_12 : Int), v28 = .int .i64 x28_12 ∧ Aside0 (cellarlaw7_LaySizes.l4 kq t357 y363 x5_1 x6_2 t367 t372 t375 t378 x11_4 x12_48 x13_53 y407 x28_12 l0_0 l0_1 l0_2 l0_3 = some r) ∧ Aside0 (kq ≤ kj74) ∧ Aside0 (Kd.R k29 29 w' w.heap.size (fun _ => True) (.slice (some ad370) t357.length co19) t357) ∧ Aside0 (Kd.R Kd.string 9 w' w.heap.size (fun _ => True) v364 y363) ∧ Aside0 (Kd.S k31 31 w' w.heap.size (fun k_ => some k_ ≠ (v364 : Value).ownBlock ∧ some k_ ≠ (v373 : Value).ownBlock ∧ some k_ ≠ (v376 : Value).ownBlock ∧ some k_ ≠ (v408 : Value).ownBlock) (.slice Ao44 t367.length co44) t367) ∧ Aside0 (Kd.R (Kd.int .i64) 3 w' w.heap.size (fun k_ => some k_ ≠ (v376 : Value).ownBlock ∧ some k_ ≠ (v408 : Value).ownBlock) v373 t372) ∧ Aside0 (Kd.R (Kd.int .i64) 3 w' w.heap.size (fun k_ => some k_ ≠ (v373 : Value).ownBlock ∧ some k_ ≠ (v408 : Value).ownBlock) v376 t375) ∧ Aside0 (Kd.R (Kd.int .i64) 3 w' w.heap.size (fun k_ => some k_ ≠ (v373 : Value).ownBlock ∧ some k_ ≠ (v376 : Value).ownBlock) v408 y407) ∧ Aside0 (w'.heap[gb355]? = some (.cells #[(.slice A0_0 l0_0.length c0_0), (.slice (some ad366) l0_1.length c0_1), (.slice A0_2 l0_2.length c0_2), (.slice A0_3 l0_3.length c0_3)] 27 (0, 0))) ∧ Aside0 (Below w.heap.size w w'))
                         case atStart => exact ⟨(0), (zr), H', ⟨Nat.le_refl _⟩, ⟨by (with_reducible repeat (first | apply Kd.R_alloc | apply Kd.R_drewN | apply Kd.R_drew)); exact HO_3.out⟩, ⟨by (with_reducible repeat (first | apply Kd.R_alloc | apply Kd.R_drewN | apply Kd.R_drew)); exact HO_4.out⟩, ⟨by (with_reducible repeat (first | apply Kd.S_alloc | apply Kd.S_drewN | apply Kd.S_drew)); exact Kd.S_mono HO_7.out (fun _ hk => ⟨hk.1.1, ⟨hk.1.2.1, ⟨hk.1.2.2, hk.2⟩⟩⟩)⟩, ⟨by (with_reducible repeat (first | apply Kd.R_alloc | apply Kd.R_drewN | apply Kd.R_drew)); exact HO_8.out⟩, ⟨by (with_reducible repeat (first | apply Kd.R_alloc | apply Kd.R_drewN | apply Kd.R_drew)); exact HO_9.out⟩, ⟨by (with_reducible repeat (first | apply Kd.R_alloc | apply Kd.R_drewN | apply Kd.R_drew)); exact HO409.out⟩, ⟨zb BK355.out⟩, ⟨zw1 HB.out GE355.out⟩⟩
                         case round => as_aux_lemma =>
                          clear H'
                          try clear c1; try clear c2; try clear p2; try clear p3; try clear q3; try clear p6; try clear c7; try clear c8; try clear c9; try clear c11; try clear c21; try clear c22; try clear p36; try clear q36; try clear p37; try clear q37; try clear p38; try clear q38; try clear p39; try clear q39; try clear p64; try clear c79; try clear c80; try clear c80b0; try clear c81; try clear c81b0; try clear c82; try clear c82b0; try clear c83; try clear c83b0; try clear c89; try clear c95; try clear c95b0; try clear c95b1; try clear c96; try clear c96b0; try clear c96b1; try clear c97; try clear c98; try clear p2; try clear p3; try clear p36; try clear p366; try clear p37; try clear p370; try clear p371; try clear p379; try clear p38; try clear p383; try clear p384; try clear p385; try clear p388; try clear p39; try clear p393; try clear p394; try clear p398; try clear p399; try clear p6; try clear q3; try clear q36; try clear q366; try clear q37; try clear q370; try clear q371; try clear q379; try clear q38; try clear q383; try clear q384; try clear q385; try clear q388; try clear q39; try clear q393; try clear q394; try clear q398; try clear q399
                          obtain ⟨x28_12, rfl, HA, HK12, HO_3, HO_4, HO_7, HO_8, HO_9, HO_27, BK355, HB⟩ := hrel
                          cases gk with
                          | zero => exact absurd HA.out (by simp [cellarlaw7_LaySizes.l4])
                          | succ k12 =>
                           have H := HA.out
                           clear HA
                           simp only [cellarlaw7_LaySizes.l4] at H
                           have HC103 := Aside0.mk H
                           clear H
                           go_upto_region 39 with (fail)
                           go_cut [223] (fun v223 wc => ∃ (kq : Nat) (x223_102 : Bool), v223 = .bool x223_102 ∧ Aside0 (cellarlaw7_LaySizes.j14 kq t357 y363 x5_1 x6_2 t367 t372 t375 t378 x11_4 x12_48 x13_53 y407 x28_12 x223_102 l0_0 l0_1 l0_2 l0_3 = some r) ∧ Aside0 (kq ≤ k12) ∧ Aside0 (Kd.R k29 29 wc w.heap.size (fun _ => True) (.slice (some ad370) t357.length co19) t357) ∧ Aside0 (Kd.R Kd.string 9 wc w.heap.size (fun _ => True) v364 y363) ∧ Aside0 (Kd.S k31 31 wc w.heap.size (fun k_ => some k_ ≠ (v364 : Value).ownBlock ∧ some k_ ≠ (v373 : Value).ownBlock ∧ some k_ ≠ (v376 : Value).ownBlock ∧ some k_ ≠ (v408 : Value).ownBlock) (.slice Ao44 t367.length co44) t367) ∧ Aside0 (Kd.R (Kd.int .i64) 3 wc w.heap.size (fun k_ => some k_ ≠ (v376 : Value).ownBlock ∧ some k_ ≠ (v408 : Value).ownBlock) v373 t372) ∧ Aside0 (Kd.R (Kd.int .i64) 3 wc w.heap.size (fun k_ => some k_ ≠ (v373 : Value).ownBlock ∧ some k_ ≠ (v408 : Value).ownBlock) v376 t375) ∧ Aside0 (Kd.R (Kd.int .i64) 3 wc w.heap.size (fun k_ => some k_ ≠ (v373 : Value).ownBlock ∧ some k_ ≠ (v376 : Value).ownBlock) v408 y407) ∧ Aside0 (wc.heap[gb355]? = some (.cells #[(.slice A0_0 l0_0.length c0_0), (.slice (some ad366) l0_1.length c0_1), (.slice A0_2 l0_2.length c0_2), (.slice A0_3 l0_3.length c0_3)] 27 (0, 0))) ∧ Aside0 (Below w.heap.size w wc))
                           case first => as_aux_lemma =>
                            have H := HC103.out
                            clear HC103
                            by_cases c104 : x28_12 < (y407.length : Int)
                            rotate_left
                            ·rw [if_neg c104] at H
                             have c104b0 : decide (x28_12 < (y407.length : Int)) = false := decide_eq_false c104
                             clear c104
                             (first | rw [c104b0] | (simp only [i64_w, i32_w]; rw [c104b0]) | skip)
                             have H' := Aside0.mk H
                             clear H
                             obtain ⟨Ao106, co106, eo106⟩ := Kd.R_slice HO_27.out
                             subst eo106
                             go_wp2
                             go_meet
                             case rel => exact ⟨_, (false), (zr), H', ⟨by have := HK1.out; have := HK2.out; have := HJ19.out; have := HK4.out; have := HJ45.out; have := HJ48.out; have := HJ51.out; have := HJ53.out; have := HJ65.out; have := HK10.out; have := HJ74.out; have := HK12.out; first | omega | exact Nat.le_refl _⟩, ⟨by (with_reducible repeat (first | apply Kd.R_alloc | apply Kd.R_drewN | apply Kd.R_drew)); exact HO_3.out⟩, ⟨by (with_reducible repeat (first | apply Kd.R_alloc | apply Kd.R_drewN | apply Kd.R_drew)); exact HO_4.out⟩, ⟨by (with_reducible repeat (first | apply Kd.S_alloc | apply Kd.S_drewN | apply Kd.S_drew)); exact HO_7.out⟩, ⟨by (with_reducible repeat (first | apply Kd.R_alloc | apply Kd.R_drewN | apply Kd.R_drew)); exact HO_8.out⟩, ⟨by (with_reducible repeat (first | apply Kd.R_alloc | apply Kd.R_drewN | apply Kd.R_drew)); exact HO_9.out⟩, ⟨by (with_reducible repeat (first | apply Kd.R_alloc | apply Kd.R_drewN | apply Kd.R_drew)); exact HO_27.out⟩, ⟨zb BK355.out⟩, ⟨zw1 HB.out GE355.out⟩⟩
                            rw [if_pos c104] at H
                            have c104b0 : decide (x28_12 < (y407.length : Int)) = true := decide_eq_true c104
                            clear c104
                            (first | rw [c104b0] | (simp only [i64_w, i32_w]; rw [c104b0]) | skip)
                            have H' := Aside0.mk H
                            clear H
                            obtain ⟨Ao105, co105, eo105⟩ := Kd.R_slice HO_27.out
                            subst eo105
                            go_wp2
                            go_meet
                            case rel => exact ⟨_, (decide (x28_12 < 8)), (zr), H', ⟨by have := HK1.out; have := HK2.out; have := HJ19.out; have := HK4.out; have := HJ45.out; have := HJ48.out; have := HJ51.out; have := HJ53.out; have := HJ65.out; have := HK10.out; have := HJ74.out; have := HK12.out; first | omega | exact Nat.le_refl _⟩, ⟨by (with_reducible repeat (first | apply Kd.R_alloc | apply Kd.R_drewN | apply Kd.R_drew)); exact HO_3.out⟩, ⟨by (with_reducible repeat (first | apply Kd.R_alloc | apply Kd.R_drewN | apply Kd.R_drew)); exact HO_4.out⟩, ⟨by (with_reducible repeat (first | apply Kd.S_alloc | apply Kd.S_drewN | apply Kd.S_drew)); exact HO_7.out⟩, ⟨by (with_reducible repeat (first | apply Kd.R_alloc | apply Kd.R_drewN | apply Kd.R_drew)); exact HO_8.out⟩, ⟨by (with_reducible repeat (first | apply Kd.R_alloc | apply Kd.R_drewN | apply Kd.R_drew)); exact HO_9.out⟩, ⟨by (with_reducible repeat (first | apply Kd.R_alloc | apply Kd.R_drewN | apply Kd.R_drew)); exact HO_27.out⟩, ⟨zb BK355.out⟩, ⟨zw1 HB.out GE355.out⟩⟩
                           case rest => as_aux_lemma =>
                            clear HC103
                            try clear c1; try clear c2; try clear p2; try clear p3; try clear q3; try clear p6; try clear c7; try clear c8; try clear c9; try clear c10; try clear c11; try clear c21; try clear c22; try clear p36; try clear q36; try clear p37; try clear q37; try clear p38; try clear q38; try clear p39; try clear q39; try clear p64; try clear c79; try clear c80; try clear c80b0; try clear c81; try clear c81b0; try clear c82; try clear c82b0; try clear c83; try clear c83b0; try clear c89; try clear c95; try clear c95b0; try clear c95b1; try clear c96; try clear c96b0; try clear c96b1; try clear c97; try clear c98; try clear c104; try clear c104b0; try clear p2; try clear p3; try clear p36; try clear p366; try clear p37; try clear p370; try clear p371; try clear p379; try clear p38; try clear p383; try clear p384; try clear p385; try clear p388; try clear p39; try clear p393; try clear p394; try clear p398; try clear p399; try clear p6; try clear p64; try clear q3; try clear q36; try clear q366; try clear q37; try clear q370; try clear q371; try clear q379; try clear q38; try clear q383; try clear q384; try clear q385; try clear q388; try clear q39; try clear q393; try clear q394; try clear q398; try clear q399
                            obtain ⟨kq, x223_102, rfl, HA, HJ102, HO_3, HO_4, HO_7, HO_8, HO_9, HO_27, BK355, HB⟩ := hcut
                            cases kq with
                            | zero => exact absurd HA.out (by simp [cellarlaw7_LaySizes.j14])
                            | succ kj102 =>
                             have H := HA.out
                             clear HA
                             simp only [cellarlaw7_LaySizes.j14] at H
                             by_cases c107 : x223_102 = true
                             rotate_left
                             ·replace c107 := Bool.eq_false_iff.mpr c107
                              subst c107
                              have H1 : (cellarlaw7_LaySizes.l2 kj102 t357 y363 x5_1 x6_2 t367 t372 t375 t378 (wrap64 (x11_4 + 1)) l0_0 l0_1 l0_2 l0_3) = some r := by rw [if_neg (show ¬ (false = true) by decide)] at H; exact H
                              clear H
                              have H := H1
                              clear H1
                              have H' := Aside0.mk H
                              clear H
                              go_wp2
                              go_roundg kj102
                              case measure => have := HK1.out; have := HK2.out; have := HJ19.out; have := HK4.out; have := HJ45.out; have := HJ48.out; have := HJ51.out; have := HJ53.out; have := HJ65.out; have := HK10.out; have := HJ74.out; have := HK12.out; have := HJ102.out; omega
                              case rel => exact ⟨(wrap64 (x11_4 + 1)), (zr), H', ⟨by have := HK1.out; have := HK2.out; have := HJ19.out; have := HK4.out; have := HJ45.out; have := HJ48.out; have := HJ51.out; have := HJ53.out; have := HJ65.out; have := HK10.out; have := HJ74.out; have := HK12.out; have := HJ102.out; omega⟩, ⟨by (with_reducible repeat (first | apply Kd.R_alloc | apply Kd.R_drewN | apply Kd.R_drew)); exact HO_3.out⟩, ⟨by (with_reducible repeat (first | apply Kd.R_alloc | apply Kd.R_drewN | apply Kd.R_drew)); exact HO_4.out⟩, ⟨by (with_reducible repeat (first | apply Kd.S_alloc | apply Kd.S_drewN | apply Kd.S_drew)); exact Kd.S_mono HO_7.out (fun _ hk => ⟨hk.1, ⟨hk.2.1, hk.2.2.1⟩⟩)⟩, ⟨by (with_reducible repeat (first | apply Kd.R_alloc | apply Kd.R_drewN | apply Kd.R_drew)); exact Kd.R_mono HO_8.out (fun _ hk => hk.1)⟩, ⟨by (with_reducible repeat (first | apply Kd.R_alloc | apply Kd.R_drewN | apply Kd.R_drew)); exact Kd.R_mono HO_9.out (fun _ hk => hk.1)⟩, ⟨zb BK355.out⟩, ⟨zw1 HB.out GE355.out⟩⟩
                             subst c107
                             have H1 : (if 0 ≤ x5_1 then (if x5_1 < (t357.length : Int) then (if 0 ≤ x28_12 then (if x28_12 < (y407.length : Int) then ((lay_Item.f kj102 ((rd_T29 t357 x5_1).f0) ((rd_T29 t357 x5_1).f1) t367 x11_4 (rd y407 x28_12)).bind fun bt412 => (if x12_48 = true then (if 0 ≤ x11_4 then (if x11_4 < (t367.length : Int) then (if ((rd_T31 t367 x11_4).f0) = 8 then ((cellarref0_Num.f (rd y407 x28_12) (wrap64 (((rd_T31 t367 x11_4).f1) - 1))).bind fun t417 => (if t417 = true then (if 0 ≤ ((rd_T31 t367 x11_4).f2) then (if ((rd_T31 t367 x11_4).f2) < (t372.length : Int) then (cellarlaw7_LaySizes.j15 kj102 t357 y363 x5_1 x6_2 t367 t372 t375 t378 x11_4 x12_48 x13_53 y407 x28_12 bt412.1 bt412.2 0 (wrap64 ((rd y407 x28_12) * (rd t372 ((rd_T31 t367 x11_4).f2)))) l0_0 l0_1 l0_2 l0_3) else (none)) else (none)) else (cellarlaw7_LaySizes.j15 kj102 t357 y363 x5_1 x6_2 t367 t372 t375 t378 x11_4 x12_48 x13_53 y407 x28_12 bt412.1 bt412.2 2 0 l0_0 l0_1 l0_2 l0_3))) else (cellarlaw7_LaySizes.j16 kj102 t357 y363 x5_1 x6_2 t367 t372 t375 t378 x11_4 x12_48 x13_53 y407 x28_12 bt412.1 bt412.2 5 0 l0_0 l0_1 l0_2 l0_3)) else (none)) else (none)) else (cellarlaw7_LaySizes.j17 kj102 t357 y363 x5_1 x6_2 t367 t372 t375 t378 x11_4 x12_48 x13_53 y407 x28_12 bt412.1 bt412.2 x13_53 0 l0_0 l0_1 l0_2 l0_3))) else (none)) else (none)) else (none)) else (none)) = some r := by rw [if_pos rfl] at H; exact H
                             clear H
                             have H := H1
                             clear H1
                             by_cases c108 : 0 ≤ x5_1
                             rotate_left
                             ·rw [if_neg c108] at H
                              exact absurd H (by simp)
                             rw [if_pos c108] at H
                             have c108b0 : decide (0 ≤ x5_1) = true := decide_eq_true c108
                             clear c108
                             by_cases c109 : x5_1 < (t357.length : Int)
                             rotate_left
                             ·rw [if_neg c109] at H
                              exact absurd H (by simp)
                             rw [if_pos c109] at H
                             have c109b0 : decide (x5_1 < (t357.length : Int)) = true := decide_eq_true c109
                             clear c109
                             by_cases c110 : 0 ≤ x28_12
                             rotate_left
                             ·rw [if_neg c110] at H
                              exact absurd H (by simp)
                             rw [if_pos c110] at H
                             have c110b0 : decide (0 ≤ x28_12) = true := decide_eq_true c110
                             clear c110
                             by_cases c111 : x28_12 < (y407.length : Int)
                             rotate_left
                             ·rw [if_neg c111] at H
                              exact absurd H (by simp)
                             rw [if_pos c111] at H
                             have c111b0 : decide (x28_12 < (y407.length : Int)) = true := decide_eq_true c111
                             clear c111
                             replace H := Option.bind_eq_some_iff.mp H
                             obtain ⟨⟨t412, t413⟩, A1120, H⟩ := H
                             replace H : (if x12_48 = true then (if 0 ≤ x11_4 then (if x11_4 < (t367.length : Int) then (if ((rd_T31 t367 x11_4).f0) = 8 then ((cellarref0_Num.f (rd y407 x28_12) (wrap64 (((rd_T31 t367 x11_4).f1) - 1))).bind fun t417 => (if t417 = true then (if 0 ≤ ((rd_T31 t367 x11_4).f2) then (if ((rd_T31 t367 x11_4).f2) < (t372.length : Int) then (cellarlaw7_LaySizes.j15 kj102 t357 y363 x5_1 x6_2 t367 t372 t375 t378 x11_4 x12_48 x13_53 y407 x28_12 t412 t413 0 (wrap64 ((rd y407 x28_12) * (rd t372 ((rd_T31 t367 x11_4).f2)))) l0_0 l0_1 l0_2 l0_3) else (none)) else (none)) else (cellarlaw7_LaySizes.j15 kj102 t357 y363 x5_1 x6_2 t367 t372 t375 t378 x11_4 x12_48 x13_53 y407 x28_12 t412 t413 2 0 l0_0 l0_1 l0_2 l0_3))) else (cellarlaw7_LaySizes.j16 kj102 t357 y363 x5_1 x6_2 t367 t372 t375 t378 x11_4 x12_48 x13_53 y407 x28_12 t412 t413 5 0 l0_0 l0_1 l0_2 l0_3)) else (none)) else (none)) else (cellarlaw7_LaySizes.j17 kj102 t357 y363 x5_1 x6_2 t367 t372 t375 t378 x11_4 x12_48 x13_53 y407 x28_12 t412 t413 x13_53 0 l0_0 l0_1 l0_2 l0_3)) = some r := H
                             have A112 := Aside0.mk A1120
                             clear A1120
                             have HC113 := Aside0.mk H
                             clear H
                             try go_wp2
                             have n0_ := Aside0.mk (Kd.R_drew HO_3.out)
                             have n1_ := Aside0.mk (Kd.R_drew HO_4.out)
                             have n2_ := Aside0.mk (Kd.S_drew HO_7.out)
                             have n3_ := Aside0.mk (Kd.R_drew HO_8.out)
                             have n4_ := Aside0.mk (Kd.R_drew HO_9.out)
                             have n5_ := Aside0.mk (Kd.R_drew HO_27.out)
                             have n6_ := Aside0.mk (blk_drew BK355.out)
                             have n7_ := Aside0.mk (below_drew1 HB.out)
                             clear HO_3
                             clear HO_4
                             clear HO_7
                             clear HO_8
                             clear HO_9
                             clear HO_27
                             clear BK355
                             clear HB
                             have HO_3 := n0_
                             have HO_4 := n1_
                             have HO_7 := n2_
                             have HO_8 := n3_
                             have HO_9 := n4_
                             have HO_27 := n5_
                             have BK355 := n6_
                             have HB := n7_
                             clear n0_ n1_ n2_ n3_ n4_ n5_ n6_ n7_
                             have p410 : 0 ≤ (x5_1 : Int) := zdec
                             have q410 : x5_1 < (t357.length : Int) := zdec
                             obtain ⟨ad410, e410, hx410_0, hx410_1⟩ := at_T29 (Kd.R_reads' HO_3.out).2.2 x5_1 p410 q410
                             obtain rfl : ad370 = ad410 := (by injection e410)
                             replace p410 := eq_true p410
                             replace q410 := eq_true q410
                             obtain ⟨Ao115, co115, eo115⟩ := Kd.R_slice HO_27.out
                             (first | subst eo115 | (injection eo115 with f1_ f2_ f3_; have f4_ := f1_.symm; have f5_ := f3_.symm; clear f1_ f2_ f3_; subst f4_; subst f5_))
                             have p411 : 0 ≤ (x28_12 : Int) := zdec
                             have q411 : x28_12 < (y407.length : Int) := zdec
                             obtain ⟨ad411, e411, hx411_0⟩ := Kd.at_int (Kd.R_reads' HO_27.out).2.2 x28_12 p411 q411
                             cases e411
                             replace p411 := eq_true p411
                             replace q411 := eq_true q411
                             refine start_ (n := 16) (S := fun w' => w'.cell? (ad370.add ((x5_1).toNat * 2)) = some (.bool ((rd_T29 t357 x5_1).f0)) ∧ w'.cell? ⟨(ad370.add ((x5_1).toNat * 2)).block, (ad370.add ((x5_1).toNat * 2)).off + 1, none⟩ = some (.int .i64 ((rd_T29 t357 x5_1).f1)) ∧ w'.cell? (ad411.add (x28_12).toNat) = some (.int .i64 (rd y407 x28_12))) (ds := []) cellarlaw7_LaySizes.b49 (by kernel_rfl) rfl rfl ⟨hx410_0, hx410_1, hx411_0⟩ (fun hHeld => ?_); refine with_tabW cellarlaw7_LaySizes.tab41 cellarlaw7_LaySizes.bits41 (fun HT_ HW_ => ?_)
                             generalize wc.drew = w114 at HO_3 HO_4 HO_7 HO_8 HO_9 HO_27 BK355 HB hx410_0 hx410_1 hx411_0 hHeld ⊢
                             refine zq 0 (some 227) HT_ ?_; refine zq 1 (some 228) HT_ ?_; refine zq 2 (some 229) HT_ ?_; refine zq 4 (some 231) HT_ ?_; refine zq 5 (some 232) HT_ ?_; refine zq 6 (some 233) HT_ ?_; refine zq 7 (some 234) HT_ ?_; refine zq 8 (some 235) HT_ ?_; refine zt 3 (some 230) HT_ HW_ hHeld ?_; refine zt 9 (some 236) HT_ HW_ hHeld ?_
                             refine one_ (i := 10) (N := some 237) cellarlaw7_LaySizes.b60 rfl rfl (one_of HT_.out (by kernel_rfl)) (by decide) (fun K hK => ?_)
                             refine goes_ Try.func23 (by kernel_rfl) rfl #[.agg #[.bool ((rd_T29 t357 x5_1).f0), .int .i64 ((rd_T29 t357 x5_1).f1)], .slice Ao44 t367.length co44, .int .i64 x11_4, .int .i64 (rd y407 x28_12)] (by rfl) rfl rfl (by (try simp only [List.map_toArray, List.map_cons, List.map_nil]); first | done | rfl | (simp only [List.length_drop, List.length_take]; rfl)) ?_
                             with_reducible refine (lay_Item.calls kj102 ((rd_T29 t357 x5_1).f0) ((rd_T29 t357 x5_1).f1) _ _ t367 x11_4 (rd y407 x28_12) t412 t413 _ ?side1 ?side2 A112.out).mono ?_
                             (case side1 => repeat (first | exact (Kd.S_reads' HO_7.out).2.2 | (with_reducible refine Kd.C_alloc ?_ _) | (with_reducible refine Kd.C_drewN ?_ _) | (with_reducible refine Kd.C_drew ?_)))
                             (case side2 => exact (Kd.S_reads' HO_7.out).2.1)
                             rintro e w116 ⟨rfl, hb⟩
                             have HS0_ := (hb.cell (World.block_lt_of_cell? _ _ (hHeld.1))).trans (hHeld.1)
                             have HS1_ := (hb.cell (World.block_lt_of_cell? _ _ (hHeld.2.1))).trans (hHeld.2.1)
                             have HS2_ := (hb.cell (World.block_lt_of_cell? _ _ (hHeld.2.2))).trans (hHeld.2.2)
                             refine ⟨_, rfl, ?_⟩
                             have n0_ := Aside0.mk (Kd.R_below (by (with_reducible repeat (first | apply Kd.R_alloc | apply Kd.R_drewN | apply Kd.R_drew)); exact HO_3.out) hb)
                             have n1_ := Aside0.mk (Kd.R_below (by (with_reducible repeat (first | apply Kd.R_alloc | apply Kd.R_drewN | apply Kd.R_drew)); exact HO_4.out) hb)
                             have n2_ := Aside0.mk (Kd.S_below (by (with_reducible repeat (first | apply Kd.S_alloc | apply Kd.S_drewN | apply Kd.S_drew)); exact HO_7.out) hb)
                             have n3_ := Aside0.mk (Kd.R_below (by (with_reducible repeat (first | apply Kd.R_alloc | apply Kd.R_drewN | apply Kd.R_drew)); exact HO_8.out) hb)
                             have n4_ := Aside0.mk (Kd.R_below (by (with_reducible repeat (first | apply Kd.R_alloc | apply Kd.R_drewN | apply Kd.R_drew)); exact HO_9.out) hb)
                             have n5_ := Aside0.mk (Kd.R_below (by (with_reducible repeat (first | apply Kd.R_alloc | apply Kd.R_drewN | apply Kd.R_drew)); exact HO_27.out) hb)
                             have n6_ := Aside0.mk (zbb BK355.out hb)
                             have n7_ := Aside0.mk (below_step (zw1 HB.out GE355.out) hb)
                             clear HO_3
                             clear HO_4
                             clear HO_7
                             clear HO_8
                             clear HO_9
                             clear HO_27
                             clear BK355
                             clear HB
                             have HO_3 := n0_
                             have HO_4 := n1_
                             have HO_7 := n2_
                             have HO_8 := n3_
                             have HO_9 := n4_
                             have HO_27 := n5_
                             have BK355 := n6_
                             have HB := n7_
                             clear n0_ n1_ n2_ n3_ n4_ n5_ n6_ n7_
                             (try clear hb)
                             (try clear hb2)
                             (try clear hk)
                             (try clear hi)
                             refine hK.out _ _ ⟨HS0_, HS1_, HS2_⟩ (fun hHeld => ?_)
                             clear hK K
                             refine norm_ (a' := ?_) ?_ ?_
                             rotate_left
                             ·show Act.put _ (some 237) _ = _
                              simp only [Act.put, List.setIfInBounds_toArray, List.set_cons_zero, List.set_cons_succ, i64_w, i32_w]
                              rfl
                             refine zq 11 (some 226) HT_ ?_; refine zq 12 (some 238) HT_ ?_; refine zq 13 (some 239) HT_ ?_; refine zq 14 (some 29) HT_ ?_; refine zq 15 (some 30) HT_ ?_
                             refine done_ (done_of HT_.out (by kernel_rfl)) ?_
                             go_upto_if 241 with (fail)
                             go_cut [31, 32] (fun v31 v32 wc => ∃ (kq : Nat) (x31_112 : Int) (x32_112 : Int), v31 = .int .i64 x31_112 ∧ v32 = .int .i64 x32_112 ∧ Aside0 (cellarlaw7_LaySizes.j17 kq t357 y363 x5_1 x6_2 t367 t372 t375 t378 x11_4 x12_48 x13_53 y407 x28_12 t412 t413 x31_112 x32_112 l0_0 l0_1 l0_2 l0_3 = some r) ∧ Aside0 (kq ≤ kj102) ∧ Aside0 (Kd.R k29 29 wc w.heap.size (fun _ => True) (.slice (some ad370) t357.length co19) t357) ∧ Aside0 (Kd.R Kd.string 9 wc w.heap.size (fun _ => True) v364 y363) ∧ Aside0 (Kd.S k31 31 wc w.heap.size (fun k_ => some k_ ≠ (v364 : Value).ownBlock ∧ some k_ ≠ (v373 : Value).ownBlock ∧ some k_ ≠ (v376 : Value).ownBlock ∧ some k_ ≠ ((.slice (some ad411) y407.length co115) : Value).ownBlock) (.slice Ao44 t367.length co44) t367) ∧ Aside0 (Kd.R (Kd.int .i64) 3 wc w.heap.size (fun k_ => some k_ ≠ (v376 : Value).ownBlock ∧ some k_ ≠ ((.slice (some ad411) y407.length co115) : Value).ownBlock) v373 t372) ∧ Aside0 (Kd.R (Kd.int .i64) 3 wc w.heap.size (fun k_ => some k_ ≠ (v373 : Value).ownBlock ∧ some k_ ≠ ((.slice (some ad411) y407.length co115) : Value).ownBlock) v376 t375) ∧ Aside0 (Kd.R (Kd.int .i64) 3 wc w.heap.size (fun k_ => some k_ ≠ (v373 : Value).ownBlock ∧ some k_ ≠ (v376 : Value).ownBlock) (.slice (some ad411) y407.length co115) y407) ∧ Aside0 (wc.heap[gb355]? = some (.cells #[(.slice A0_0 l0_0.length c0_0), (.slice (some ad366) l0_1.length c0_1), (.slice A0_2 l0_2.length c0_2), (.slice A0_3 l0_3.length c0_3)] 27 (0, 0))) ∧ Aside0 (Below w.heap.size w wc))
                             case first => as_aux_lemma =>
                              have H := HC113.out
                              clear HC113
                              by_cases c117 : x12_48 = true
                              rotate_left
                              ·replace c117 := Bool.eq_false_iff.mpr c117
                               subst c117
                               have H1 : (cellarlaw7_LaySizes.j17 kj102 t357 y363 x5_1 x6_2 t367 t372 t375 t378 x11_4 false x13_53 y407 x28_12 t412 t413 x13_53 0 l0_0 l0_1 l0_2 l0_3) = some r := by rw [if_neg (show ¬ (false = true) by decide)] at H; exact H
                               clear H
                               have H := H1
                               clear H1
                               have H' := Aside0.mk H
                               clear H
                               go_wp2
                               go_meet
                               case rel => exact ⟨_, (x13_53), (0), (zr), (zr), H', ⟨by have := HK1.out; have := HK2.out; have := HJ19.out; have := HK4.out; have := HJ45.out; have := HJ48.out; have := HJ51.out; have := HJ53.out; have := HJ65.out; have := HK10.out; have := HJ74.out; have := HK12.out; have := HJ102.out; first | omega | exact Nat.le_refl _⟩, ⟨by (with_reducible repeat (first | apply Kd.R_alloc | apply Kd.R_drewN | apply Kd.R_drew)); exact HO_3.out⟩, ⟨by (with_reducible repeat (first | apply Kd.R_alloc | apply Kd.R_drewN | apply Kd.R_drew)); exact HO_4.out⟩, ⟨by (with_reducible repeat (first | apply Kd.S_alloc | apply Kd.S_drewN | apply Kd.S_drew)); exact HO_7.out⟩, ⟨by (with_reducible repeat (first | apply Kd.R_alloc | apply Kd.R_drewN | apply Kd.R_drew)); exact HO_8.out⟩, ⟨by (with_reducible repeat (first | apply Kd.R_alloc | apply Kd.R_drewN | apply Kd.R_drew)); exact HO_9.out⟩, ⟨by (with_reducible repeat (first | apply Kd.R_alloc | apply Kd.R_drewN | apply Kd.R_drew)); exact HO_27.out⟩, ⟨zb BK355.out⟩, ⟨zw1 HB.out GE355.out⟩⟩
                              subst c117
                              have H1 : (if 0 ≤ x11_4 then (if x11_4 < (t367.length : Int) then (if ((rd_T31 t367 x11_4).f0) = 8 then ((cellarref0_Num.f (rd y407 x28_12) (wrap64 (((rd_T31 t367 x11_4).f1) - 1))).bind fun t417 => (if t417 = true then (if 0 ≤ ((rd_T31 t367 x11_4).f2) then (if ((rd_T31 t367 x11_4).f2) < (t372.length : Int) then (cellarlaw7_LaySizes.j15 kj102 t357 y363 x5_1 x6_2 t367 t372 t375 t378 x11_4 true x13_53 y407 x28_12 t412 t413 0 (wrap64 ((rd y407 x28_12) * (rd t372 ((rd_T31 t367 x11_4).f2)))) l0_0 l0_1 l0_2 l0_3) else (none)) else (none)) else (cellarlaw7_LaySizes.j15 kj102 t357 y363 x5_1 x6_2 t367 t372 t375 t378 x11_4 true x13_53 y407 x28_12 t412 t413 2 0 l0_0 l0_1 l0_2 l0_3))) else (cellarlaw7_LaySizes.j16 kj102 t357 y363 x5_1 x6_2 t367 t372 t375 t378 x11_4 true x13_53 y407 x28_12 t412 t413 5 0 l0_0 l0_1 l0_2 l0_3)) else (none)) else (none)) = some r := by rw [if_pos rfl] at H; exact H
                              clear H
                              have H := H1
                              clear H1
                              by_cases c118 : 0 ≤ x11_4
                              rotate_left
                              ·rw [if_neg c118] at H
                               exact absurd H (by simp)
                              rw [if_pos c118] at H
                              have c118b0 : decide (0 ≤ x11_4) = true := decide_eq_true c118
                              clear c118
                              (first | rw [c118b0] | (simp only [i64_w, i32_w]; rw [c118b0]) | skip)
                              by_cases c119 : x11_4 < (t367.length : Int)
                              rotate_left
                              ·rw [if_neg c119] at H
                               exact absurd H (by simp)
                              rw [if_pos c119] at H
                              have c119b0 : decide (x11_4 < (t367.length : Int)) = true := decide_eq_true c119
                              clear c119
                              have HC120 := Aside0.mk H
                              clear H
                              have p414 : 0 ≤ (x11_4 : Int) := zdec
                              have q414 : x11_4 < (t367.length : Int) := zdec
                              obtain ⟨ad414, A414_3, c414_3, A414_4, c414_4, e414, hx414_0, hx414_1, hx414_2, hx414_3, hx414_4, hl414_3, hi414_3, hl414_4, hi414_4⟩ := at_T31 (Kd.S_reads' HO_7.out).2.2 x11_4 p414 q414
                              cases e414
                              obtain ⟨ce414, hce414, hMe414, hcc414⟩ := Kd.S_get HO_7.out z31 x11_4 p414 (by first | exact q414 | exact zdec | (have e_ := (Kd.S_reads' HO_7.out).1; omega))
                              obtain ⟨ve414_3, ve414_4, rfl, ge414_3, ge414_4⟩ := k31_openM hMe414
                              have hv414_3 := hcc414 3 _ rfl
                              rw [add_field _ _ 3 (by omega)] at hv414_3
                              replace hv414_3 := Option.some.inj (hv414_3.symm.trans hx414_3)
                              rw [hv414_3] at ge414_3
                              have HL414_3 := Aside0.mk (show Kd.R Kd.string 9 _ _ _ _ ((rd_T31 t367 x11_4).f3) from ge414_3)
                              clear hv414_3 ge414_3
                              have hv414_4 := hcc414 4 _ rfl
                              rw [add_field _ _ 4 (by omega)] at hv414_4
                              replace hv414_4 := Option.some.inj (hv414_4.symm.trans hx414_4)
                              rw [hv414_4] at ge414_4
                              have HL414_4 := Aside0.mk (show Kd.R (Kd.int .i64) 3 _ _ _ _ ((rd_T31 t367 x11_4).f4) from ge414_4)
                              clear hv414_4 ge414_4
                              clear hcc414 hce414
                              have HR414_3 := Aside0.mk hi414_3
                              have HC414_3 := Aside0.mk hl414_3
                              clear hi414_3 hl414_3
                              have HR414_4 := Aside0.mk hi414_4
                              have HC414_4 := Aside0.mk hl414_4
                              clear hi414_4 hl414_4
                              replace p414 := eq_true p414
                              replace q414 := eq_true q414
                              go_upto_if 247 with (fail)
                              go_cut [31, 32] (fun v31 v32 wc => ∃ (kq : Nat) (x31_119 : Int) (x32_119 : Int), v31 = .int .i64 x31_119 ∧ v32 = .int .i64 x32_119 ∧ Aside0 (cellarlaw7_LaySizes.j16 kq t357 y363 x5_1 x6_2 t367 t372 t375 t378 x11_4 true x13_53 y407 x28_12 t412 t413 x31_119 x32_119 l0_0 l0_1 l0_2 l0_3 = some r) ∧ Aside0 (kq ≤ kj102) ∧ Aside0 (Kd.R k29 29 wc w.heap.size (fun _ => True) (.slice (some ad370) t357.length co19) t357) ∧ Aside0 (Kd.R Kd.string 9 wc w.heap.size (fun _ => True) v364 y363) ∧ Aside0 (Kd.S k31 31 wc w.heap.size (fun k_ => some k_ ≠ (v364 : Value).ownBlock ∧ some k_ ≠ (v373 : Value).ownBlock ∧ some k_ ≠ (v376 : Value).ownBlock ∧ some k_ ≠ ((.slice (some ad411) y407.length co115) : Value).ownBlock) (.slice (some ad414) t367.length co44) t367) ∧ Aside0 (Kd.R (Kd.int .i64) 3 wc w.heap.size (fun k_ => some k_ ≠ (v376 : Value).ownBlock ∧ some k_ ≠ ((.slice (some ad411) y407.length co115) : Value).ownBlock) v373 t372) ∧ Aside0 (Kd.R (Kd.int .i64) 3 wc w.heap.size (fun k_ => some k_ ≠ (v373 : Value).ownBlock ∧ some k_ ≠ ((.slice (some ad411) y407.length co115) : Value).ownBlock) v376 t375) ∧ Aside0 (Kd.R (Kd.int .i64) 3 wc w.heap.size (fun k_ => some k_ ≠ (v373 : Value).ownBlock ∧ some k_ ≠ (v376 : Value).ownBlock) (.slice (some ad411) y407.length co115) y407) ∧ Aside0 (wc.heap[gb355]? = some (.cells #[(.slice A0_0 l0_0.length c0_0), (.slice (some ad366) l0_1.length c0_1), (.slice A0_2 l0_2.length c0_2), (.slice A0_3 l0_3.length c0_3)] 27 (0, 0))) ∧ Aside0 (Kd.C Kd.string wc A414_3 ((rd_T31 t367 x11_4).f3).length ((rd_T31 t367 x11_4).f3)) ∧ Aside0 (Kd.C (Kd.int .i64) wc A414_4 ((rd_T31 t367 x11_4).f4).length ((rd_T31 t367 x11_4).f4)) ∧ Aside0 (Below w.heap.size w wc))
                              case first => as_aux_lemma =>
                               have H := HC120.out
                               clear HC120
                               by_cases c121 : ((rd_T31 t367 x11_4).f0) = 8
                               rotate_left
                               ·rw [if_neg c121] at H
                                have c121b0 : (((rd_T31 t367 x11_4).f0) == 8) = false := beq_eq_false_iff_ne.mpr c121
                                have c121b1 : (((rd_T31 t367 x11_4).f0) != 8) = true := bne_iff_ne.mpr c121
                                (first | rw [c121b0] | (simp only [i64_w, i32_w]; rw [c121b0]) | skip)
                                have H' := Aside0.mk H
                                clear H
                                go_wp2
                                go_meet
                                case rel => exact ⟨_, (5), (0), (zr), (zr), H', ⟨by have := HK1.out; have := HK2.out; have := HJ19.out; have := HK4.out; have := HJ45.out; have := HJ48.out; have := HJ51.out; have := HJ53.out; have := HJ65.out; have := HK10.out; have := HJ74.out; have := HK12.out; have := HJ102.out; first | omega | exact Nat.le_refl _⟩, ⟨by (with_reducible repeat (first | apply Kd.R_alloc | apply Kd.R_drewN | apply Kd.R_drew)); exact HO_3.out⟩, ⟨by (with_reducible repeat (first | apply Kd.R_alloc | apply Kd.R_drewN | apply Kd.R_drew)); exact HO_4.out⟩, ⟨by (with_reducible repeat (first | apply Kd.S_alloc | apply Kd.S_drewN | apply Kd.S_drew)); exact HO_7.out⟩, ⟨by (with_reducible repeat (first | apply Kd.R_alloc | apply Kd.R_drewN | apply Kd.R_drew)); exact HO_8.out⟩, ⟨by (with_reducible repeat (first | apply Kd.R_alloc | apply Kd.R_drewN | apply Kd.R_drew)); exact HO_9.out⟩, ⟨by (with_reducible repeat (first | apply Kd.R_alloc | apply Kd.R_drewN | apply Kd.R_drew)); exact HO_27.out⟩, ⟨zb BK355.out⟩, ⟨by repeat (first | (with_reducible exact HR414_3.out) | (with_reducible refine Kd.C_alloc ?_ _) | (with_reducible refine Kd.C_drewN ?_ _) | (with_reducible refine Kd.C_drew ?_) | exact HR414_3.out)⟩, ⟨by repeat (first | (with_reducible exact HR414_4.out) | (with_reducible refine Kd.C_alloc ?_ _) | (with_reducible refine Kd.C_drewN ?_ _) | (with_reducible refine Kd.C_drew ?_) | exact HR414_4.out)⟩, ⟨zw1 HB.out GE355.out⟩⟩
                               rw [if_pos c121] at H
                               have c121b0 : (((rd_T31 t367 x11_4).f0) == 8) = true := beq_iff_eq.mpr c121
                               have c121b1 : (((rd_T31 t367 x11_4).f0) != 8) = false := bne_eq_false_iff_eq.mpr c121
                               clear c121
                               (first | rw [c121b0] | (simp only [i64_w, i32_w]; rw [c121b0]) | skip)
                               replace H := Option.bind_eq_some_iff.mp H
                               obtain ⟨t417, A1220, H⟩ := H
                               replace H : (if t417 = true then (if 0 ≤ ((rd_T31 t367 x11_4).f2) then (if ((rd_T31 t367 x11_4).f2) < (t372.length : Int) then (cellarlaw7_LaySizes.j15 kj102 t357 y363 x5_1 x6_2 t367 t372 t375 t378 x11_4 true x13_53 y407 x28_12 t412 t413 0 (wrap64 ((rd y407 x28_12) * (rd t372 ((rd_T31 t367 x11_4).f2)))) l0_0 l0_1 l0_2 l0_3) else (none)) else (none)) else (cellarlaw7_LaySizes.j15 kj102 t357 y363 x5_1 x6_2 t367 t372 t375 t378 x11_4 true x13_53 y407 x28_12 t412 t413 2 0 l0_0 l0_1 l0_2 l0_3)) = some r := H
                               have A122 := Aside0.mk A1220
                               clear A1220
                               have HC123 := Aside0.mk H
                               clear H
                               try go_wp2
                               have n0_ := Aside0.mk (Kd.R_drew HO_3.out)
                               have n1_ := Aside0.mk (Kd.R_drew HO_4.out)
                               have n2_ := Aside0.mk (Kd.S_drew HO_7.out)
                               have n3_ := Aside0.mk (Kd.R_drew HO_8.out)
                               have n4_ := Aside0.mk (Kd.R_drew HO_9.out)
                               have n5_ := Aside0.mk (Kd.R_drew HO_27.out)
                               have n6_ := Aside0.mk (Kd.R_drew HL414_3.out)
                               have n7_ := Aside0.mk (Kd.R_drew HL414_4.out)
                               have n8_ := Aside0.mk (blk_drew BK355.out)
                               have n9_ := Aside0.mk (Kd.C_drew HR414_3.out)
                               have n10_ := Aside0.mk (Kd.C_drew HR414_4.out)
                               have n11_ := Aside0.mk (below_drew1 HB.out)
                               clear HO_3
                               clear HO_4
                               clear HO_7
                               clear HO_8
                               clear HO_9
                               clear HO_27
                               clear HL414_3
                               clear HL414_4
                               clear BK355
                               clear HR414_3
                               clear HR414_4
                               clear HB
                               have HO_3 := n0_
                               have HO_4 := n1_
                               have HO_7 := n2_
                               have HO_8 := n3_
                               have HO_9 := n4_
                               have HO_27 := n5_
                               have HL414_3 := n6_
                               have HL414_4 := n7_
                               have BK355 := n8_
                               have HR414_3 := n9_
                               have HR414_4 := n10_
                               have HB := n11_
                               clear n0_ n1_ n2_ n3_ n4_ n5_ n6_ n7_ n8_ n9_ n10_ n11_
                               have p415 : 0 ≤ (x28_12 : Int) := zdec
                               have q415 : x28_12 < (y407.length : Int) := zdec
                               obtain ⟨ad415, e415, hx415_0⟩ := Kd.at_int (Kd.R_reads' HO_27.out).2.2 x28_12 p415 q415
                               obtain rfl : ad411 = ad415 := (by injection e415)
                               replace p415 := eq_true p415
                               replace q415 := eq_true q415
                               have p416 : 0 ≤ (x11_4 : Int) := zdec
                               have q416 : x11_4 < (t367.length : Int) := zdec
                               obtain ⟨ad416, A416_3, c416_3, A416_4, c416_4, e416, hx416_0, hx416_1, hx416_2, hx416_3, hx416_4, hl416_3, hi416_3, hl416_4, hi416_4⟩ := at_T31 (Kd.S_reads' HO_7.out).2.2 x11_4 p416 q416
                               obtain rfl : ad414 = ad416 := (by injection e416)
                               obtain ⟨ce416, hce416, hMe416, hcc416⟩ := Kd.S_get HO_7.out z31 x11_4 p416 (by first | exact q416 | exact zdec | (have e_ := (Kd.S_reads' HO_7.out).1; omega))
                               obtain ⟨ve416_3, ve416_4, rfl, ge416_3, ge416_4⟩ := k31_openM hMe416
                               have hv416_3 := hcc416 3 _ rfl
                               rw [add_field _ _ 3 (by omega)] at hv416_3
                               replace hv416_3 := Option.some.inj (hv416_3.symm.trans hx416_3)
                               rw [hv416_3] at ge416_3
                               have HL416_3 := Aside0.mk (show Kd.R Kd.string 9 _ _ _ _ ((rd_T31 t367 x11_4).f3) from ge416_3)
                               clear hv416_3 ge416_3
                               have hv416_4 := hcc416 4 _ rfl
                               rw [add_field _ _ 4 (by omega)] at hv416_4
                               replace hv416_4 := Option.some.inj (hv416_4.symm.trans hx416_4)
                               rw [hv416_4] at ge416_4
                               have HL416_4 := Aside0.mk (show Kd.R (Kd.int .i64) 3 _ _ _ _ ((rd_T31 t367 x11_4).f4) from ge416_4)
                               clear hv416_4 ge416_4
                               clear hcc416 hce416
                               have HR416_3 := Aside0.mk hi416_3
                               have HC416_3 := Aside0.mk hl416_3
                               clear hi416_3 hl416_3
                               have HR416_4 := Aside0.mk hi416_4
                               have HC416_4 := Aside0.mk hl416_4
                               clear hi416_4 hl416_4
                               replace p416 := eq_true p416
                               replace q416 := eq_true q416
                               refine start_ (n := 11) (S := fun w' => w'.cell? (ad411.add (x28_12).toNat) = some (.int .i64 (rd y407 x28_12)) ∧ w'.cell? (ad414.add ((x11_4).toNat * 5)) = some (.int .i64 ((rd_T31 t367 x11_4).f0)) ∧ w'.cell? ⟨(ad414.add ((x11_4).toNat * 5)).block, (ad414.add ((x11_4).toNat * 5)).off + 1, none⟩ = some (.int .i64 ((rd_T31 t367 x11_4).f1)) ∧ w'.cell? ⟨(ad414.add ((x11_4).toNat * 5)).block, (ad414.add ((x11_4).toNat * 5)).off + 2, none⟩ = some (.int .i64 ((rd_T31 t367 x11_4).f2)) ∧ w'.cell? ⟨(ad414.add ((x11_4).toNat * 5)).block, (ad414.add ((x11_4).toNat * 5)).off + 3, none⟩ = some (.slice A416_3 ((rd_T31 t367 x11_4).f3).length c416_3) ∧ w'.cell? ⟨(ad414.add ((x11_4).toNat * 5)).block, (ad414.add ((x11_4).toNat * 5)).off + 4, none⟩ = some (.slice A416_4 ((rd_T31 t367 x11_4).f4).length c416_4)) (ds := []) cellarlaw7_LaySizes.b18 (by kernel_rfl) rfl rfl ⟨hx415_0, hx416_0, hx416_1, hx416_2, hx416_3, hx416_4⟩ (fun hHeld => ?_); refine with_tabW cellarlaw7_LaySizes.tab47 cellarlaw7_LaySizes.bits47 (fun HT_ HW_ => ?_)
                               generalize w116.drew = w124 at HO_3 HO_4 HO_7 HO_8 HO_9 HO_27 HL414_3 HL414_4 BK355 HR414_3 HR414_4 HB HL416_3 HL416_4 HR416_3 HR416_4 hx415_0 hx416_0 hx416_1 hx416_2 hx416_3 hx416_4 hHeld ⊢
                               refine zq 0 (some 248) HT_ ?_; refine zq 1 (some 249) HT_ ?_; refine zq 2 (some 250) HT_ ?_; refine zq 4 (some 252) HT_ ?_; refine zq 5 (some 253) HT_ ?_; refine zq 6 (some 254) HT_ ?_; refine zq 7 (some 255) HT_ ?_; refine zt 3 (some 251) HT_ HW_ hHeld ?_; refine zt 8 (some 256) HT_ HW_ hHeld ?_; refine zq 9 (some 257) HT_ ?_
                               refine one_ (i := 10) (N := some 258) cellarlaw7_LaySizes.b29 rfl rfl (one_of HT_.out (by kernel_rfl)) (by decide) (fun K hK => ?_)
                               refine goes_ Try.func18 (by kernel_rfl) rfl #[.int .i64 (rd y407 x28_12), .int .i64 (wrap64 (((rd_T31 t367 x11_4).f1) - 1))] (by rfl) rfl rfl (by (try simp only [List.map_toArray, List.map_cons, List.map_nil]); first | done | rfl | (simp only [List.length_drop, List.length_take]; rfl)) ?_
                               with_reducible refine (cellarref0_Num.calls (rd y407 x28_12) (wrap64 (((rd_T31 t367 x11_4).f1) - 1)) t417 _ A122.out).mono ?_
                               rintro e w' ⟨rfl, ⟨nd, rfl⟩⟩
                               refine ⟨_, rfl, ?_⟩
                               refine hK.out _ _ ⟨hHeld.1, hHeld.2.1, hHeld.2.2.1, hHeld.2.2.2.1, hHeld.2.2.2.2.1, hHeld.2.2.2.2.2⟩ (fun hHeld => ?_)
                               clear hK K
                               refine norm_ (a' := ?_) ?_ ?_
                               rotate_left
                               ·show Act.put _ (some 258) _ = _
                                simp only [Act.put, List.setIfInBounds_toArray, List.set_cons_zero, List.set_cons_succ, i64_w, i32_w]
                                rfl
                               refine done_ (done_of HT_.out (by kernel_rfl)) ?_
                               go_upto_if 258 with (fail)
                               go_cut [31, 32] (fun v31 v32 wc => ∃ (kq : Nat) (x31_122 : Int) (x32_122 : Int), v31 = .int .i64 x31_122 ∧ v32 = .int .i64 x32_122 ∧ Aside0 (cellarlaw7_LaySizes.j15 kq t357 y363 x5_1 x6_2 t367 t372 t375 t378 x11_4 true x13_53 y407 x28_12 t412 t413 x31_122 x32_122 l0_0 l0_1 l0_2 l0_3 = some r) ∧ Aside0 (kq ≤ kj102) ∧ Aside0 (Kd.R k29 29 wc w.heap.size (fun _ => True) (.slice (some ad370) t357.length co19) t357) ∧ Aside0 (Kd.R Kd.string 9 wc w.heap.size (fun _ => True) v364 y363) ∧ Aside0 (Kd.S k31 31 wc w.heap.size (fun k_ => some k_ ≠ (v364 : Value).ownBlock ∧ some k_ ≠ (v373 : Value).ownBlock ∧ some k_ ≠ (v376 : Value).ownBlock ∧ some k_ ≠ ((.slice (some ad411) y407.length co115) : Value).ownBlock) (.slice (some ad414) t367.length co44) t367) ∧ Aside0 (Kd.R (Kd.int .i64) 3 wc w.heap.size (fun k_ => some k_ ≠ (v376 : Value).ownBlock ∧ some k_ ≠ ((.slice (some ad411) y407.length co115) : Value).ownBlock) v373 t372) ∧ Aside0 (Kd.R (Kd.int .i64) 3 wc w.heap.size (fun k_ => some k_ ≠ (v373 : Value).ownBlock ∧ some k_ ≠ ((.slice (some ad411) y407.length co115) : Value).ownBlock) v376 t375) ∧ Aside0 (Kd.R (Kd.int .i64) 3 wc w.heap.size (fun k_ => some k_ ≠ (v373 : Value).ownBlock ∧ some k_ ≠ (v376 : Value).ownBlock) (.slice (some ad411) y407.length co115) y407) ∧ Aside0 (wc.heap[gb355]? = some (.cells #[(.slice A0_0 l0_0.length c0_0), (.slice (some ad366) l0_1.length c0_1), (.slice A0_2 l0_2.length c0_2), (.slice A0_3 l0_3.length c0_3)] 27 (0, 0))) ∧ Aside0 (Kd.C Kd.string wc A414_3 ((rd_T31 t367 x11_4).f3).length ((rd_T31 t367 x11_4).f3)) ∧ Aside0 (Kd.C (Kd.int .i64) wc A414_4 ((rd_T31 t367 x11_4).f4).length ((rd_T31 t367 x11_4).f4)) ∧ Aside0 (Kd.C Kd.string wc A416_3 ((rd_T31 t367 x11_4).f3).length ((rd_T31 t367 x11_4).f3)) ∧ Aside0 (Kd.C (Kd.int .i64) wc A416_4 ((rd_T31 t367 x11_4).f4).length ((rd_T31 t367 x11_4).f4)) ∧ Aside0 (Below w.heap.size w wc))
                               case first => as_aux_lemma =>
                                have H := HC123.out
                                clear HC123
                                by_cases c125 : t417 = true
                                rotate_left
                                ·replace c125 := Bool.eq_false_iff.mpr c125
                                 subst c125
                                 have H1 : (cellarlaw7_LaySizes.j15 kj102 t357 y363 x5_1 x6_2 t367 t372 t375 t378 x11_4 true x13_53 y407 x28_12 t412 t413 2 0 l0_0 l0_1 l0_2 l0_3) = some r := by rw [if_neg (show ¬ (false = true) by decide)] at H; exact H
                                 clear H
                                 have H := H1
                                 clear H1
                                 have H' := Aside0.mk H
                                 clear H
                                 go_wp2
                                 go_meet
                                 case rel => exact ⟨_, (2), (0), (zr), (zr), H', ⟨by have := HK1.out; have := HK2.out; have := HJ19.out; have := HK4.out; have := HJ45.out; have := HJ48.out; have := HJ51.out; have := HJ53.out; have := HJ65.out; have := HK10.out; have := HJ74.out; have := HK12.out; have := HJ102.out; first | omega | exact Nat.le_refl _⟩, ⟨by (with_reducible repeat (first | apply Kd.R_alloc | apply Kd.R_drewN | apply Kd.R_drew)); exact HO_3.out⟩, ⟨by (with_reducible repeat (first | apply Kd.R_alloc | apply Kd.R_drewN | apply Kd.R_drew)); exact HO_4.out⟩, ⟨by (with_reducible repeat (first | apply Kd.S_alloc | apply Kd.S_drewN | apply Kd.S_drew)); exact HO_7.out⟩, ⟨by (with_reducible repeat (first | apply Kd.R_alloc | apply Kd.R_drewN | apply Kd.R_drew)); exact HO_8.out⟩, ⟨by (with_reducible repeat (first | apply Kd.R_alloc | apply Kd.R_drewN | apply Kd.R_drew)); exact HO_9.out⟩, ⟨by (with_reducible repeat (first | apply Kd.R_alloc | apply Kd.R_drewN | apply Kd.R_drew)); exact HO_27.out⟩, ⟨zb BK355.out⟩, ⟨by repeat (first | (with_reducible exact HR414_3.out) | (with_reducible refine Kd.C_alloc ?_ _) | (with_reducible refine Kd.C_drewN ?_ _) | (with_reducible refine Kd.C_drew ?_) | exact HR414_3.out)⟩, ⟨by repeat (first | (with_reducible exact HR414_4.out) | (with_reducible refine Kd.C_alloc ?_ _) | (with_reducible refine Kd.C_drewN ?_ _) | (with_reducible refine Kd.C_drew ?_) | exact HR414_4.out)⟩, ⟨by repeat (first | (with_reducible exact HR416_3.out) | (with_reducible refine Kd.C_alloc ?_ _) | (with_reducible refine Kd.C_drewN ?_ _) | (with_reducible refine Kd.C_drew ?_) | exact HR416_3.out)⟩, ⟨by repeat (first | (with_reducible exact HR416_4.out) | (with_reducible refine Kd.C_alloc ?_ _) | (with_reducible refine Kd.C_drewN ?_ _) | (with_reducible refine Kd.C_drew ?_) | exact HR416_4.out)⟩, ⟨zw1 HB.out GE355.out⟩⟩
                                subst c125
                                have H1 : (if 0 ≤ ((rd_T31 t367 x11_4).f2) then (if ((rd_T31 t367 x11_4).f2) < (t372.length : Int) then (cellarlaw7_LaySizes.j15 kj102 t357 y363 x5_1 x6_2 t367 t372 t375 t378 x11_4 true x13_53 y407 x28_12 t412 t413 0 (wrap64 ((rd y407 x28_12) * (rd t372 ((rd_T31 t367 x11_4).f2)))) l0_0 l0_1 l0_2 l0_3) else (none)) else (none)) = some r := by rw [if_pos rfl] at H; exact H
                                clear H
                                have H := H1
                                clear H1
                                by_cases c126 : 0 ≤ ((rd_T31 t367 x11_4).f2)
                                rotate_left
                                ·rw [if_neg c126] at H
                                 exact absurd H (by simp)
                                rw [if_pos c126] at H
                                have c126b0 : decide (0 ≤ ((rd_T31 t367 x11_4).f2)) = true := decide_eq_true c126
                                clear c126
                                (first | rw [c126b0] | (simp only [i64_w, i32_w]; rw [c126b0]) | skip)
                                by_cases c127 : ((rd_T31 t367 x11_4).f2) < (t372.length : Int)
                                rotate_left
                                ·rw [if_neg c127] at H
                                 exact absurd H (by simp)
                                rw [if_pos c127] at H
                                have c127b0 : decide (((rd_T31 t367 x11_4).f2) < (t372.length : Int)) = true := decide_eq_true c127
                                clear c127
                                have H' := Aside0.mk H
                                clear H
                                try go_wp2
                                have n0_ := Aside0.mk (Kd.R_drew (Kd.R_drewN HO_3.out nd))
                                have n1_ := Aside0.mk (Kd.R_drew (Kd.R_drewN HO_4.out nd))
                                have n2_ := Aside0.mk (Kd.S_drew (Kd.S_drewN HO_7.out nd))
                                have n3_ := Aside0.mk (Kd.R_drew (Kd.R_drewN HO_8.out nd))
                                have n4_ := Aside0.mk (Kd.R_drew (Kd.R_drewN HO_9.out nd))
                                have n5_ := Aside0.mk (Kd.R_drew (Kd.R_drewN HO_27.out nd))
                                have n6_ := Aside0.mk (Kd.R_drew (Kd.R_drewN HL414_3.out nd))
                                have n7_ := Aside0.mk (Kd.R_drew (Kd.R_drewN HL414_4.out nd))
                                have n8_ := Aside0.mk (Kd.R_drew (Kd.R_drewN HL416_3.out nd))
                                have n9_ := Aside0.mk (Kd.R_drew (Kd.R_drewN HL416_4.out nd))
                                have n10_ := Aside0.mk (blk_drew (blk_drewN BK355.out nd))
                                have n11_ := Aside0.mk (Kd.C_drew (Kd.C_drewN HR414_3.out nd))
                                have n12_ := Aside0.mk (Kd.C_drew (Kd.C_drewN HR414_4.out nd))
                                have n13_ := Aside0.mk (Kd.C_drew (Kd.C_drewN HR416_3.out nd))
                                have n14_ := Aside0.mk (Kd.C_drew (Kd.C_drewN HR416_4.out nd))
                                have n15_ := Aside0.mk (below_drew1 (pw_below_drewN HB.out nd))
                                clear HO_3
                                clear HO_4
                                clear HO_7
                                clear HO_8
                                clear HO_9
                                clear HO_27
                                clear HL414_3
                                clear HL414_4
                                clear HL416_3
                                clear HL416_4
                                clear BK355
                                clear HR414_3
                                clear HR414_4
                                clear HR416_3
                                clear HR416_4
                                clear HB
                                have HO_3 := n0_
                                have HO_4 := n1_
                                have HO_7 := n2_
                                have HO_8 := n3_
                                have HO_9 := n4_
                                have HO_27 := n5_
                                have HL414_3 := n6_
                                have HL414_4 := n7_
                                have HL416_3 := n8_
                                have HL416_4 := n9_
                                have BK355 := n10_
                                have HR414_3 := n11_
                                have HR414_4 := n12_
                                have HR416_3 := n13_
                                have HR416_4 := n14_
                                have HB := n15_
                                clear n0_ n1_ n2_ n3_ n4_ n5_ n6_ n7_ n8_ n9_ n10_ n11_ n12_ n13_ n14_ n15_
                                have p418 : 0 ≤ (x28_12 : Int) := zdec
                                have q418 : x28_12 < (y407.length : Int) := zdec
                                obtain ⟨ad418, e418, hx418_0⟩ := Kd.at_int (Kd.R_reads' HO_27.out).2.2 x28_12 p418 q418
                                obtain rfl : ad411 = ad418 := (by injection e418)
                                replace p418 := eq_true p418
                                replace q418 := eq_true q418
                                have p419 : 0 ≤ (x11_4 : Int) := zdec
                                have q419 : x11_4 < (t367.length : Int) := zdec
                                obtain ⟨ad419, A419_3, c419_3, A419_4, c419_4, e419, hx419_0, hx419_1, hx419_2, hx419_3, hx419_4, hl419_3, hi419_3, hl419_4, hi419_4⟩ := at_T31 (Kd.S_reads' HO_7.out).2.2 x11_4 p419 q419
                                obtain rfl : ad414 = ad419 := (by injection e419)
                                obtain ⟨ce419, hce419, hMe419, hcc419⟩ := Kd.S_get HO_7.out z31 x11_4 p419 (by first | exact q419 | exact zdec | (have e_ := (Kd.S_reads' HO_7.out).1; omega))
                                obtain ⟨ve419_3, ve419_4, rfl, ge419_3, ge419_4⟩ := k31_openM hMe419
                                have hv419_3 := hcc419 3 _ rfl
                                rw [add_field _ _ 3 (by omega)] at hv419_3
                                replace hv419_3 := Option.some.inj (hv419_3.symm.trans hx419_3)
                                rw [hv419_3] at ge419_3
                                have HL419_3 := Aside0.mk (show Kd.R Kd.string 9 _ _ _ _ ((rd_T31 t367 x11_4).f3) from ge419_3)
                                clear hv419_3 ge419_3
                                have hv419_4 := hcc419 4 _ rfl
                                rw [add_field _ _ 4 (by omega)] at hv419_4
                                replace hv419_4 := Option.some.inj (hv419_4.symm.trans hx419_4)
                                rw [hv419_4] at ge419_4
                                have HL419_4 := Aside0.mk (show Kd.R (Kd.int .i64) 3 _ _ _ _ ((rd_T31 t367 x11_4).f4) from ge419_4)
                                clear hv419_4 ge419_4
                                clear hcc419 hce419
                                have HR419_3 := Aside0.mk hi419_3
                                have HC419_3 := Aside0.mk hl419_3
                                clear hi419_3 hl419_3
                                have HR419_4 := Aside0.mk hi419_4
                                have HC419_4 := Aside0.mk hl419_4
                                clear hi419_4 hl419_4
                                replace p419 := eq_true p419
                                replace q419 := eq_true q419
                                obtain ⟨Ao129, co129, eo129⟩ := Kd.R_slice HO_8.out
                                (first | subst eo129 | (injection eo129 with f1_ f2_ f3_; have f4_ := f1_.symm; have f5_ := f3_.symm; clear f1_ f2_ f3_; subst f4_; subst f5_))
                                have p420 : 0 ≤ (((rd_T31 t367 x11_4).f2) : Int) := zdec
                                have q420 : ((rd_T31 t367 x11_4).f2) < (t372.length : Int) := zdec
                                obtain ⟨ad420, e420, hx420_0⟩ := Kd.at_int (Kd.R_reads' HO_8.out).2.2 ((rd_T31 t367 x11_4).f2) p420 q420
                                cases e420
                                replace p420 := eq_true p420
                                replace q420 := eq_true q420
                                refine start_ (n := 15) (S := fun w' => w'.cell? (ad411.add (x28_12).toNat) = some (.int .i64 (rd y407 x28_12)) ∧ w'.cell? (ad414.add ((x11_4).toNat * 5)) = some (.int .i64 ((rd_T31 t367 x11_4).f0)) ∧ w'.cell? ⟨(ad414.add ((x11_4).toNat * 5)).block, (ad414.add ((x11_4).toNat * 5)).off + 1, none⟩ = some (.int .i64 ((rd_T31 t367 x11_4).f1)) ∧ w'.cell? ⟨(ad414.add ((x11_4).toNat * 5)).block, (ad414.add ((x11_4).toNat * 5)).off + 2, none⟩ = some (.int .i64 ((rd_T31 t367 x11_4).f2)) ∧ w'.cell? ⟨(ad414.add ((x11_4).toNat * 5)).block, (ad414.add ((x11_4).toNat * 5)).off + 3, none⟩ = some (.slice A419_3 ((rd_T31 t367 x11_4).f3).length c419_3) ∧ w'.cell? ⟨(ad414.add ((x11_4).toNat * 5)).block, (ad414.add ((x11_4).toNat * 5)).off + 4, none⟩ = some (.slice A419_4 ((rd_T31 t367 x11_4).f4).length c419_4) ∧ w'.cell? (ad420.add (((rd_T31 t367 x11_4).f2)).toNat) = some (.int .i64 (rd t372 ((rd_T31 t367 x11_4).f2)))) (ds := []) cellarlaw7_LaySizes.b69 (by kernel_rfl) rfl rfl ⟨hx418_0, hx419_0, hx419_1, hx419_2, hx419_3, hx419_4, hx420_0⟩ (fun hHeld => ?_); refine with_tabW cellarlaw7_LaySizes.tab48 cellarlaw7_LaySizes.bits48 (fun HT_ HW_ => ?_)
                                generalize (w124.drewN nd).drew = w128 at HO_3 HO_4 HO_7 HO_8 HO_9 HO_27 HL414_3 HL414_4 HL416_3 HL416_4 BK355 HR414_3 HR414_4 HR416_3 HR416_4 HB HL419_3 HL419_4 HR419_3 HR419_4 hx418_0 hx419_0 hx419_1 hx419_2 hx419_3 hx419_4 hx420_0 hHeld ⊢
                                refine zq 0 (some 259) HT_ ?_; refine zq 1 (some 260) HT_ ?_; refine zq 2 (some 261) HT_ ?_; refine zq 4 (some 263) HT_ ?_; refine zq 5 (some 264) HT_ ?_; refine zq 6 (some 265) HT_ ?_; refine zq 7 (some 266) HT_ ?_; refine zq 8 (some 267) HT_ ?_; refine zq 13 (some 31) HT_ ?_; refine zt 3 (some 262) HT_ HW_ hHeld ?_; refine zt 9 (some 268) HT_ HW_ hHeld ?_; refine zq 10 (some 269) HT_ ?_; refine zt 11 (some 270) HT_ HW_ hHeld ?_; refine zq 12 (some 271) HT_ ?_; refine zq 14 (some 32) HT_ ?_
                                refine done_ (done_of HT_.out (by kernel_rfl)) ?_
                                try go_wp2
                                go_meet
                                case rel => exact ⟨_, (0), (wrap64 ((rd y407 x28_12) * (rd t372 ((rd_T31 t367 x11_4).f2)))), (zr), (zr), H', ⟨by have := HK1.out; have := HK2.out; have := HJ19.out; have := HK4.out; have := HJ45.out; have := HJ48.out; have := HJ51.out; have := HJ53.out; have := HJ65.out; have := HK10.out; have := HJ74.out; have := HK12.out; have := HJ102.out; first | omega | exact Nat.le_refl _⟩, ⟨by (with_reducible repeat (first | apply Kd.R_alloc | apply Kd.R_drewN | apply Kd.R_drew)); exact HO_3.out⟩, ⟨by (with_reducible repeat (first | apply Kd.R_alloc | apply Kd.R_drewN | apply Kd.R_drew)); exact HO_4.out⟩, ⟨by (with_reducible repeat (first | apply Kd.S_alloc | apply Kd.S_drewN | apply Kd.S_drew)); exact HO_7.out⟩, ⟨by (with_reducible repeat (first | apply Kd.R_alloc | apply Kd.R_drewN | apply Kd.R_drew)); exact HO_8.out⟩, ⟨by (with_reducible repeat (first | apply Kd.R_alloc | apply Kd.R_drewN | apply Kd.R_drew)); exact HO_9.out⟩, ⟨by (with_reducible repeat (first | apply Kd.R_alloc | apply Kd.R_drewN | apply Kd.R_drew)); exact HO_27.out⟩, ⟨zb BK355.out⟩, ⟨by repeat (first | (with_reducible exact HR414_3.out) | (with_reducible refine Kd.C_alloc ?_ _) | (with_reducible refine Kd.C_drewN ?_ _) | (with_reducible refine Kd.C_drew ?_) | exact HR414_3.out)⟩, ⟨by repeat (first | (with_reducible exact HR414_4.out) | (with_reducible refine Kd.C_alloc ?_ _) | (with_reducible refine Kd.C_drewN ?_ _) | (with_reducible refine Kd.C_drew ?_) | exact HR414_4.out)⟩, ⟨by repeat (first | (with_reducible exact HR416_3.out) | (with_reducible refine Kd.C_alloc ?_ _) | (with_reducible refine Kd.C_drewN ?_ _) | (with_reducible refine Kd.C_drew ?_) | exact HR416_3.out)⟩, ⟨by repeat (first | (with_reducible exact HR416_4.out) | (with_reducible refine Kd.C_alloc ?_ _) | (with_reducible refine Kd.C_drewN ?_ _) | (with_reducible refine Kd.C_drew ?_) | exact HR416_4.out)⟩, ⟨zw1 HB.out GE355.out⟩⟩
                               case rest => as_aux_lemma =>
                                clear HC123
                                try clear c1; try clear c2; try clear p2; try clear c4; try clear p4; try clear q4; try clear p6; try clear c11; try clear c12; try clear c18; try clear c23; try clear c41; try clear p41; try clear q41; try clear p42; try clear q42; try clear p64; try clear c117; try clear c118; try clear c118b0; try clear c119; try clear c119b0; try clear c121; try clear c121b0; try clear c121b1; try clear c125; try clear c126; try clear c126b0; try clear c127; try clear c127b0; try clear p414; try clear p415; try clear p416; try clear p418; try clear p419; try clear p420; try clear q414; try clear q415; try clear q416; try clear q418; try clear q419; try clear q420
                                obtain ⟨kq, x31_122, x32_122, rfl, rfl, HA, HJ122, HO_3, HO_4, HO_7, HO_8, HO_9, HO_27, BK355, HR414_3, HR414_4, HR416_3, HR416_4, HB⟩ := hcut
                                cases kq with
                                | zero => exact absurd HA.out (by simp [cellarlaw7_LaySizes.j15])
                                | succ kj122 =>
                                 have H := HA.out
                                 clear HA
                                 simp only [cellarlaw7_LaySizes.j15] at H
                                 have H' := Aside0.mk H
                                 clear H
                                 go_wp2
                                 go_meet
                                 case rel => exact ⟨_, (x31_122), (x32_122), (zr), (zr), H', ⟨by have := HK1.out; have := HK2.out; have := HJ19.out; have := HK4.out; have := HJ45.out; have := HJ48.out; have := HJ51.out; have := HJ53.out; have := HJ65.out; have := HK10.out; have := HJ74.out; have := HK12.out; have := HJ102.out; have := HJ122.out; first | omega | exact Nat.le_refl _⟩, ⟨by (with_reducible repeat (first | apply Kd.R_alloc | apply Kd.R_drewN | apply Kd.R_drew)); exact HO_3.out⟩, ⟨by (with_reducible repeat (first | apply Kd.R_alloc | apply Kd.R_drewN | apply Kd.R_drew)); exact HO_4.out⟩, ⟨by (with_reducible repeat (first | apply Kd.S_alloc | apply Kd.S_drewN | apply Kd.S_drew)); exact HO_7.out⟩, ⟨by (with_reducible repeat (first | apply Kd.R_alloc | apply Kd.R_drewN | apply Kd.R_drew)); exact HO_8.out⟩, ⟨by (with_reducible repeat (first | apply Kd.R_alloc | apply Kd.R_drewN | apply Kd.R_drew)); exact HO_9.out⟩, ⟨by (with_reducible repeat (first | apply Kd.R_alloc | apply Kd.R_drewN | apply Kd.R_drew)); exact HO_27.out⟩, ⟨zb BK355.out⟩, ⟨by repeat (first | (with_reducible exact HR414_3.out) | (with_reducible refine Kd.C_alloc ?_ _) | (with_reducible refine Kd.C_drewN ?_ _) | (with_reducible refine Kd.C_drew ?_) | exact HR414_3.out)⟩, ⟨by repeat (first | (with_reducible exact HR414_4.out) | (with_reducible refine Kd.C_alloc ?_ _) | (with_reducible refine Kd.C_drewN ?_ _) | (with_reducible refine Kd.C_drew ?_) | exact HR414_4.out)⟩, ⟨zw1 HB.out GE355.out⟩⟩
                              case rest => as_aux_lemma =>
                               clear HC120
                               try clear c1; try clear c2; try clear p2; try clear c4; try clear p4; try clear q4; try clear p6; try clear c11; try clear c12; try clear c18; try clear c23; try clear c41; try clear p41; try clear q41; try clear p42; try clear q42; try clear p64; try clear c117; try clear c118; try clear c118b0; try clear c119; try clear c119b0; try clear c121; try clear c121b0; try clear c121b1; try clear c125; try clear c126; try clear c126b0; try clear c127; try clear c127b0; try clear p2; try clear p4; try clear p41; try clear p414; try clear p415; try clear p416; try clear p418; try clear p419; try clear p42; try clear p420; try clear p6; try clear p64; try clear q4; try clear q41; try clear q414; try clear q415; try clear q416; try clear q418; try clear q419; try clear q42; try clear q420
                               obtain ⟨kq, x31_119, x32_119, rfl, rfl, HA, HJ119, HO_3, HO_4, HO_7, HO_8, HO_9, HO_27, BK355, HR414_3, HR414_4, HB⟩ := hcut
                               cases kq with
                               | zero => exact absurd HA.out (by simp [cellarlaw7_LaySizes.j16])
                               | succ kj119 =>
                                have H := HA.out
                                clear HA
                                simp only [cellarlaw7_LaySizes.j16] at H
                                have H' := Aside0.mk H
                                clear H
                                go_wp2
                                go_meet
                                case rel => exact ⟨_, (x31_119), (x32_119), (zr), (zr), H', ⟨by have := HK1.out; have := HK2.out; have := HJ19.out; have := HK4.out; have := HJ45.out; have := HJ48.out; have := HJ51.out; have := HJ53.out; have := HJ65.out; have := HK10.out; have := HJ74.out; have := HK12.out; have := HJ102.out; have := HJ119.out; first | omega | exact Nat.le_refl _⟩, ⟨by (with_reducible repeat (first | apply Kd.R_alloc | apply Kd.R_drewN | apply Kd.R_drew)); exact HO_3.out⟩, ⟨by (with_reducible repeat (first | apply Kd.R_alloc | apply Kd.R_drewN | apply Kd.R_drew)); exact HO_4.out⟩, ⟨by (with_reducible repeat (first | apply Kd.S_alloc | apply Kd.S_drewN | apply Kd.S_drew)); exact HO_7.out⟩, ⟨by (with_reducible repeat (first | apply Kd.R_alloc | apply Kd.R_drewN | apply Kd.R_drew)); exact HO_8.out⟩, ⟨by (with_reducible repeat (first | apply Kd.R_alloc | apply Kd.R_drewN | apply Kd.R_drew)); exact HO_9.out⟩, ⟨by (with_reducible repeat (first | apply Kd.R_alloc | apply Kd.R_drewN | apply Kd.R_drew)); exact HO_27.out⟩, ⟨zb BK355.out⟩, ⟨zw1 HB.out GE355.out⟩⟩
                             case rest => as_aux_lemma =>
                              clear HC113
                              try clear c1; try clear c2; try clear p2; try clear c4; try clear p4; try clear q4; try clear p6; try clear c11; try clear c12; try clear c18; try clear c23; try clear c41; try clear p41; try clear q41; try clear p42; try clear q42; try clear p64; try clear c117; try clear c118; try clear c118b0; try clear c119; try clear c119b0; try clear c121; try clear c121b0; try clear c121b1; try clear c125; try clear c126; try clear c126b0; try clear c127; try clear c127b0; try clear p2; try clear p4; try clear p41; try clear p414; try clear p415; try clear p416; try clear p418; try clear p419; try clear p42; try clear p420; try clear p6; try clear p64; try clear q4; try clear q41; try clear q414; try clear q415; try clear q416; try clear q418; try clear q419; try clear q42; try clear q420
                              obtain ⟨kq, x31_112, x32_112, rfl, rfl, HA, HJ112, HO_3, HO_4, HO_7, HO_8, HO_9, HO_27, BK355, HB⟩ := hcut
                              cases kq with
                              | zero => exact absurd HA.out (by simp [cellarlaw7_LaySizes.j17])
                              | succ kj112 =>
                               have H := HA.out
                               clear HA
                               simp only [cellarlaw7_LaySizes.j17] at H
                               replace H := Option.bind_eq_some_iff.mp H
                               obtain ⟨t421, A1300, H⟩ := H
                               replace H : (if t421 = x31_112 then (if t412 = x32_112 then (cellarlaw7_LaySizes.l4 kj112 t357 y363 x5_1 x6_2 t367 t372 t375 t378 x11_4 x12_48 x13_53 y407 (wrap64 (x28_12 + 1)) l0_0 l0_1 l0_2 l0_3) else (some false)) else (some false)) = some r := H
                               have A130 := Aside0.mk A1300
                               clear A1300
                               by_cases c131 : t421 = x31_112
                               rotate_left
                               ·rw [if_neg c131] at H
                                have c131b0 : (t421 == x31_112) = false := beq_eq_false_iff_ne.mpr c131
                                have c131b1 : (t421 != x31_112) = true := bne_iff_ne.mpr c131
                                obtain rfl := Option.some.inj H
                                go_wp2_with (first | ((with_reducible refine gate_callee (f := 11) rfl ?_); refine zgo (some 273) Try.func11 #[.int .i64 t413] ?_; (with_reducible refine (cellarlaw7_num.calls t413 t421 _ A130.out).mono ?_); rintro e w' ⟨rfl, ⟨nd, rfl⟩⟩; refine ⟨_, rfl, ?_⟩))
                                go_ret
                                exact ⟨ze, zw1 HB.out GE355.out⟩
                               rw [if_pos c131] at H
                               have c131b0 : (t421 == x31_112) = true := beq_iff_eq.mpr c131
                               have c131b1 : (t421 != x31_112) = false := bne_eq_false_iff_eq.mpr c131
                               clear c131
                               by_cases c132 : t412 = x32_112
                               rotate_left
                               ·rw [if_neg c132] at H
                                have c132b0 : (t412 == x32_112) = false := beq_eq_false_iff_ne.mpr c132
                                have c132b1 : (t412 != x32_112) = true := bne_iff_ne.mpr c132
                                obtain rfl := Option.some.inj H
                                go_wp2_with (first | ((with_reducible refine gate_callee (f := 11) rfl ?_); refine zgo (some 273) Try.func11 #[.int .i64 t413] ?_; (with_reducible refine (cellarlaw7_num.calls t413 t421 _ A130.out).mono ?_); rintro e w' ⟨rfl, ⟨nd, rfl⟩⟩; refine ⟨_, rfl, ?_⟩))
                                go_ret
                                exact ⟨ze, zw1 HB.out GE355.out⟩
                               rw [if_pos c132] at H
                               have c132b0 : (t412 == x32_112) = true := beq_iff_eq.mpr c132
                               have c132b1 : (t412 != x32_112) = false := bne_eq_false_iff_eq.mpr c132
                               clear c132
                               have H' := Aside0.mk H
                               clear H
                               go_wp2_with (first | ((with_reducible refine gate_callee (f := 11) rfl ?_); refine zgo (some 273) Try.func11 #[.int .i64 t413] ?_; (with_reducible refine (cellarlaw7_num.calls t413 t421 _ A130.out).mono ?_); rintro e w' ⟨rfl, ⟨nd, rfl⟩⟩; refine ⟨_, rfl, ?_⟩))
                               go_roundg kj112
                               case measure => have := HK1.out; have := HK2.out; have := HJ19.out; have := HK4.out; have := HJ45.out; have := HJ48.out; have := HJ51.out; have := HJ53.out; have := HJ65.out; have := HK10.out; have := HJ74.out; have := HK12.out; have := HJ102.out; have := HJ112.out; omega
                               case rel => exact ⟨(wrap64 (x28_12 + 1)), (zr), H', ⟨by have := HK1.out; have := HK2.out; have := HJ19.out; have := HK4.out; have := HJ45.out; have := HJ48.out; have := HJ51.out; have := HJ53.out; have := HJ65.out; have := HK10.out; have := HJ74.out; have := HK12.out; have := HJ102.out; have := HJ112.out; omega⟩, ⟨by (with_reducible repeat (first | apply Kd.R_alloc | apply Kd.R_drewN | apply Kd.R_drew)); exact HO_3.out⟩, ⟨by (with_reducible repeat (first | apply Kd.R_alloc | apply Kd.R_drewN | apply Kd.R_drew)); exact HO_4.out⟩, ⟨by (with_reducible repeat (first | apply Kd.S_alloc | apply Kd.S_drewN | apply Kd.S_drew)); exact HO_7.out⟩, ⟨by (with_reducible repeat (first | apply Kd.R_alloc | apply Kd.R_drewN | apply Kd.R_drew)); exact HO_8.out⟩, ⟨by (with_reducible repeat (first | apply Kd.R_alloc | apply Kd.R_drewN | apply Kd.R_drew)); exact HO_9.out⟩, ⟨by (with_reducible repeat (first | apply Kd.R_alloc | apply Kd.R_drewN | apply Kd.R_drew)); exact HO_27.out⟩, ⟨zb BK355.out⟩, ⟨zw1 HB.out GE355.out⟩⟩
  ·rw [if_neg c8] at H
   exact absurd H (by simp)

end Go.Proofs.Ytjoplkillkhiaaa.L
