-- Written by this session's own edition of the print.
import Derived.Test.YtjoplkillkhiaaaMx0
import Derived.Test.YtjoplkillkhiaaaMx1
import Derived.Test.YtjoplkillkhiaaaMx3
import Derived.Test.YtjoplkillkhiaaaMx4
import Derived.Test.YtjoplkillkhiaaaMx5
import Derived.Test.YtjoplkillkhiaaaMx6
import Derived.Test.YtjoplkillkhiaaaMx12
import Derived.Test.YtjoplkillkhiaaaMx13
import Derived.Test.YtjoplkillkhiaaaSq
import Derived.Test.YtjoplkillkhiaaaSq2
import Derived.Test.YtjoplkillkhiaaaSq3
namespace Go.Proofs.Ytjoplkillkhiaaa.M
open Go.RowKit Go.Proofs.Ytjoplkillkhiaaa.Fn Go.Proofs.YtjoplkillkhiaaaW.PrintWords Go.Proofs.YtjoplkillkhiaaaW.PrintLast Go.Proofs.YtjoplkillkhiaaaW.PrintMore
attribute [local go_sem] max2_int min2_int max_two min_two max_three min_three max_four min_four   -- for this text's walks alone
set_option linter.unusedVariables false
set_option linter.unusedSimpArgs false

attribute [local go_sem high] eqA62
/-! cellarlaw9_MemMoves -/
mutual
def cellarlaw9_MemMoves.l0 : Nat → List Int → Int → List (List (S76)) → List (S62) → List Int → List (S29) → Option (Bool)
 | 0, _, _, _, _, _, _ => none
 | k + 1, x3, x4, x337000, x337001, x337002, x337003 => if x4 < (x337000.length : Int) then (cellarlaw9_MemMoves.j1 k x3 x4 (decide (x4 < 5)) x337000 x337001 x337002 x337003) else (cellarlaw9_MemMoves.j1 k x3 x4 false x337000 x337001 x337002 x337003)
def cellarlaw9_MemMoves.j1 : Nat → List Int → Int → Bool → List (List (S76)) → List (S62) → List Int → List (S29) → Option (Bool)
 | 0, _, _, _, _, _, _, _ => none
 | k + 1, x3, x4, x42, x337000, x337001, x337002, x337003 => if x42 = true then (if 0 ≤ x4 then (if x4 < (x337000.length : Int) then ((cellarref0_CopyBlocks.f k (rd_L4 x337000 x4)).bind fun t345 => ((cellarref7_Mem.f k (rd_L4 x337000 x4)).bind fun t349 => ((cellarlaw9_pointers.f k x337000 x337001 x337002 x337003 t345).bind fun t350 => (cellarlaw9_MemMoves.l1 k x3 x4 t345 t349 t350 0 x337000 x337001 x337002 x337003)))) else (none)) else (none)) else ((cellarlaw9_wakes.f k).bind fun t401 => (some t401))
def cellarlaw9_MemMoves.l1 : Nat → List Int → Int → List (S76) → Bool → List (S62) → Int → List (List (S76)) → List (S62) → List Int → List (S29) → Option (Bool)
 | 0, _, _, _, _, _, _, _, _, _, _ => none
 | k + 1, x3, x4, x5, x6, x7, x8, x337000, x337001, x337002, x337003 => if x8 < (x7.length : Int) then (if x6 = true then (if 0 ≤ x8 then ((cellarref7_Pointer.f k x5 ((rd_T62 x7 x8).f0) ((rd_T62 x7 x8).f1) ((rd_T62 x7 x8).f2) ((rd_T62 x7 x8).f3)).bind fun t354 => (cellarlaw9_MemMoves.j3 k x3 x4 x5 x6 x7 x8 t354 x337000 x337001 x337002 x337003)) else (none)) else (cellarlaw9_MemMoves.j3 k x3 x4 x5 x6 x7 x8 false x337000 x337001 x337002 x337003)) else (if 0 ≤ x4 then (if x4 < (x337000.length : Int) then ((cellarref0_EqBlocks.f k x5 (rd_L4 x337000 x4)).bind fun t400 => (if t400 = true then (cellarlaw9_MemMoves.l0 k x3 (wrap64 (x4 + 1)) x337000 x337001 x337002 x337003) else (some false))) else (none)) else (none))
def cellarlaw9_MemMoves.j3 : Nat → List Int → Int → List (S76) → Bool → List (S62) → Int → Bool → List (List (S76)) → List (S62) → List Int → List (S29) → Option (Bool)
 | 0, _, _, _, _, _, _, _, _, _, _, _ => none
 | k + 1, x3, x4, x5, x6, x7, x8, x9, x337000, x337001, x337002, x337003 => cellarlaw9_MemMoves.l2 k x3 x4 x5 x6 x7 x8 x9 0 x337000 x337001 x337002 x337003
def cellarlaw9_MemMoves.l2 : Nat → List Int → Int → List (S76) → Bool → List (S62) → Int → Bool → Int → List (List (S76)) → List (S62) → List Int → List (S29) → Option (Bool)
 | 0, _, _, _, _, _, _, _, _, _, _, _, _ => none
 | k + 1, x3, x4, x5, x6, x7, x8, x9, x10, x337000, x337001, x337002, x337003 => if x10 < (x3.length : Int) then (cellarlaw9_MemMoves.j5 k x3 x4 x5 x6 x7 x8 x9 x10 (decide (x10 < 13)) x337000 x337001 x337002 x337003) else (cellarlaw9_MemMoves.j5 k x3 x4 x5 x6 x7 x8 x9 x10 false x337000 x337001 x337002 x337003)
def cellarlaw9_MemMoves.j5 : Nat → List Int → Int → List (S76) → Bool → List (S62) → Int → Bool → Int → Bool → List (List (S76)) → List (S62) → List Int → List (S29) → Option (Bool)
 | 0, _, _, _, _, _, _, _, _, _, _, _, _, _ => none
 | k + 1, x3, x4, x5, x6, x7, x8, x9, x10, x82, x337000, x337001, x337002, x337003 => if x82 = true then (if 0 ≤ x8 then (if x8 < (x7.length : Int) then (if 0 ≤ x10 then (if x10 < (x3.length : Int) then ((mem_Move.f k x5 ((rd_T62 x7 x8).f0) ((rd_T62 x7 x8).f1) ((rd_T62 x7 x8).f2) ((rd_T62 x7 x8).f3) (rd x3 x10)).bind fun bt357 => (if x9 = true then ((cellarref1_Number.f (rd x3 x10) 32).bind fun t366 => (cellarlaw9_MemMoves.j6 k x3 x4 x5 x6 x7 x8 x9 x10 bt357.2.2.2.2.1 bt357.2.2.2.2.2 1 0 t366 x337000 x337001 x337002 x337003 bt357.1 bt357.2.1 bt357.2.2.1 bt357.2.2.2.1 false 0 0 0)) else (cellarlaw9_MemMoves.j6 k x3 x4 x5 x6 x7 x8 x9 x10 bt357.2.2.2.2.1 bt357.2.2.2.2.2 1 0 false x337000 x337001 x337002 x337003 bt357.1 bt357.2.1 bt357.2.2.1 bt357.2.2.2.1 false 0 0 0))) else (none)) else (none)) else (none)) else (none)) else (cellarlaw9_MemMoves.l3 k x3 x4 x5 x6 x7 x8 x9 0 x337000 x337001 x337002 x337003)
def cellarlaw9_MemMoves.j6 : Nat → List Int → Int → List (S76) → Bool → List (S62) → Int → Bool → Int → Int → Int → Int → Int → Bool → List (List (S76)) → List (S62) → List Int → List (S29) → Bool → Int → Int → Int → Bool → Int → Int → Int → Option (Bool)
 | 0, _, _, _, _, _, _, _, _, _, _, _, _, _, _, _, _, _, _, _, _, _, _, _, _, _ => none
 | k + 1, x3, x4, x5, x6, x7, x8, x9, x10, x12, x13, x14, x16, x107, x337000, x337001, x337002, x337003, x364000, x364001, x364002, x364003, x365000, x365001, x365002, x365003 => if x107 = true then (if 0 ≤ x8 then (if x8 < (x7.length : Int) then (if 0 ≤ x10 then (if x10 < (x3.length : Int) then ((cellarref7_Move.f k x5 ((rd_T62 x7 x8).f0) ((rd_T62 x7 x8).f1) ((rd_T62 x7 x8).f2) ((rd_T62 x7 x8).f3) (rd x3 x10)).bind fun bt369 => (cellarlaw9_MemMoves.j7 k x3 x4 x5 x6 x7 x8 x9 x10 x12 x13 0 bt369.2.2.2.2 x337000 x337001 x337002 x337003 x364000 x364001 x364002 x364003 bt369.1 bt369.2.1 bt369.2.2.1 bt369.2.2.2.1)) else (none)) else (none)) else (none)) else (none)) else (cellarlaw9_MemMoves.j7 k x3 x4 x5 x6 x7 x8 x9 x10 x12 x13 x14 x16 x337000 x337001 x337002 x337003 x364000 x364001 x364002 x364003 x365000 x365001 x365002 x365003)
def cellarlaw9_MemMoves.j7 : Nat → List Int → Int → List (S76) → Bool → List (S62) → Int → Bool → Int → Int → Int → Int → Int → List (List (S76)) → List (S62) → List Int → List (S29) → Bool → Int → Int → Int → Bool → Int → Int → Int → Option (Bool)
 | 0, _, _, _, _, _, _, _, _, _, _, _, _, _, _, _, _, _, _, _, _, _, _, _, _ => none
 | k + 1, x3, x4, x5, x6, x7, x8, x9, x10, x12, x13, x14, x16, x337000, x337001, x337002, x337003, x364000, x364001, x364002, x364003, x365000, x365001, x365002, x365003 => (cellarlaw9_num.f x13).bind fun t374 => (if t374 = x14 then (if (!(x364000 == x365000) || (!(x364001 == x365001) || (!(x364002 == x365002) || (!(x364003 == x365003))))) = true then (cellarlaw9_MemMoves.j8 k x3 x4 x5 x6 x7 x8 x9 x10 true x337000 x337001 x337002 x337003) else (cellarlaw9_MemMoves.j8 k x3 x4 x5 x6 x7 x8 x9 x10 (x12 != x16) x337000 x337001 x337002 x337003)) else (cellarlaw9_MemMoves.j8 k x3 x4 x5 x6 x7 x8 x9 x10 true x337000 x337001 x337002 x337003))
def cellarlaw9_MemMoves.j8 : Nat → List Int → Int → List (S76) → Bool → List (S62) → Int → Bool → Int → Bool → List (List (S76)) → List (S62) → List Int → List (S29) → Option (Bool)
 | 0, _, _, _, _, _, _, _, _, _, _, _, _, _ => none
 | k + 1, x3, x4, x5, x6, x7, x8, x9, x10, x134, x337000, x337001, x337002, x337003 => if x134 = true then (some false) else (cellarlaw9_MemMoves.l2 k x3 x4 x5 x6 x7 x8 x9 (wrap64 (x10 + 1)) x337000 x337001 x337002 x337003)
def cellarlaw9_MemMoves.l3 : Nat → List Int → Int → List (S76) → Bool → List (S62) → Int → Bool → Int → List (List (S76)) → List (S62) → List Int → List (S29) → Option (Bool)
 | 0, _, _, _, _, _, _, _, _, _, _, _, _ => none
 | k + 1, x3, x4, x5, x6, x7, x8, x9, x17, x337000, x337001, x337002, x337003 => if x17 < (x7.length : Int) then (if 0 ≤ x8 then (if x8 < (x7.length : Int) then (if 0 ≤ x17 then ((mem_Apart.f x5 ((rd_T62 x7 x8).f0) ((rd_T62 x7 x8).f1) ((rd_T62 x7 x8).f2) ((rd_T62 x7 x8).f3) ((rd_T62 x7 x17).f0) ((rd_T62 x7 x17).f1) ((rd_T62 x7 x17).f2) ((rd_T62 x7 x17).f3)).bind fun bt377 => ((mem_Same.f k ((rd_T62 x7 x8).f0) ((rd_T62 x7 x8).f1) ((rd_T62 x7 x8).f2) ((rd_T62 x7 x8).f3) ((rd_T62 x7 x17).f0) ((rd_T62 x7 x17).f1) ((rd_T62 x7 x17).f2) ((rd_T62 x7 x17).f3)).bind fun bt382 => (if x9 = true then ((cellarref7_Pointer.f k x5 ((rd_T62 x7 x17).f0) ((rd_T62 x7 x17).f1) ((rd_T62 x7 x17).f2) ((rd_T62 x7 x17).f3)).bind fun t385 => (cellarlaw9_MemMoves.j10 k x3 x4 x5 x6 x7 x8 x9 x17 bt377.1 bt377.2.1 bt377.2.2 bt382.1 bt382.2 1 1 0 0 0 t385 x337000 x337001 x337002 x337003)) else (cellarlaw9_MemMoves.j10 k x3 x4 x5 x6 x7 x8 x9 x17 bt377.1 bt377.2.1 bt377.2.2 bt382.1 bt382.2 1 1 0 0 0 false x337000 x337001 x337002 x337003)))) else (none)) else (none)) else (none)) else (cellarlaw9_MemMoves.l1 k x3 x4 x5 x6 x7 (wrap64 (x8 + 1)) x337000 x337001 x337002 x337003)
def cellarlaw9_MemMoves.j10 : Nat → List Int → Int → List (S76) → Bool → List (S62) → Int → Bool → Int → Int → Int → Int → Int → Int → Int → Int → Int → Int → Int → Bool → List (List (S76)) → List (S62) → List Int → List (S29) → Option (Bool)
 | 0, _, _, _, _, _, _, _, _, _, _, _, _, _, _, _, _, _, _, _, _, _, _, _ => none
 | k + 1, x3, x4, x5, x6, x7, x8, x9, x17, x18, x19, x20, x21, x22, x23, x24, x25, x26, x27, x175, x337000, x337001, x337002, x337003 => if x175 = true then (if 0 ≤ x8 then (if x8 < (x7.length : Int) then (if 0 ≤ x17 then (if x17 < (x7.length : Int) then ((cellarref7_Apart.f ((rd_T62 x7 x8).f0) ((rd_T62 x7 x8).f1) ((rd_T62 x7 x8).f2) ((rd_T62 x7 x8).f3) ((rd_T62 x7 x17).f0) ((rd_T62 x7 x17).f1) ((rd_T62 x7 x17).f2) ((rd_T62 x7 x17).f3)).bind fun bt388 => (cellarlaw9_MemMoves.j11 k x3 x4 x5 x6 x7 x8 x9 x17 x18 x19 x20 x21 x22 0 x24 bt388.1 bt388.2 x27 x337000 x337001 x337002 x337003)) else (none)) else (none)) else (none)) else (none)) else (cellarlaw9_MemMoves.j11 k x3 x4 x5 x6 x7 x8 x9 x17 x18 x19 x20 x21 x22 x23 x24 x25 x26 x27 x337000 x337001 x337002 x337003)
def cellarlaw9_MemMoves.j11 : Nat → List Int → Int → List (S76) → Bool → List (S62) → Int → Bool → Int → Int → Int → Int → Int → Int → Int → Int → Int → Int → Int → List (List (S76)) → List (S62) → List Int → List (S29) → Option (Bool)
 | 0, _, _, _, _, _, _, _, _, _, _, _, _, _, _, _, _, _, _, _, _, _, _ => none
 | k + 1, x3, x4, x5, x6, x7, x8, x9, x17, x18, x19, x20, x21, x22, x23, x24, x25, x26, x27, x337000, x337001, x337002, x337003 => if 0 ≤ x8 then (if x8 < (x7.length : Int) then ((cellarref7_Scalar.f k 7 ((rd_T62 x7 x8).f0) ((rd_T62 x7 x8).f1) ((rd_T62 x7 x8).f2) ((rd_T62 x7 x8).f3)).bind fun t391 => (if t391 = true then (if 0 ≤ x17 then (if x17 < (x7.length : Int) then ((cellarref7_Scalar.f k 7 ((rd_T62 x7 x17).f0) ((rd_T62 x7 x17).f1) ((rd_T62 x7 x17).f2) ((rd_T62 x7 x17).f3)).bind fun t393 => (cellarlaw9_MemMoves.j12 k x3 x4 x5 x6 x7 x8 x9 x17 x18 x19 x20 x21 x22 x23 x24 x25 x26 x27 t393 x337000 x337001 x337002 x337003)) else (none)) else (none)) else (cellarlaw9_MemMoves.j12 k x3 x4 x5 x6 x7 x8 x9 x17 x18 x19 x20 x21 x22 x23 x24 x25 x26 x27 false x337000 x337001 x337002 x337003))) else (none)) else (none)
def cellarlaw9_MemMoves.j12 : Nat → List Int → Int → List (S76) → Bool → List (S62) → Int → Bool → Int → Int → Int → Int → Int → Int → Int → Int → Int → Int → Int → Bool → List (List (S76)) → List (S62) → List Int → List (S29) → Option (Bool)
 | 0, _, _, _, _, _, _, _, _, _, _, _, _, _, _, _, _, _, _, _, _, _, _, _ => none
 | k + 1, x3, x4, x5, x6, x7, x8, x9, x17, x18, x19, x20, x21, x22, x23, x24, x25, x26, x27, x199, x337000, x337001, x337002, x337003 => if x199 = true then (if 0 ≤ x8 then (if x8 < (x7.length : Int) then (if 0 ≤ x17 then (if x17 < (x7.length : Int) then ((cellarref7_Same.f ((rd_T62 x7 x8).f0) ((rd_T62 x7 x8).f1) ((rd_T62 x7 x8).f2) ((rd_T62 x7 x8).f3) ((rd_T62 x7 x17).f0) ((rd_T62 x7 x17).f1) ((rd_T62 x7 x17).f2) ((rd_T62 x7 x17).f3)).bind fun t396 => (cellarlaw9_MemMoves.j13 k x3 x4 x5 x6 x7 x8 x9 x17 x18 x19 x20 x21 x22 x23 0 x25 x26 t396 x337000 x337001 x337002 x337003)) else (none)) else (none)) else (none)) else (none)) else (cellarlaw9_MemMoves.j13 k x3 x4 x5 x6 x7 x8 x9 x17 x18 x19 x20 x21 x22 x23 x24 x25 x26 x27 x337000 x337001 x337002 x337003)
def cellarlaw9_MemMoves.j13 : Nat → List Int → Int → List (S76) → Bool → List (S62) → Int → Bool → Int → Int → Int → Int → Int → Int → Int → Int → Int → Int → Int → List (List (S76)) → List (S62) → List Int → List (S29) → Option (Bool)
 | 0, _, _, _, _, _, _, _, _, _, _, _, _, _, _, _, _, _, _, _, _, _, _ => none
 | k + 1, x3, x4, x5, x6, x7, x8, x9, x17, x18, x19, x20, x21, x22, x23, x24, x25, x26, x27, x337000, x337001, x337002, x337003 => (cellarlaw9_num.f x20).bind fun t397 => (if t397 = x23 then (if x18 = x25 then (if x19 = x26 then ((cellarlaw9_num.f x22).bind fun t398 => (if t398 = x24 then (cellarlaw9_MemMoves.j14 k x3 x4 x5 x6 x7 x8 x9 x17 (x21 != x27) x337000 x337001 x337002 x337003) else (cellarlaw9_MemMoves.j14 k x3 x4 x5 x6 x7 x8 x9 x17 true x337000 x337001 x337002 x337003))) else (cellarlaw9_MemMoves.j14 k x3 x4 x5 x6 x7 x8 x9 x17 true x337000 x337001 x337002 x337003)) else (cellarlaw9_MemMoves.j14 k x3 x4 x5 x6 x7 x8 x9 x17 true x337000 x337001 x337002 x337003)) else (cellarlaw9_MemMoves.j14 k x3 x4 x5 x6 x7 x8 x9 x17 true x337000 x337001 x337002 x337003))
def cellarlaw9_MemMoves.j14 : Nat → List Int → Int → List (S76) → Bool → List (S62) → Int → Bool → Int → Bool → List (List (S76)) → List (S62) → List Int → List (S29) → Option (Bool)
 | 0, _, _, _, _, _, _, _, _, _, _, _, _, _ => none
 | k + 1, x3, x4, x5, x6, x7, x8, x9, x17, x233, x337000, x337001, x337002, x337003 => if x233 = true then (some false) else (cellarlaw9_MemMoves.l3 k x3 x4 x5 x6 x7 x8 x9 (wrap64 (x17 + 1)) x337000 x337001 x337002 x337003)
end
def cellarlaw9_MemMoves.f (k : Nat) (l0_0 : List (List (S76))) (l0_1 : List (S62)) (l0_2 : List Int) (l0_3 : List (S29)) : Option (Bool) := (cellarlaw9_Heavy.f k l0_0 l0_1 l0_2 l0_3).bind fun t337 => (if t337 = true then (some true) else ((some (([0, 1, 4, 4294967295, 4294967292, 2147483648, 4294967296, (-1)] : List Int) : List Int)).bind fun y338 => (if y338.length + l0_2.length < 17592186044416 then (cellarlaw9_MemMoves.l0 k (y338 ++ l0_2) 0 l0_0 l0_1 l0_2 l0_3) else (none))))
theorem cellarlaw9_MemMoves.mono_l : ∀ k, (∀ y0 y1 y2 y3 y4 y5, LeO (cellarlaw9_MemMoves.l0 k y0 y1 y2 y3 y4 y5) (cellarlaw9_MemMoves.l0 (k + 1) y0 y1 y2 y3 y4 y5)) ∧ (∀ y0 y1 y2 y3 y4 y5 y6, LeO (cellarlaw9_MemMoves.j1 k y0 y1 y2 y3 y4 y5 y6) (cellarlaw9_MemMoves.j1 (k + 1) y0 y1 y2 y3 y4 y5 y6)) ∧ (∀ y0 y1 y2 y3 y4 y5 y6 y7 y8 y9, LeO (cellarlaw9_MemMoves.l1 k y0 y1 y2 y3 y4 y5 y6 y7 y8 y9) (cellarlaw9_MemMoves.l1 (k + 1) y0 y1 y2 y3 y4 y5 y6 y7 y8 y9)) ∧ (∀ y0 y1 y2 y3 y4 y5 y6 y7 y8 y9 y10, LeO (cellarlaw9_MemMoves.j3 k y0 y1 y2 y3 y4 y5 y6 y7 y8 y9 y10) (cellarlaw9_MemMoves.j3 (k + 1) y0 y1 y2 y3 y4 y5 y6 y7 y8 y9 y10)) ∧ (∀ y0 y1 y2 y3 y4 y5 y6 y7 y8 y9 y10 y11, LeO (cellarlaw9_MemMoves.l2 k y0 y1 y2 y3 y4 y5 y6 y7 y8 y9 y10 y11) (cellarlaw9_MemMoves.l2 (k + 1) y0 y1 y2 y3 y4 y5 y6 y7 y8 y9 y10 y11)) ∧ (∀ y0 y1 y2 y3 y4 y5 y6 y7 y8 y9 y10 y11 y12, LeO (cellarlaw9_MemMoves.j5 k y0 y1 y2 y3 y4 y5 y6 y7 y8 y9 y10 y11 y12) (cellarlaw9_MemMoves.j5 (k + 1) y0 y1 y2 y3 y4 y5 y6 y7 y8 y9 y10 y11 y12)) ∧ (∀ y0 y1 y2 y3 y4 y5 y6 y7 y8 y9 y10 y11 y12 y13 y14 y15 y16 y17 y18 y19 y20 y21 y22 y23 y24, LeO (cellarlaw9_MemMoves.j6 k y0 y1 y2 y3 y4 y5 y6 y7 y8 y9 y10 y11 y12 y13 y14 y15 y16 y17 y18 y19 y20 y21 y22 y23 y24) (cellarlaw9_MemMoves.j6 (k + 1) y0 y1 y2 y3 y4 y5 y6 y7 y8 y9 y10 y11 y12 y13 y14 y15 y16 y17 y18 y19 y20 y21 y22 y23 y24)) ∧ (∀ y0 y1 y2 y3 y4 y5 y6 y7 y8 y9 y10 y11 y12 y13 y14 y15 y16 y17 y18 y19 y20 y21 y22 y23, LeO (cellarlaw9_MemMoves.j7 k y0 y1 y2 y3 y4 y5 y6 y7 y8 y9 y10 y11 y12 y13 y14 y15 y16 y17 y18 y19 y20 y21 y22 y23) (cellarlaw9_MemMoves.j7 (k + 1) y0 y1 y2 y3 y4 y5 y6 y7 y8 y9 y10 y11 y12 y13 y14 y15 y16 y17 y18 y19 y20 y21 y22 y23)) ∧ (∀ y0 y1 y2 y3 y4 y5 y6 y7 y8 y9 y10 y11 y12, LeO (cellarlaw9_MemMoves.j8 k y0 y1 y2 y3 y4 y5 y6 y7 y8 y9 y10 y11 y12) (cellarlaw9_MemMoves.j8 (k + 1) y0 y1 y2 y3 y4 y5 y6 y7 y8 y9 y10 y11 y12)) ∧ (∀ y0 y1 y2 y3 y4 y5 y6 y7 y8 y9 y10 y11, LeO (cellarlaw9_MemMoves.l3 k y0 y1 y2 y3 y4 y5 y6 y7 y8 y9 y10 y11) (cellarlaw9_MemMoves.l3 (k + 1) y0 y1 y2 y3 y4 y5 y6 y7 y8 y9 y10 y11)) ∧ (∀ y0 y1 y2 y3 y4 y5 y6 y7 y8 y9 y10 y11 y12 y13 y14 y15 y16 y17 y18 y19 y20 y21 y22, LeO (cellarlaw9_MemMoves.j10 k y0 y1 y2 y3 y4 y5 y6 y7 y8 y9 y10 y11 y12 y13 y14 y15 y16 y17 y18 y19 y20 y21 y22) (cellarlaw9_MemMoves.j10 (k + 1) y0 y1 y2 y3 y4 y5 y6 y7 y8 y9 y10 y11 y12 y13 y14 y15 y16 y17 y18 y19 y20 y21 y22)) ∧ (∀ y0 y1 y2 y3 y4 y5 y6 y7 y8 y9 y10 y11 y12 y13 y14 y15 y16 y17 y18 y19 y20 y21, LeO (cellarlaw9_MemMoves.j11 k y0 y1 y2 y3 y4 y5 y6 y7 y8 y9 y10 y11 y12 y13 y14 y15 y16 y17 y18 y19 y20 y21) (cellarlaw9_MemMoves.j11 (k + 1) y0 y1 y2 y3 y4 y5 y6 y7 y8 y9 y10 y11 y12 y13 y14 y15 y16 y17 y18 y19 y20 y21)) ∧ (∀ y0 y1 y2 y3 y4 y5 y6 y7 y8 y9 y10 y11 y12 y13 y14 y15 y16 y17 y18 y19 y20 y21 y22, LeO (cellarlaw9_MemMoves.j12 k y0 y1 y2 y3 y4 y5 y6 y7 y8 y9 y10 y11 y12 y13 y14 y15 y16 y17 y18 y19 y20 y21 y22) (cellarlaw9_MemMoves.j12 (k + 1) y0 y1 y2 y3 y4 y5 y6 y7 y8 y9 y10 y11 y12 y13 y14 y15 y16 y17 y18 y19 y20 y21 y22)) ∧ (∀ y0 y1 y2 y3 y4 y5 y6 y7 y8 y9 y10 y11 y12 y13 y14 y15 y16 y17 y18 y19 y20 y21, LeO (cellarlaw9_MemMoves.j13 k y0 y1 y2 y3 y4 y5 y6 y7 y8 y9 y10 y11 y12 y13 y14 y15 y16 y17 y18 y19 y20 y21) (cellarlaw9_MemMoves.j13 (k + 1) y0 y1 y2 y3 y4 y5 y6 y7 y8 y9 y10 y11 y12 y13 y14 y15 y16 y17 y18 y19 y20 y21)) ∧ (∀ y0 y1 y2 y3 y4 y5 y6 y7 y8 y9 y10 y11 y12, LeO (cellarlaw9_MemMoves.j14 k y0 y1 y2 y3 y4 y5 y6 y7 y8 y9 y10 y11 y12) (cellarlaw9_MemMoves.j14 (k + 1) y0 y1 y2 y3 y4 y5 y6 y7 y8 y9 y10 y11 y12))
 | 0 => ⟨fun _ _ _ _ _ _ r h => by simp [cellarlaw9_MemMoves.l0] at h, fun _ _ _ _ _ _ _ r h => by simp [cellarlaw9_MemMoves.j1] at h, fun _ _ _ _ _ _ _ _ _ _ r h => by simp [cellarlaw9_MemMoves.l1] at h, fun _ _ _ _ _ _ _ _ _ _ _ r h => by simp [cellarlaw9_MemMoves.j3] at h, fun _ _ _ _ _ _ _ _ _ _ _ _ r h => by simp [cellarlaw9_MemMoves.l2] at h, fun _ _ _ _ _ _ _ _ _ _ _ _ _ r h => by simp [cellarlaw9_MemMoves.j5] at h, fun _ _ _ _ _ _ _ _ _ _ _ _ _ _ _ _ _ _ _ _ _ _ _ _ _ r h => by simp [cellarlaw9_MemMoves.j6] at h, fun _ _ _ _ _ _ _ _ _ _ _ _ _ _ _ _ _ _ _ _ _ _ _ _ r h => by simp [cellarlaw9_MemMoves.j7] at h, fun _ _ _ _ _ _ _ _ _ _ _ _ _ r h => by simp [cellarlaw9_MemMoves.j8] at h, fun _ _ _ _ _ _ _ _ _ _ _ _ r h => by simp [cellarlaw9_MemMoves.l3] at h, fun _ _ _ _ _ _ _ _ _ _ _ _ _ _ _ _ _ _ _ _ _ _ _ r h => by simp [cellarlaw9_MemMoves.j10] at h, fun _ _ _ _ _ _ _ _ _ _ _ _ _ _ _ _ _ _ _ _ _ _ r h => by simp [cellarlaw9_MemMoves.j11] at h, fun _ _ _ _ _ _ _ _ _ _ _ _ _ _ _ _ _ _ _ _ _ _ _ r h => by simp [cellarlaw9_MemMoves.j12] at h, fun _ _ _ _ _ _ _ _ _ _ _ _ _ _ _ _ _ _ _ _ _ _ r h => by simp [cellarlaw9_MemMoves.j13] at h, fun _ _ _ _ _ _ _ _ _ _ _ _ _ r h => by simp [cellarlaw9_MemMoves.j14] at h⟩
 | k + 1 => by
  obtain ⟨ih0, ih1, ih2, ih3, ih4, ih5, ih6, ih7, ih8, ih9, ih10, ih11, ih12, ih13, ih14⟩ := cellarlaw9_MemMoves.mono_l k
  refine ⟨?_, ?_, ?_, ?_, ?_, ?_, ?_, ?_, ?_, ?_, ?_, ?_, ?_, ?_, ?_⟩
  ·intro y0 y1 y2 y3 y4 y5
   unfold cellarlaw9_MemMoves.l0
   repeat' first
   | (with_reducible apply ih0)
   | (with_reducible apply ih1)
   | (with_reducible apply ih2)
   | (with_reducible apply ih3)
   | (with_reducible apply ih4)
   | (with_reducible apply ih5)
   | (with_reducible apply ih6)
   | (with_reducible apply ih7)
   | (with_reducible apply ih8)
   | (with_reducible apply ih9)
   | (with_reducible apply ih10)
   | (with_reducible apply ih11)
   | (with_reducible apply ih12)
   | (with_reducible apply ih13)
   | (with_reducible apply ih14)
   | (with_reducible apply cellarlaw9_Heavy.mono)
   | (with_reducible apply cellarlaw9_pointers.mono)
   | (with_reducible apply cellarlaw9_wakes.mono)
   | (with_reducible apply cellarref0_CopyBlocks.mono)
   | (with_reducible apply cellarref0_EqBlocks.mono)
   | (with_reducible apply cellarref7_Mem.mono)
   | (with_reducible apply cellarref7_Move.mono)
   | (with_reducible apply cellarref7_Pointer.mono)
   | (with_reducible apply cellarref7_Scalar.mono)
   | (with_reducible apply mem_Move.mono)
   | (with_reducible apply mem_Same.mono)
   | (with_reducible apply LeO.refl)
   | (with_reducible apply LeO.none)
   | (with_reducible refine LeO.ite ?_ ?_)
   | (with_reducible refine LeO.bind ?_ (fun _ => ?_))
  ·intro y0 y1 y2 y3 y4 y5 y6
   unfold cellarlaw9_MemMoves.j1
   repeat' first
   | (with_reducible apply ih0)
   | (with_reducible apply ih1)
   | (with_reducible apply ih2)
   | (with_reducible apply ih3)
   | (with_reducible apply ih4)
   | (with_reducible apply ih5)
   | (with_reducible apply ih6)
   | (with_reducible apply ih7)
   | (with_reducible apply ih8)
   | (with_reducible apply ih9)
   | (with_reducible apply ih10)
   | (with_reducible apply ih11)
   | (with_reducible apply ih12)
   | (with_reducible apply ih13)
   | (with_reducible apply ih14)
   | (with_reducible apply cellarlaw9_Heavy.mono)
   | (with_reducible apply cellarlaw9_pointers.mono)
   | (with_reducible apply cellarlaw9_wakes.mono)
   | (with_reducible apply cellarref0_CopyBlocks.mono)
   | (with_reducible apply cellarref0_EqBlocks.mono)
   | (with_reducible apply cellarref7_Mem.mono)
   | (with_reducible apply cellarref7_Move.mono)
   | (with_reducible apply cellarref7_Pointer.mono)
   | (with_reducible apply cellarref7_Scalar.mono)
   | (with_reducible apply mem_Move.mono)
   | (with_reducible apply mem_Same.mono)
   | (with_reducible apply LeO.refl)
   | (with_reducible apply LeO.none)
   | (with_reducible refine LeO.ite ?_ ?_)
   | (with_reducible refine LeO.bind ?_ (fun _ => ?_))
  ·intro y0 y1 y2 y3 y4 y5 y6 y7 y8 y9
   unfold cellarlaw9_MemMoves.l1
   repeat' first
   | (with_reducible apply ih0)
   | (with_reducible apply ih1)
   | (with_reducible apply ih2)
   | (with_reducible apply ih3)
   | (with_reducible apply ih4)
   | (with_reducible apply ih5)
   | (with_reducible apply ih6)
   | (with_reducible apply ih7)
   | (with_reducible apply ih8)
   | (with_reducible apply ih9)
   | (with_reducible apply ih10)
   | (with_reducible apply ih11)
   | (with_reducible apply ih12)
   | (with_reducible apply ih13)
   | (with_reducible apply ih14)
   | (with_reducible apply cellarlaw9_Heavy.mono)
   | (with_reducible apply cellarlaw9_pointers.mono)
   | (with_reducible apply cellarlaw9_wakes.mono)
   | (with_reducible apply cellarref0_CopyBlocks.mono)
   | (with_reducible apply cellarref0_EqBlocks.mono)
   | (with_reducible apply cellarref7_Mem.mono)
   | (with_reducible apply cellarref7_Move.mono)
   | (with_reducible apply cellarref7_Pointer.mono)
   | (with_reducible apply cellarref7_Scalar.mono)
   | (with_reducible apply mem_Move.mono)
   | (with_reducible apply mem_Same.mono)
   | (with_reducible apply LeO.refl)
   | (with_reducible apply LeO.none)
   | (with_reducible refine LeO.ite ?_ ?_)
   | (with_reducible refine LeO.bind ?_ (fun _ => ?_))
  ·intro y0 y1 y2 y3 y4 y5 y6 y7 y8 y9 y10
   unfold cellarlaw9_MemMoves.j3
   repeat' first
   | (with_reducible apply ih0)
   | (with_reducible apply ih1)
   | (with_reducible apply ih2)
   | (with_reducible apply ih3)
   | (with_reducible apply ih4)
   | (with_reducible apply ih5)
   | (with_reducible apply ih6)
   | (with_reducible apply ih7)
   | (with_reducible apply ih8)
   | (with_reducible apply ih9)
   | (with_reducible apply ih10)
   | (with_reducible apply ih11)
   | (with_reducible apply ih12)
   | (with_reducible apply ih13)
   | (with_reducible apply ih14)
   | (with_reducible apply cellarlaw9_Heavy.mono)
   | (with_reducible apply cellarlaw9_pointers.mono)
   | (with_reducible apply cellarlaw9_wakes.mono)
   | (with_reducible apply cellarref0_CopyBlocks.mono)
   | (with_reducible apply cellarref0_EqBlocks.mono)
   | (with_reducible apply cellarref7_Mem.mono)
   | (with_reducible apply cellarref7_Move.mono)
   | (with_reducible apply cellarref7_Pointer.mono)
   | (with_reducible apply cellarref7_Scalar.mono)
   | (with_reducible apply mem_Move.mono)
   | (with_reducible apply mem_Same.mono)
   | (with_reducible apply LeO.refl)
   | (with_reducible apply LeO.none)
   | (with_reducible refine LeO.ite ?_ ?_)
   | (with_reducible refine LeO.bind ?_ (fun _ => ?_))
  ·intro y0 y1 y2 y3 y4 y5 y6 y7 y8 y9 y10 y11
   unfold cellarlaw9_MemMoves.l2
   repeat' first
   | (with_reducible apply ih0)
   | (with_reducible apply ih1)
   | (with_reducible apply ih2)
   | (with_reducible apply ih3)
   | (with_reducible apply ih4)
   | (with_reducible apply ih5)
   | (with_reducible apply ih6)
   | (with_reducible apply ih7)
   | (with_reducible apply ih8)
   | (with_reducible apply ih9)
   | (with_reducible apply ih10)
   | (with_reducible apply ih11)
   | (with_reducible apply ih12)
   | (with_reducible apply ih13)
   | (with_reducible apply ih14)
   | (with_reducible apply cellarlaw9_Heavy.mono)
   | (with_reducible apply cellarlaw9_pointers.mono)
   | (with_reducible apply cellarlaw9_wakes.mono)
   | (with_reducible apply cellarref0_CopyBlocks.mono)
   | (with_reducible apply cellarref0_EqBlocks.mono)
   | (with_reducible apply cellarref7_Mem.mono)
   | (with_reducible apply cellarref7_Move.mono)
   | (with_reducible apply cellarref7_Pointer.mono)
   | (with_reducible apply cellarref7_Scalar.mono)
   | (with_reducible apply mem_Move.mono)
   | (with_reducible apply mem_Same.mono)
   | (with_reducible apply LeO.refl)
   | (with_reducible apply LeO.none)
   | (with_reducible refine LeO.ite ?_ ?_)
   | (with_reducible refine LeO.bind ?_ (fun _ => ?_))
  ·intro y0 y1 y2 y3 y4 y5 y6 y7 y8 y9 y10 y11 y12
   unfold cellarlaw9_MemMoves.j5
   repeat' first
   | (with_reducible apply ih0)
   | (with_reducible apply ih1)
   | (with_reducible apply ih2)
   | (with_reducible apply ih3)
   | (with_reducible apply ih4)
   | (with_reducible apply ih5)
   | (with_reducible apply ih6)
   | (with_reducible apply ih7)
   | (with_reducible apply ih8)
   | (with_reducible apply ih9)
   | (with_reducible apply ih10)
   | (with_reducible apply ih11)
   | (with_reducible apply ih12)
   | (with_reducible apply ih13)
   | (with_reducible apply ih14)
   | (with_reducible apply cellarlaw9_Heavy.mono)
   | (with_reducible apply cellarlaw9_pointers.mono)
   | (with_reducible apply cellarlaw9_wakes.mono)
   | (with_reducible apply cellarref0_CopyBlocks.mono)
   | (with_reducible apply cellarref0_EqBlocks.mono)
   | (with_reducible apply cellarref7_Mem.mono)
   | (with_reducible apply cellarref7_Move.mono)
   | (with_reducible apply cellarref7_Pointer.mono)
   | (with_reducible apply cellarref7_Scalar.mono)
   | (with_reducible apply mem_Move.mono)
   | (with_reducible apply mem_Same.mono)
   | (with_reducible apply LeO.refl)
   | (with_reducible apply LeO.none)
   | (with_reducible refine LeO.ite ?_ ?_)
   | (with_reducible refine LeO.bind ?_ (fun _ => ?_))
  ·intro y0 y1 y2 y3 y4 y5 y6 y7 y8 y9 y10 y11 y12 y13 y14 y15 y16 y17 y18 y19 y20 y21 y22 y23 y24
   unfold cellarlaw9_MemMoves.j6
   repeat' first
   | (with_reducible apply ih0)
   | (with_reducible apply ih1)
   | (with_reducible apply ih2)
   | (with_reducible apply ih3)
   | (with_reducible apply ih4)
   | (with_reducible apply ih5)
   | (with_reducible apply ih6)
   | (with_reducible apply ih7)
   | (with_reducible apply ih8)
   | (with_reducible apply ih9)
   | (with_reducible apply ih10)
   | (with_reducible apply ih11)
   | (with_reducible apply ih12)
   | (with_reducible apply ih13)
   | (with_reducible apply ih14)
   | (with_reducible apply cellarlaw9_Heavy.mono)
   | (with_reducible apply cellarlaw9_pointers.mono)
   | (with_reducible apply cellarlaw9_wakes.mono)
   | (with_reducible apply cellarref0_CopyBlocks.mono)
   | (with_reducible apply cellarref0_EqBlocks.mono)
   | (with_reducible apply cellarref7_Mem.mono)
   | (with_reducible apply cellarref7_Move.mono)
   | (with_reducible apply cellarref7_Pointer.mono)
   | (with_reducible apply cellarref7_Scalar.mono)
   | (with_reducible apply mem_Move.mono)
   | (with_reducible apply mem_Same.mono)
   | (with_reducible apply LeO.refl)
   | (with_reducible apply LeO.none)
   | (with_reducible refine LeO.ite ?_ ?_)
   | (with_reducible refine LeO.bind ?_ (fun _ => ?_))
  ·intro y0 y1 y2 y3 y4 y5 y6 y7 y8 y9 y10 y11 y12 y13 y14 y15 y16 y17 y18 y19 y20 y21 y22 y23
   unfold cellarlaw9_MemMoves.j7
   repeat' first
   | (with_reducible apply ih0)
   | (with_reducible apply ih1)
   | (with_reducible apply ih2)
   | (with_reducible apply ih3)
   | (with_reducible apply ih4)
   | (with_reducible apply ih5)
   | (with_reducible apply ih6)
   | (with_reducible apply ih7)
   | (with_reducible apply ih8)
   | (with_reducible apply ih9)
   | (with_reducible apply ih10)
   | (with_reducible apply ih11)
   | (with_reducible apply ih12)
   | (with_reducible apply ih13)
   | (with_reducible apply ih14)
   | (with_reducible apply cellarlaw9_Heavy.mono)
   | (with_reducible apply cellarlaw9_pointers.mono)
   | (with_reducible apply cellarlaw9_wakes.mono)
   | (with_reducible apply cellarref0_CopyBlocks.mono)
   | (with_reducible apply cellarref0_EqBlocks.mono)
   | (with_reducible apply cellarref7_Mem.mono)
   | (with_reducible apply cellarref7_Move.mono)
   | (with_reducible apply cellarref7_Pointer.mono)
   | (with_reducible apply cellarref7_Scalar.mono)
   | (with_reducible apply mem_Move.mono)
   | (with_reducible apply mem_Same.mono)
   | (with_reducible apply LeO.refl)
   | (with_reducible apply LeO.none)
   | (with_reducible refine LeO.ite ?_ ?_)
   | (with_reducible refine LeO.bind ?_ (fun _ => ?_))
  ·intro y0 y1 y2 y3 y4 y5 y6 y7 y8 y9 y10 y11 y12
   unfold cellarlaw9_MemMoves.j8
   repeat' first
   | (with_reducible apply ih0)
   | (with_reducible apply ih1)
   | (with_reducible apply ih2)
   | (with_reducible apply ih3)
   | (with_reducible apply ih4)
   | (with_reducible apply ih5)
   | (with_reducible apply ih6)
   | (with_reducible apply ih7)
   | (with_reducible apply ih8)
   | (with_reducible apply ih9)
   | (with_reducible apply ih10)
   | (with_reducible apply ih11)
   | (with_reducible apply ih12)
   | (with_reducible apply ih13)
   | (with_reducible apply ih14)
   | (with_reducible apply cellarlaw9_Heavy.mono)
   | (with_reducible apply cellarlaw9_pointers.mono)
   | (with_reducible apply cellarlaw9_wakes.mono)
   | (with_reducible apply cellarref0_CopyBlocks.mono)
   | (with_reducible apply cellarref0_EqBlocks.mono)
   | (with_reducible apply cellarref7_Mem.mono)
   | (with_reducible apply cellarref7_Move.mono)
   | (with_reducible apply cellarref7_Pointer.mono)
   | (with_reducible apply cellarref7_Scalar.mono)
   | (with_reducible apply mem_Move.mono)
   | (with_reducible apply mem_Same.mono)
   | (with_reducible apply LeO.refl)
   | (with_reducible apply LeO.none)
   | (with_reducible refine LeO.ite ?_ ?_)
   | (with_reducible refine LeO.bind ?_ (fun _ => ?_))
  ·intro y0 y1 y2 y3 y4 y5 y6 y7 y8 y9 y10 y11
   unfold cellarlaw9_MemMoves.l3
   repeat' first
   | (with_reducible apply ih0)
   | (with_reducible apply ih1)
   | (with_reducible apply ih2)
   | (with_reducible apply ih3)
   | (with_reducible apply ih4)
   | (with_reducible apply ih5)
   | (with_reducible apply ih6)
   | (with_reducible apply ih7)
   | (with_reducible apply ih8)
   | (with_reducible apply ih9)
   | (with_reducible apply ih10)
   | (with_reducible apply ih11)
   | (with_reducible apply ih12)
   | (with_reducible apply ih13)
   | (with_reducible apply ih14)
   | (with_reducible apply cellarlaw9_Heavy.mono)
   | (with_reducible apply cellarlaw9_pointers.mono)
   | (with_reducible apply cellarlaw9_wakes.mono)
   | (with_reducible apply cellarref0_CopyBlocks.mono)
   | (with_reducible apply cellarref0_EqBlocks.mono)
   | (with_reducible apply cellarref7_Mem.mono)
   | (with_reducible apply cellarref7_Move.mono)
   | (with_reducible apply cellarref7_Pointer.mono)
   | (with_reducible apply cellarref7_Scalar.mono)
   | (with_reducible apply mem_Move.mono)
   | (with_reducible apply mem_Same.mono)
   | (with_reducible apply LeO.refl)
   | (with_reducible apply LeO.none)
   | (with_reducible refine LeO.ite ?_ ?_)
   | (with_reducible refine LeO.bind ?_ (fun _ => ?_))
  ·intro y0 y1 y2 y3 y4 y5 y6 y7 y8 y9 y10 y11 y12 y13 y14 y15 y16 y17 y18 y19 y20 y21 y22
   unfold cellarlaw9_MemMoves.j10
   repeat' first
   | (with_reducible apply ih0)
   | (with_reducible apply ih1)
   | (with_reducible apply ih2)
   | (with_reducible apply ih3)
   | (with_reducible apply ih4)
   | (with_reducible apply ih5)
   | (with_reducible apply ih6)
   | (with_reducible apply ih7)
   | (with_reducible apply ih8)
   | (with_reducible apply ih9)
   | (with_reducible apply ih10)
   | (with_reducible apply ih11)
   | (with_reducible apply ih12)
   | (with_reducible apply ih13)
   | (with_reducible apply ih14)
   | (with_reducible apply cellarlaw9_Heavy.mono)
   | (with_reducible apply cellarlaw9_pointers.mono)
   | (with_reducible apply cellarlaw9_wakes.mono)
   | (with_reducible apply cellarref0_CopyBlocks.mono)
   | (with_reducible apply cellarref0_EqBlocks.mono)
   | (with_reducible apply cellarref7_Mem.mono)
   | (with_reducible apply cellarref7_Move.mono)
   | (with_reducible apply cellarref7_Pointer.mono)
   | (with_reducible apply cellarref7_Scalar.mono)
   | (with_reducible apply mem_Move.mono)
   | (with_reducible apply mem_Same.mono)
   | (with_reducible apply LeO.refl)
   | (with_reducible apply LeO.none)
   | (with_reducible refine LeO.ite ?_ ?_)
   | (with_reducible refine LeO.bind ?_ (fun _ => ?_))
  ·intro y0 y1 y2 y3 y4 y5 y6 y7 y8 y9 y10 y11 y12 y13 y14 y15 y16 y17 y18 y19 y20 y21
   unfold cellarlaw9_MemMoves.j11
   repeat' first
   | (with_reducible apply ih0)
   | (with_reducible apply ih1)
   | (with_reducible apply ih2)
   | (with_reducible apply ih3)
   | (with_reducible apply ih4)
   | (with_reducible apply ih5)
   | (with_reducible apply ih6)
   | (with_reducible apply ih7)
   | (with_reducible apply ih8)
   | (with_reducible apply ih9)
   | (with_reducible apply ih10)
   | (with_reducible apply ih11)
   | (with_reducible apply ih12)
   | (with_reducible apply ih13)
   | (with_reducible apply ih14)
   | (with_reducible apply cellarlaw9_Heavy.mono)
   | (with_reducible apply cellarlaw9_pointers.mono)
   | (with_reducible apply cellarlaw9_wakes.mono)
   | (with_reducible apply cellarref0_CopyBlocks.mono)
   | (with_reducible apply cellarref0_EqBlocks.mono)
   | (with_reducible apply cellarref7_Mem.mono)
   | (with_reducible apply cellarref7_Move.mono)
   | (with_reducible apply cellarref7_Pointer.mono)
   | (with_reducible apply cellarref7_Scalar.mono)
   | (with_reducible apply mem_Move.mono)
   | (with_reducible apply mem_Same.mono)
   | (with_reducible apply LeO.refl)
   | (with_reducible apply LeO.none)
   | (with_reducible refine LeO.ite ?_ ?_)
   | (with_reducible refine LeO.bind ?_ (fun _ => ?_))
  ·intro y0 y1 y2 y3 y4 y5 y6 y7 y8 y9 y10 y11 y12 y13 y14 y15 y16 y17 y18 y19 y20 y21 y22
   unfold cellarlaw9_MemMoves.j12
   repeat' first
   | (with_reducible apply ih0)
   | (with_reducible apply ih1)
   | (with_reducible apply ih2)
   | (with_reducible apply ih3)
   | (with_reducible apply ih4)
   | (with_reducible apply ih5)
   | (with_reducible apply ih6)
   | (with_reducible apply ih7)
   | (with_reducible apply ih8)
   | (with_reducible apply ih9)
   | (with_reducible apply ih10)
   | (with_reducible apply ih11)
   | (with_reducible apply ih12)
   | (with_reducible apply ih13)
   | (with_reducible apply ih14)
   | (with_reducible apply cellarlaw9_Heavy.mono)
   | (with_reducible apply cellarlaw9_pointers.mono)
   | (with_reducible apply cellarlaw9_wakes.mono)
   | (with_reducible apply cellarref0_CopyBlocks.mono)
   | (with_reducible apply cellarref0_EqBlocks.mono)
   | (with_reducible apply cellarref7_Mem.mono)
   | (with_reducible apply cellarref7_Move.mono)
   | (with_reducible apply cellarref7_Pointer.mono)
   | (with_reducible apply cellarref7_Scalar.mono)
   | (with_reducible apply mem_Move.mono)
   | (with_reducible apply mem_Same.mono)
   | (with_reducible apply LeO.refl)
   | (with_reducible apply LeO.none)
   | (with_reducible refine LeO.ite ?_ ?_)
   | (with_reducible refine LeO.bind ?_ (fun _ => ?_))
  ·intro y0 y1 y2 y3 y4 y5 y6 y7 y8 y9 y10 y11 y12 y13 y14 y15 y16 y17 y18 y19 y20 y21
   unfold cellarlaw9_MemMoves.j13
   repeat' first
   | (with_reducible apply ih0)
   | (with_reducible apply ih1)
   | (with_reducible apply ih2)
   | (with_reducible apply ih3)
   | (with_reducible apply ih4)
   | (with_reducible apply ih5)
   | (with_reducible apply ih6)
   | (with_reducible apply ih7)
   | (with_reducible apply ih8)
   | (with_reducible apply ih9)
   | (with_reducible apply ih10)
   | (with_reducible apply ih11)
   | (with_reducible apply ih12)
   | (with_reducible apply ih13)
   | (with_reducible apply ih14)
   | (with_reducible apply cellarlaw9_Heavy.mono)
   | (with_reducible apply cellarlaw9_pointers.mono)
   | (with_reducible apply cellarlaw9_wakes.mono)
   | (with_reducible apply cellarref0_CopyBlocks.mono)
   | (with_reducible apply cellarref0_EqBlocks.mono)
   | (with_reducible apply cellarref7_Mem.mono)
   | (with_reducible apply cellarref7_Move.mono)
   | (with_reducible apply cellarref7_Pointer.mono)
   | (with_reducible apply cellarref7_Scalar.mono)
   | (with_reducible apply mem_Move.mono)
   | (with_reducible apply mem_Same.mono)
   | (with_reducible apply LeO.refl)
   | (with_reducible apply LeO.none)
   | (with_reducible refine LeO.ite ?_ ?_)
   | (with_reducible refine LeO.bind ?_ (fun _ => ?_))
  ·intro y0 y1 y2 y3 y4 y5 y6 y7 y8 y9 y10 y11 y12
   unfold cellarlaw9_MemMoves.j14
   repeat' first
   | (with_reducible apply ih0)
   | (with_reducible apply ih1)
   | (with_reducible apply ih2)
   | (with_reducible apply ih3)
   | (with_reducible apply ih4)
   | (with_reducible apply ih5)
   | (with_reducible apply ih6)
   | (with_reducible apply ih7)
   | (with_reducible apply ih8)
   | (with_reducible apply ih9)
   | (with_reducible apply ih10)
   | (with_reducible apply ih11)
   | (with_reducible apply ih12)
   | (with_reducible apply ih13)
   | (with_reducible apply ih14)
   | (with_reducible apply cellarlaw9_Heavy.mono)
   | (with_reducible apply cellarlaw9_pointers.mono)
   | (with_reducible apply cellarlaw9_wakes.mono)
   | (with_reducible apply cellarref0_CopyBlocks.mono)
   | (with_reducible apply cellarref0_EqBlocks.mono)
   | (with_reducible apply cellarref7_Mem.mono)
   | (with_reducible apply cellarref7_Move.mono)
   | (with_reducible apply cellarref7_Pointer.mono)
   | (with_reducible apply cellarref7_Scalar.mono)
   | (with_reducible apply mem_Move.mono)
   | (with_reducible apply mem_Same.mono)
   | (with_reducible apply LeO.refl)
   | (with_reducible apply LeO.none)
   | (with_reducible refine LeO.ite ?_ ?_)
   | (with_reducible refine LeO.bind ?_ (fun _ => ?_))
theorem cellarlaw9_MemMoves.mono : ∀ a0 a1 a2 a3 k, LeO (cellarlaw9_MemMoves.f k a0 a1 a2 a3) (cellarlaw9_MemMoves.f (k + 1) a0 a1 a2 a3) := by
 intro a0 a1 a2 a3 k
 obtain ⟨ih0, ih1, ih2, ih3, ih4, ih5, ih6, ih7, ih8, ih9, ih10, ih11, ih12, ih13, ih14⟩ := cellarlaw9_MemMoves.mono_l k
 unfold cellarlaw9_MemMoves.f
 repeat' first
   | (with_reducible apply ih0)
   | (with_reducible apply ih1)
   | (with_reducible apply ih2)
   | (with_reducible apply ih3)
   | (with_reducible apply ih4)
   | (with_reducible apply ih5)
   | (with_reducible apply ih6)
   | (with_reducible apply ih7)
   | (with_reducible apply ih8)
   | (with_reducible apply ih9)
   | (with_reducible apply ih10)
   | (with_reducible apply ih11)
   | (with_reducible apply ih12)
   | (with_reducible apply ih13)
   | (with_reducible apply ih14)
   | (with_reducible apply cellarlaw9_Heavy.mono)
   | (with_reducible apply cellarlaw9_pointers.mono)
   | (with_reducible apply cellarlaw9_wakes.mono)
   | (with_reducible apply cellarref0_CopyBlocks.mono)
   | (with_reducible apply cellarref0_EqBlocks.mono)
   | (with_reducible apply cellarref7_Mem.mono)
   | (with_reducible apply cellarref7_Move.mono)
   | (with_reducible apply cellarref7_Pointer.mono)
   | (with_reducible apply cellarref7_Scalar.mono)
   | (with_reducible apply mem_Move.mono)
   | (with_reducible apply mem_Same.mono)
   | (with_reducible apply LeO.refl)
   | (with_reducible apply LeO.none)
   | (with_reducible refine LeO.ite ?_ ?_)
   | (with_reducible refine LeO.bind ?_ (fun _ => ?_))
def cellarlaw9_MemMoves.T17 : Bool × List (List Nat × List Nat) := (true, [([], []), ([], []), ([], []), ([1, 2], [1, 2]), ([3], [3]), ([], []), ([], []), ([5, 6], [5, 6]), ([7], [7]), ([0, 4, 8], [0, 4, 8]), ([9], [9]), ([10], [10]), ([10], [10]), ([10], [10]), ([], []), ([14, 11, 9, 0, 1, 2, 3, 4, 5, 6, 7, 8, 9, 10, 11, 14], [11, 14]), ([12, 15, 0, 1, 2, 3, 4, 5, 6, 7, 8, 9, 10, 11, 12, 14, 15], [12]), ([13, 16, 0, 1, 2, 3, 4, 5, 6, 7, 8, 9, 10, 11, 12, 13, 14, 15, 16], [13])])
def cellarlaw9_MemMoves.B17 : List Nat := [0, 0, 0, 6, 14, 0, 0, 96, 224, 511, 1023, 2047, 2047, 2047, 0, 20479, 57343, 131071]
theorem cellarlaw9_MemMoves.tab17 : rtab .any (opsOf Try.f10 17) = cellarlaw9_MemMoves.T17 := by kernel_rfl
theorem cellarlaw9_MemMoves.bits17 : waitsOk cellarlaw9_MemMoves.T17.2 cellarlaw9_MemMoves.B17 = true := by kernel_rfl
def cellarlaw9_MemMoves.T21 : Bool × List (List Nat × List Nat) := (true, [([], []), ([], []), ([], []), ([1, 2], [1, 2]), ([3], [3]), ([], []), ([], []), ([5, 6], [5, 6]), ([7], [7]), ([0, 4, 8], [0, 4, 8]), ([9], [9]), ([10], [10]), ([10], [10]), ([11, 9, 0, 1, 2, 3, 4, 5, 6, 7, 8, 9, 10, 11], [11]), ([12, 13, 0, 1, 2, 3, 4, 5, 6, 7, 8, 9, 10, 11, 12, 13], [12])])
def cellarlaw9_MemMoves.B21 : List Nat := [0, 0, 0, 6, 14, 0, 0, 96, 224, 511, 1023, 2047, 2047, 4095, 16383]
theorem cellarlaw9_MemMoves.tab21 : rtab .any (opsOf Try.f10 21) = cellarlaw9_MemMoves.T21 := by kernel_rfl
theorem cellarlaw9_MemMoves.bits21 : waitsOk cellarlaw9_MemMoves.T21.2 cellarlaw9_MemMoves.B21 = true := by kernel_rfl
def cellarlaw9_MemMoves.T27 : Bool × List (List Nat × List Nat) := (true, [([], []), ([], []), ([], []), ([1, 2], [1, 2]), ([3], [3]), ([], []), ([], []), ([5, 6], [5, 6]), ([7], [7]), ([0, 4, 8], [0, 4, 8]), ([9], [9]), ([10], [10]), ([10], [10]), ([10], [10]), ([11, 9, 0, 1, 2, 3, 4, 5, 6, 7, 8, 9, 10, 11], [11]), ([12, 14, 0, 1, 2, 3, 4, 5, 6, 7, 8, 9, 10, 11, 12, 14], [12]), ([13, 15, 0, 1, 2, 3, 4, 5, 6, 7, 8, 9, 10, 11, 12, 13, 14, 15], [13])])
def cellarlaw9_MemMoves.B27 : List Nat := [0, 0, 0, 6, 14, 0, 0, 96, 224, 511, 1023, 2047, 2047, 2047, 4095, 24575, 65535]
theorem cellarlaw9_MemMoves.tab27 : rtab .any (opsOf Try.f10 27) = cellarlaw9_MemMoves.T27 := by kernel_rfl
theorem cellarlaw9_MemMoves.bits27 : waitsOk cellarlaw9_MemMoves.T27.2 cellarlaw9_MemMoves.B27 = true := by kernel_rfl
def cellarlaw9_MemMoves.T28 : Bool × List (List Nat × List Nat) := (true, [([], []), ([], []), ([0, 1], [0, 1]), ([2], [2]), ([], []), ([], []), ([4, 5], [4, 5]), ([6], [6]), ([3, 7], [3, 7]), ([8], [8]), ([9], [9]), ([9], [9]), ([10, 8, 0, 1, 2, 3, 4, 5, 6, 7, 8, 9, 10], [10]), ([11, 12, 0, 1, 2, 3, 4, 5, 6, 7, 8, 9, 10, 11, 12], [11])])
def cellarlaw9_MemMoves.B28 : List Nat := [0, 0, 3, 7, 0, 0, 48, 112, 255, 511, 1023, 1023, 2047, 8191]
theorem cellarlaw9_MemMoves.tab28 : rtab .any (opsOf Try.f10 28) = cellarlaw9_MemMoves.T28 := by kernel_rfl
theorem cellarlaw9_MemMoves.bits28 : waitsOk cellarlaw9_MemMoves.T28.2 cellarlaw9_MemMoves.B28 = true := by kernel_rfl
def cellarlaw9_MemMoves.T32 : Bool × List (List Nat × List Nat) := (true, [([], []), ([], []), ([0, 1], [0, 1]), ([2], [2]), ([], []), ([], []), ([4, 5], [4, 5]), ([6], [6]), ([3, 7], [3, 7]), ([8], [8]), ([9], [9]), ([9], [9]), ([10, 8, 0, 1, 2, 3, 4, 5, 6, 7, 8, 9, 10], [10]), ([11, 12, 0, 1, 2, 3, 4, 5, 6, 7, 8, 9, 10, 11, 12], [11])])
def cellarlaw9_MemMoves.B32 : List Nat := [0, 0, 3, 7, 0, 0, 48, 112, 255, 511, 1023, 1023, 2047, 8191]
theorem cellarlaw9_MemMoves.tab32 : rtab .any (opsOf Try.f10 32) = cellarlaw9_MemMoves.T32 := by kernel_rfl
theorem cellarlaw9_MemMoves.bits32 : waitsOk cellarlaw9_MemMoves.T32.2 cellarlaw9_MemMoves.B32 = true := by kernel_rfl
def cellarlaw9_MemMoves.T34 : Bool × List (List Nat × List Nat) := (true, [([], []), ([], []), ([0, 1], [0, 1]), ([2], [2]), ([], []), ([], []), ([4, 5], [4, 5]), ([6], [6]), ([3, 7], [3, 7]), ([8], []), ([8, 9, 0, 1, 2, 3, 4, 5, 6, 7, 8, 9], [8])])
def cellarlaw9_MemMoves.B34 : List Nat := [0, 0, 3, 7, 0, 0, 48, 112, 255, 511, 1023]
theorem cellarlaw9_MemMoves.tab34 : rtab .any (opsOf Try.f10 34) = cellarlaw9_MemMoves.T34 := by kernel_rfl
theorem cellarlaw9_MemMoves.bits34 : waitsOk cellarlaw9_MemMoves.T34.2 cellarlaw9_MemMoves.B34 = true := by kernel_rfl
abbrev cellarlaw9_MemMoves.b0 : Array Bool := #[false,false,false,false,false,false,false,false,false,false,false,false,false,false,false,false,false,false]
abbrev cellarlaw9_MemMoves.b10 : Array Bool := #[true,true,true,true,true,true,true,true,true,true,true,true,true,true,true,false,false,false]
abbrev cellarlaw9_MemMoves.b11 : Array Bool := #[true,true,true,true,true,true,true,true,true,true,false,false,false,false,false,false,false,false]
abbrev cellarlaw9_MemMoves.b12 : Array Bool := #[true,true,true,true,true,true,true,true,true,false,false,false,false,false,true,false,false,false]
abbrev cellarlaw9_MemMoves.b17 : Array Bool := #[true,true,true,true,true,true,true,true,true,true,false,false,false,false,true,false,false,false]
abbrev cellarlaw9_MemMoves.b21 : Array Bool := #[true,true,true,true,true,true,true,true,true,true,true,true,true,true,true,true,false,false]
abbrev cellarlaw9_MemMoves.b24 : Array Bool := #[false,false,false,false,false,false,false,false,false,false,false,false,false,false,false]
abbrev cellarlaw9_MemMoves.b34 : Array Bool := #[true,true,true,true,true,true,true,true,true,true,false,false,false,false,false]
abbrev cellarlaw9_MemMoves.b38 : Array Bool := #[true,true,true,true,true,true,true,true,true,true,true,true,true,true,false]
abbrev cellarlaw9_MemMoves.b40 : Array Bool := #[false,false,false,false,false,false,false,false,false,false,false,false,false,false,false,false,false]
abbrev cellarlaw9_MemMoves.b50 : Array Bool := #[true,true,true,true,true,true,true,true,true,true,false,false,false,false,false,false,false]
abbrev cellarlaw9_MemMoves.b58 : Array Bool := #[false,false,false,false,false,false,false,false,false,false,false,false,false,false]
abbrev cellarlaw9_MemMoves.b67 : Array Bool := #[true,true,true,true,true,true,true,true,true,false,false,false,false,false]
abbrev cellarlaw9_MemMoves.b73 : Array Bool := #[false,false,false,false,false,false,false,false,false,false,false]
abbrev cellarlaw9_MemMoves.b82 : Array Bool := #[true,true,true,true,true,true,true,true,true,false,false]
set_option maxHeartbeats 60000000 in
set_option maxRecDepth 100000 in
theorem cellarlaw9_MemMoves.calls (k : Nat) (A0_0 : Option Addr) (c0_0 : Nat) (l0_0 : List (List (S76))) (A0_1 : Option Addr) (c0_1 : Nat) (l0_1 : List (S62)) (A0_2 : Option Addr) (c0_2 : Nat) (l0_2 : List Int) (A0_3 : Option Addr) (c0_3 : Nat) (l0_3 : List (S29)) (r : Bool) (w : World) (hr0_0 : Kd.C (Kd.slice 76 k76) w A0_0 l0_0.length l0_0) (hc0_0 : l0_0.length ≤ c0_0) (hr0_1 : Kd.C k62 w A0_1 l0_1.length l0_1) (hc0_1 : l0_1.length ≤ c0_1) (hr0_2 : Kd.C (Kd.int .i64) w A0_2 l0_2.length l0_2) (hc0_2 : l0_2.length ≤ c0_2) (hr0_3 : Kd.C k29 w A0_3 l0_3.length l0_3) (hc0_3 : l0_3.length ≤ c0_3) (h : cellarlaw9_MemMoves.f k l0_0 l0_1 l0_2 l0_3 = some r) :
  Calls Try.prog 10 #[.agg #[.slice A0_0 l0_0.length c0_0, .slice A0_1 l0_1.length c0_1, .slice A0_2 l0_2.length c0_2, .slice A0_3 l0_3.length c0_3]] w fun e w' => e = .returned (.bool r) ∧ Below w.heap.size w w' := by
 have hu54 := Try.underlying54
 have hu62 := Try.underlying62
 have HR0_0 := Aside0.mk hr0_0
 have HC0_0 := Aside0.mk hc0_0
 clear hr0_0 hc0_0
 have HR0_1 := Aside0.mk hr0_1
 have HC0_1 := Aside0.mk hc0_1
 clear hr0_1 hc0_1
 have HR0_2 := Aside0.mk hr0_2
 have HC0_2 := Aside0.mk hc0_2
 clear hr0_2 hc0_2
 have HR0_3 := Aside0.mk hr0_3
 have HC0_3 := Aside0.mk hc0_3
 clear hr0_3 hc0_3
 have HB := Aside0.mk (Below.refl w.heap.size w)
 have H : ((cellarlaw9_Heavy.f k l0_0 l0_1 l0_2 l0_3).bind fun t337 => (if t337 = true then (some true) else ((some (([0, 1, 4, 4294967295, 4294967292, 2147483648, 4294967296, (-1)] : List Int) : List Int)).bind fun y338 => (if y338.length + l0_2.length < 17592186044416 then (cellarlaw9_MemMoves.l0 k (y338 ++ l0_2) 0 l0_0 l0_1 l0_2 l0_3) else (none))))) = some r := h
 clear h
 replace H := Option.bind_eq_some_iff.mp H
 obtain ⟨t337, A20, H⟩ := H
 replace H : (if t337 = true then (some true) else ((some (([0, 1, 4, 4294967295, 4294967292, 2147483648, 4294967296, (-1)] : List Int) : List Int)).bind fun y338 => (if y338.length + l0_2.length < 17592186044416 then (cellarlaw9_MemMoves.l0 k (y338 ++ l0_2) 0 l0_0 l0_1 l0_2 l0_3) else (none)))) = some r := H
 have A2 := Aside0.mk A20
 clear A20
 by_cases c3 : t337 = true
 ·subst c3
  have H1 : (some true) = some r := by rw [if_pos rfl] at H; exact H
  clear H
  have H := H1
  clear H1
  obtain rfl := Option.some.inj H
  go_enter Try.func10, Try.ntmps10
  go_wp2_with (first | ((with_reducible refine gate_dst (N := 1) rfl ?_); refine zbox (N := 1) (cs := #[.slice A0_0 l0_0.length c0_0, .slice A0_1 l0_1.length c0_1, .slice A0_2 l0_2.length c0_2, .slice A0_3 l0_3.length c0_3]) (t := 54) ?_; intro gb336 hg w4 hbox hb; have n0_ := Aside0.mk (below_step (zw0 HB.out) hb); have BK336 := Aside0.mk (hbox); have GW336 := Aside0.mk (zg hg (below_size (zw0 HB.out))); have GE336 := GW336; clear HB; have HB := n0_; clear n0_; clear hb hbox hg; have hcz5_0 := zc BK336.out 0; have hcz5_1 := zc BK336.out 1; have hcz5_2 := zc BK336.out 2; have hcz5_3 := zc BK336.out 3; have hfz5_0 := blk_frozen BK336.out 0; have hfz5_1 := blk_frozen BK336.out 1; have hfz5_2 := blk_frozen BK336.out 2; have hfz5_3 := blk_frozen BK336.out 3) | ((with_reducible refine gate_callee (f := 25) rfl ?_); refine zgo (some 29) Try.func25 #[.agg #[.slice A0_0 l0_0.length c0_0, .slice A0_1 l0_1.length c0_1, .slice A0_2 l0_2.length c0_2, .slice A0_3 l0_3.length c0_3]] ?_; (with_reducible refine (cellarlaw9_Heavy.calls k _ _ l0_0 _ _ l0_1 _ _ l0_2 _ _ l0_3 true _ ?side1 ?side2 ?side3 ?side4 ?side5 ?side6 ?side7 ?side8 A2.out).mono ?_); (case side1 => repeat (first | exact (Kd.C_below HR0_0.out HB.out) | (with_reducible refine Kd.C_alloc ?_ _) | (with_reducible refine Kd.C_drewN ?_ _) | (with_reducible refine Kd.C_drew ?_))); (case side2 => exact HC0_0.out); (case side3 => repeat (first | exact (Kd.C_below HR0_1.out HB.out) | (with_reducible refine Kd.C_alloc ?_ _) | (with_reducible refine Kd.C_drewN ?_ _) | (with_reducible refine Kd.C_drew ?_))); (case side4 => exact HC0_1.out); (case side5 => repeat (first | exact (Kd.C_below HR0_2.out HB.out) | (with_reducible refine Kd.C_alloc ?_ _) | (with_reducible refine Kd.C_drewN ?_ _) | (with_reducible refine Kd.C_drew ?_))); (case side6 => exact HC0_2.out); (case side7 => repeat (first | exact (Kd.C_below HR0_3.out HB.out) | (with_reducible refine Kd.C_alloc ?_ _) | (with_reducible refine Kd.C_drewN ?_ _) | (with_reducible refine Kd.C_drew ?_))); (case side8 => exact HC0_3.out); rintro e w6 ⟨rfl, hb⟩; refine ⟨_, rfl, ?_⟩; have n0_ := Aside0.mk (zbb BK336.out hb); have n1_ := Aside0.mk (below_step (zw1 HB.out GE336.out) hb); clear BK336 HB; have BK336 := n0_; have HB := n1_; clear n0_ n1_; (try clear hb); (try clear hb2); (try clear hk); (try clear hi)))
  go_ret
  exact ⟨ze, zw1 HB.out GE336.out⟩
 ·replace c3 := Bool.eq_false_iff.mpr c3
  subst c3
  have H1 : ((some (([0, 1, 4, 4294967295, 4294967292, 2147483648, 4294967296, (-1)] : List Int) : List Int)).bind fun y338 => (if y338.length + l0_2.length < 17592186044416 then (cellarlaw9_MemMoves.l0 k (y338 ++ l0_2) 0 l0_0 l0_1 l0_2 l0_3) else (none))) = some r := by rw [if_neg (show ¬ (false = true) by decide)] at H; exact H
  clear H
  have H := H1
  clear H1
  obtain ⟨y338, hy338⟩ : ∃ y_ : List Int, y_ = (([0, 1, 4, 4294967295, 4294967292, 2147483648, 4294967296, (-1)] : List Int)) := ⟨_, rfl⟩
  replace H : (if y338.length + l0_2.length < 17592186044416 then (cellarlaw9_MemMoves.l0 k (y338 ++ l0_2) 0 l0_0 l0_1 l0_2 l0_3) else (none)) = some r := by first | (rw [hy338]; with_reducible exact H) | (have H2_ := (Option.bind_some _ _).symm.trans H; rw [hy338]; with_reducible exact H2_) | (have H2_ := (Option.bind_some _ _).symm.trans H; with_reducible exact H2_) | with_reducible exact H | (rw [hy338]; exact H) | exact H
  have Ny338 := Aside0.mk hy338
  clear hy338
  by_cases c7 : y338.length + l0_2.length < 17592186044416
  ·rw [if_pos c7] at H
   have LMc7 := Aside0.mk c7
   clear c7
   obtain ⟨y341, hy341⟩ : ∃ y_ : List Int, y_ = (y338 ++ l0_2) := ⟨_, rfl⟩
   replace H : (cellarlaw9_MemMoves.l0 k y341 0 l0_0 l0_1 l0_2 l0_3) = some r := by first | (rw [hy341]; with_reducible exact H) | (have H2_ := (Option.bind_some _ _).symm.trans H; rw [hy341]; with_reducible exact H2_) | (have H2_ := (Option.bind_some _ _).symm.trans H; with_reducible exact H2_) | with_reducible exact H | (rw [hy341]; exact H) | exact H
   have Ny341 := Aside0.mk hy341
   clear hy341
   have H' := Aside0.mk H
   clear H
   go_enter Try.func10, Try.ntmps10
   go_wp2_with (first | ((with_reducible refine gate_dst (N := 1) rfl ?_); refine zbox (N := 1) (cs := #[.slice A0_0 l0_0.length c0_0, .slice A0_1 l0_1.length c0_1, .slice A0_2 l0_2.length c0_2, .slice A0_3 l0_3.length c0_3]) (t := 54) ?_; intro gb336 hg w8 hbox hb; have n0_ := Aside0.mk (below_step (zw0 HB.out) hb); have BK336 := Aside0.mk (hbox); have GW336 := Aside0.mk (zg hg (below_size (zw0 HB.out))); have GE336 := GW336; clear HB; have HB := n0_; clear n0_; clear hb hbox hg; have hcz9_0 := zc BK336.out 0; have hcz9_1 := zc BK336.out 1; have hcz9_2 := zc BK336.out 2; have hcz9_3 := zc BK336.out 3; have hfz9_0 := blk_frozen BK336.out 0; have hfz9_1 := blk_frozen BK336.out 1; have hfz9_2 := blk_frozen BK336.out 2; have hfz9_3 := blk_frozen BK336.out 3) | ((with_reducible refine gate_callee (f := 25) rfl ?_); refine zgo (some 29) Try.func25 #[.agg #[.slice A0_0 l0_0.length c0_0, .slice A0_1 l0_1.length c0_1, .slice A0_2 l0_2.length c0_2, .slice A0_3 l0_3.length c0_3]] ?_; (with_reducible refine (cellarlaw9_Heavy.calls k _ _ l0_0 _ _ l0_1 _ _ l0_2 _ _ l0_3 false _ ?side1 ?side2 ?side3 ?side4 ?side5 ?side6 ?side7 ?side8 A2.out).mono ?_); (case side1 => repeat (first | exact (Kd.C_below HR0_0.out HB.out) | (with_reducible refine Kd.C_alloc ?_ _) | (with_reducible refine Kd.C_drewN ?_ _) | (with_reducible refine Kd.C_drew ?_))); (case side2 => exact HC0_0.out); (case side3 => repeat (first | exact (Kd.C_below HR0_1.out HB.out) | (with_reducible refine Kd.C_alloc ?_ _) | (with_reducible refine Kd.C_drewN ?_ _) | (with_reducible refine Kd.C_drew ?_))); (case side4 => exact HC0_1.out); (case side5 => repeat (first | exact (Kd.C_below HR0_2.out HB.out) | (with_reducible refine Kd.C_alloc ?_ _) | (with_reducible refine Kd.C_drewN ?_ _) | (with_reducible refine Kd.C_drew ?_))); (case side6 => exact HC0_2.out); (case side7 => repeat (first | exact (Kd.C_below HR0_3.out HB.out) | (with_reducible refine Kd.C_alloc ?_ _) | (with_reducible refine Kd.C_drewN ?_ _) | (with_reducible refine Kd.C_drew ?_))); (case side8 => exact HC0_3.out); rintro e w10 ⟨rfl, hb⟩; refine ⟨_, rfl, ?_⟩; have n0_ := Aside0.mk (zbb BK336.out hb); have n1_ := Aside0.mk (below_step (zw1 HB.out GE336.out) hb); clear BK336 HB; have BK336 := n0_; have HB := n1_; clear n0_ n1_; (try clear hb); (try clear hb2); (try clear hk); (try clear hi)) | ((with_reducible refine gate_dst (N := 30) rfl ?_); refine Kd.R_lit (Kd.int .i64) _ 3 ?hg (N := 30) ?hd (xs := ([0, 1, 4, 4294967295, 4294967292, 2147483648, 4294967296, (-1)] : List Int)) (inner := [.int .i64 0, .int .i64 1, .int .i64 4, .int .i64 4294967295, .int .i64 4294967292, .int .i64 2147483648, .int .i64 4294967296, .int .i64 (-1)]) (ok := fun _ => True) (okp := fun _ => True) ?hr ?hp (fun _ hk => hk) trivial (Below.refl _ _) (Nat.le_refl _) (by simp) ?_; (case hd => rfl); (case hg => rfl); (case hr => first | (go_simp; done) | (go_simp; rfl)); (case hp => exact (Reps.one (show Kd.M (Kd.int .i64) _ _ _ 0 [.int .i64 0] from rfl) (Reps.one (show Kd.M (Kd.int .i64) _ _ _ 1 [.int .i64 1] from rfl) (Reps.one (show Kd.M (Kd.int .i64) _ _ _ 4 [.int .i64 4] from rfl) (Reps.one (show Kd.M (Kd.int .i64) _ _ _ 4294967295 [.int .i64 4294967295] from rfl) (Reps.one (show Kd.M (Kd.int .i64) _ _ _ 4294967292 [.int .i64 4294967292] from rfl) (Reps.one (show Kd.M (Kd.int .i64) _ _ _ 2147483648 [.int .i64 2147483648] from rfl) (Reps.one (show Kd.M (Kd.int .i64) _ _ _ 4294967296 [.int .i64 4294967296] from rfl) (Reps.one (show Kd.M (Kd.int .i64) _ _ _ (-1) [.int .i64 (-1)] from rfl) (Reps.none _ _)))))))))); intro v339 w11 ho12 hb hg_ hnew_; clear hg_ hnew_; (first | rw [← Ny338.out] at ho12 | (simp only [Int.reduceToNat] at ho12; rw [← Ny338.out] at ho12)); have HO340 := Aside0.mk (Kd.R_lower ho12 (below_size (zw1 HB.out GE336.out))); have n1_ := Aside0.mk (zbb BK336.out hb); have n2_ := Aside0.mk (below_step (zw1 HB.out GE336.out) hb); clear BK336 HB; have BK336 := n1_; have HB := n2_; clear n1_ n2_; clear hb ho12; have hcz13_0 := zc BK336.out 0; have hcz13_1 := zc BK336.out 1; have hcz13_2 := zc BK336.out 2; have hcz13_3 := zc BK336.out 3; have hfz13_0 := blk_frozen BK336.out 0; have hfz13_1 := blk_frozen BK336.out 1; have hfz13_2 := blk_frozen BK336.out 2; have hfz13_3 := blk_frozen BK336.out 3) | ((with_reducible refine gate_builtin (b := .append) (xs := #[.tmp 30, .tmp 32]) rfl ?_); at_builtin; refine Kd.R_append_rows (Kd.int .i64) (w0 := w) w.heap.size rfl (.tmp 30) (.tmp 32) 25 3 (.int .i64 0) 8 rfl Try.underlying25 info3 rfl (by decide) (by omega) v339 y338 l0_2 _ _ _ (fun _ => True) (fun _ => False) rfl rfl ?aO ?aR (fun _ _ h => h) (fun _ h => h.elim) ?aF ?aB ?aS ?aL ?_; (case aR => repeat (first | exact (Kd.C_below HR0_2.out HB.out) | (with_reducible refine Kd.C_alloc ?_ _) | (with_reducible refine Kd.C_drewN ?_ _) | (with_reducible refine Kd.C_drew ?_))); (case aB => exact (zw1 HB.out GE336.out)); (case aF => exact (fun _ _ => trivial)); (case aO => exact (by (with_reducible repeat (first | apply Kd.R_alloc | apply Kd.R_drewN | apply Kd.R_drew)); exact HO340.out)); (case aS => exact (below_size (zw1 HB.out GE336.out))); (case aL => have := LMc7.out; omega); intro v342 w14 ho hb hg hat; rw [← Ny341.out] at ho; have n0_ := Aside0.mk (blk_grown (g := gb336) (o := .cells #[.slice A0_0 l0_0.length c0_0, .slice A0_1 l0_1.length c0_1, .slice A0_2 l0_2.length c0_2, .slice A0_3 l0_3.length c0_3] 54 (0, 0)) (zb BK336.out) hg (Kd.R_ne HO340.out BK336.out (by decide))); have n1_ := Aside0.mk (hb); have HO343 := Aside0.mk (ho); clear BK336 HB HO340; have BK336 := n0_; have HB := n1_; clear n0_ n1_; clear ho hb hg hat))
   go_loopg [4] k (fun kq v4 w' => ∃ (x4_1 : Int), v4 = .int .i64 x4_1 ∧ Aside0 (cellarlaw9_MemMoves.l0 kq y341 x4_1 l0_0 l0_1 l0_2 l0_3 = some r) ∧ Aside0 (kq ≤ k) ∧ Aside0 (Kd.R (Kd.int .i64) 3 w' w.heap.size (fun _ => True) v342 y341) ∧ Aside0 (w'.heap[gb336]? = some (.cells #[(.slice A0_0 l0_0.length c0_0), (.slice A0_1 l0_1.length c0_1), (.slice A0_2 l0_2.length c0_2), (.slice A0_3 l0_3.length c0_3)] 54 (0, 0))) ∧ Aside0 (Below w.heap.size w w'))
   case atStart => exact ⟨(0), (zr), H', ⟨Nat.le_refl _⟩, ⟨by (with_reducible repeat (first | apply Kd.R_alloc | apply Kd.R_drewN | apply Kd.R_drew)); exact HO343.out⟩, ⟨zb BK336.out⟩, ⟨zw1 HB.out GE336.out⟩⟩
   case round => as_aux_lemma =>
    clear H'
    try clear c1; try clear c2; try clear p2; try clear c3; try clear c7; try clear c10
    obtain ⟨x4_1, rfl, HA, HK1, HO_3, BK336, HB⟩ := hrel
    cases gk with
    | zero => exact absurd HA.out (by simp [cellarlaw9_MemMoves.l0])
    | succ k1 =>
     have H := HA.out
     clear HA
     simp only [cellarlaw9_MemMoves.l0] at H
     have HC15 := Aside0.mk H
     clear H
     go_upto_region 5 with (fail)
     go_cut [42] (fun v42 wc => ∃ (kq : Nat) (x42_14 : Bool), v42 = .bool x42_14 ∧ Aside0 (cellarlaw9_MemMoves.j1 kq y341 x4_1 x42_14 l0_0 l0_1 l0_2 l0_3 = some r) ∧ Aside0 (kq ≤ k1) ∧ Aside0 (Kd.R (Kd.int .i64) 3 wc w.heap.size (fun _ => True) v342 y341) ∧ Aside0 (wc.heap[gb336]? = some (.cells #[(.slice A0_0 l0_0.length c0_0), (.slice A0_1 l0_1.length c0_1), (.slice A0_2 l0_2.length c0_2), (.slice A0_3 l0_3.length c0_3)] 54 (0, 0))) ∧ Aside0 (Below w.heap.size w wc))
     case first =>
      have H := HC15.out
      clear HC15
      by_cases c16 : x4_1 < (l0_0.length : Int)
      rotate_left
      ·rw [if_neg c16] at H
       have c16b0 : decide (x4_1 < (l0_0.length : Int)) = false := decide_eq_false c16
       clear c16
       (first | rw [c16b0] | (simp only [i64_w, i32_w]; rw [c16b0]) | skip)
       have H' := Aside0.mk H
       clear H
       have hcz18_0 := zc BK336.out 0
       have hcz18_1 := zc BK336.out 1
       have hcz18_2 := zc BK336.out 2
       have hcz18_3 := zc BK336.out 3
       have hfz18_0 := blk_frozen BK336.out 0
       have hfz18_1 := blk_frozen BK336.out 1
       have hfz18_2 := blk_frozen BK336.out 2
       have hfz18_3 := blk_frozen BK336.out 3
       go_wp2
       go_meet
       case rel => exact ⟨_, (false), (zr), H', ⟨by have := HK1.out; first | omega | exact Nat.le_refl _⟩, ⟨by (with_reducible repeat (first | apply Kd.R_alloc | apply Kd.R_drewN | apply Kd.R_drew)); exact HO_3.out⟩, ⟨zb BK336.out⟩, ⟨zw1 HB.out GE336.out⟩⟩
      rw [if_pos c16] at H
      have c16b0 : decide (x4_1 < (l0_0.length : Int)) = true := decide_eq_true c16
      clear c16
      (first | rw [c16b0] | (simp only [i64_w, i32_w]; rw [c16b0]) | skip)
      have H' := Aside0.mk H
      clear H
      have hcz17_0 := zc BK336.out 0
      have hcz17_1 := zc BK336.out 1
      have hcz17_2 := zc BK336.out 2
      have hcz17_3 := zc BK336.out 3
      have hfz17_0 := blk_frozen BK336.out 0
      have hfz17_1 := blk_frozen BK336.out 1
      have hfz17_2 := blk_frozen BK336.out 2
      have hfz17_3 := blk_frozen BK336.out 3
      go_wp2
      go_meet
      case rel => exact ⟨_, (decide (x4_1 < 5)), (zr), H', ⟨by have := HK1.out; first | omega | exact Nat.le_refl _⟩, ⟨by (with_reducible repeat (first | apply Kd.R_alloc | apply Kd.R_drewN | apply Kd.R_drew)); exact HO_3.out⟩, ⟨zb BK336.out⟩, ⟨zw1 HB.out GE336.out⟩⟩
     case rest => as_aux_lemma =>
      clear HC15
      try clear c1; try clear c2; try clear p2; try clear c3; try clear c7; try clear c10; try clear c16; try clear c16b0; try clear p2
      obtain ⟨kq, x42_14, rfl, HA, HJ14, HO_3, BK336, HB⟩ := hcut
      cases kq with
      | zero => exact absurd HA.out (by simp [cellarlaw9_MemMoves.j1])
      | succ kj14 =>
       have H := HA.out
       clear HA
       simp only [cellarlaw9_MemMoves.j1] at H
       by_cases c19 : x42_14 = true
       rotate_left
       ·replace c19 := Bool.eq_false_iff.mpr c19
        subst c19
        have H1 : ((cellarlaw9_wakes.f kj14).bind fun t401 => (some t401)) = some r := by rw [if_neg (show ¬ (false = true) by decide)] at H; exact H
        clear H
        have H := H1
        clear H1
        replace H := Option.bind_eq_some_iff.mp H
        obtain ⟨t401, A1540, H⟩ := H
        replace H : (some t401) = some r := H
        have A154 := Aside0.mk A1540
        clear A1540
        obtain rfl := Option.some.inj H
        go_wp2_with (first | ((with_reducible refine gate_callee (f := 38) rfl ?_); refine zgo (some 242) Try.func38 #[] ?_; (with_reducible refine (cellarlaw9_wakes.calls kj14  t401 _ A154.out).mono ?_); rintro e w155 ⟨rfl, hb⟩; refine ⟨_, rfl, ?_⟩; have n0_ := Aside0.mk (Kd.R_below (by (with_reducible repeat (first | apply Kd.R_alloc | apply Kd.R_drewN | apply Kd.R_drew)); exact HO_3.out) hb); have n1_ := Aside0.mk (zbb BK336.out hb); have n2_ := Aside0.mk (below_step (zw1 HB.out GE336.out) hb); clear HO_3 BK336 HB; have HO_3 := n0_; have BK336 := n1_; have HB := n2_; clear n0_ n1_ n2_; (try clear hb); (try clear hb2); (try clear hk); (try clear hi)))
        go_ret
        exact ⟨ze, zw1 HB.out GE336.out⟩
       subst c19
       have H1 : (if 0 ≤ x4_1 then (if x4_1 < (l0_0.length : Int) then ((cellarref0_CopyBlocks.f kj14 (rd_L4 l0_0 x4_1)).bind fun t345 => ((cellarref7_Mem.f kj14 (rd_L4 l0_0 x4_1)).bind fun t349 => ((cellarlaw9_pointers.f kj14 l0_0 l0_1 l0_2 l0_3 t345).bind fun t350 => (cellarlaw9_MemMoves.l1 kj14 y341 x4_1 t345 t349 t350 0 l0_0 l0_1 l0_2 l0_3)))) else (none)) else (none)) = some r := by rw [if_pos rfl] at H; exact H
       clear H
       have H := H1
       clear H1
       by_cases c20 : 0 ≤ x4_1
       rotate_left
       ·rw [if_neg c20] at H
        exact absurd H (by simp)
       rw [if_pos c20] at H
       have c20b0 : decide (0 ≤ x4_1) = true := decide_eq_true c20
       clear c20
       by_cases c21 : x4_1 < (l0_0.length : Int)
       rotate_left
       ·rw [if_neg c21] at H
        exact absurd H (by simp)
       rw [if_pos c21] at H
       have c21b0 : decide (x4_1 < (l0_0.length : Int)) = true := decide_eq_true c21
       clear c21
       replace H := Option.bind_eq_some_iff.mp H
       obtain ⟨t345, A220, H⟩ := H
       replace H : ((cellarref7_Mem.f kj14 (rd_L4 l0_0 x4_1)).bind fun t349 => ((cellarlaw9_pointers.f kj14 l0_0 l0_1 l0_2 l0_3 t345).bind fun t350 => (cellarlaw9_MemMoves.l1 kj14 y341 x4_1 t345 t349 t350 0 l0_0 l0_1 l0_2 l0_3))) = some r := H
       have A22 := Aside0.mk A220
       clear A220
       replace H := Option.bind_eq_some_iff.mp H
       obtain ⟨t349, A230, H⟩ := H
       replace H : ((cellarlaw9_pointers.f kj14 l0_0 l0_1 l0_2 l0_3 t345).bind fun t350 => (cellarlaw9_MemMoves.l1 kj14 y341 x4_1 t345 t349 t350 0 l0_0 l0_1 l0_2 l0_3)) = some r := H
       have A23 := Aside0.mk A230
       clear A230
       replace H := Option.bind_eq_some_iff.mp H
       obtain ⟨t350, A240, H⟩ := H
       replace H : (cellarlaw9_MemMoves.l1 kj14 y341 x4_1 t345 t349 t350 0 l0_0 l0_1 l0_2 l0_3) = some r := H
       have A24 := Aside0.mk A240
       clear A240
       have H' := Aside0.mk H
       clear H
       have hcz25_0 := zc BK336.out 0
       have hcz25_1 := zc BK336.out 1
       have hcz25_2 := zc BK336.out 2
       have hcz25_3 := zc BK336.out 3
       have hfz25_0 := blk_frozen BK336.out 0
       have hfz25_1 := blk_frozen BK336.out 1
       have hfz25_2 := blk_frozen BK336.out 2
       have hfz25_3 := blk_frozen BK336.out 3
       have p344 : 0 ≤ (x4_1 : Int) := zdec
       have q344 : x4_1 < (l0_0.length : Int) := zdec
       obtain ⟨ad344, A344_0, c344_0, e344, hx344_0, hl344_0, hi344_0⟩ := at_L4 HR0_0.out x4_1 p344 q344
       cases e344
       replace hx344_0 := zh HB.out hx344_0
       have HR344_0 := Aside0.mk hi344_0
       have HC344_0 := Aside0.mk hl344_0
       clear hi344_0 hl344_0
       replace p344 := eq_true p344
       replace q344 := eq_true q344
       go_wp2_with (first | ((with_reducible refine gate_callee (f := 27) rfl ?_); refine zgo (some 50) Try.func27 #[.slice A344_0 (rd_L4 l0_0 x4_1).length c344_0] ?_; (with_reducible refine (cellarref0_CopyBlocks.calls kj14 _ _ (rd_L4 l0_0 x4_1) t345 _ ?side1 ?side2 A22.out).mono ?_); (case side1 => repeat (first | exact (Kd.C_below HR344_0.out HB.out) | (with_reducible refine Kd.C_alloc ?_ _) | (with_reducible refine Kd.C_drewN ?_ _) | (with_reducible refine Kd.C_drew ?_))); (case side2 => exact HC344_0.out); rintro e w26 ⟨v346, rfl, ho0, hb⟩; refine ⟨_, rfl, ?_⟩; have n0_ := Aside0.mk (Kd.R_below (by (with_reducible repeat (first | apply Kd.R_alloc | apply Kd.R_drewN | apply Kd.R_drew)); exact HO_3.out) hb); have HO347 := Aside0.mk (Kd.S_lower ho0 (below_size (zw1 HB.out GE336.out))); have n2_ := Aside0.mk (zbb BK336.out hb); have n3_ := Aside0.mk (below_step (zw1 HB.out GE336.out) hb); clear HO_3 BK336 HB; have HO_3 := n0_; have BK336 := n2_; have HB := n3_; clear n0_ n2_ n3_; (try clear hb); (try clear hb2); (try clear hk); (try clear hi); (try clear ho0); have hcz27_0 := zc BK336.out 0; have hcz27_1 := zc BK336.out 1; have hcz27_2 := zc BK336.out 2; have hcz27_3 := zc BK336.out 3; have hfz27_0 := blk_frozen BK336.out 0; have hfz27_1 := blk_frozen BK336.out 1; have hfz27_2 := blk_frozen BK336.out 2; have hfz27_3 := blk_frozen BK336.out 3; have p348 : 0 ≤ (x4_1 : Int) := zdec; have q348 : x4_1 < (l0_0.length : Int) := zdec; obtain ⟨ad348, A348_0, c348_0, e348, hx348_0, hl348_0, hi348_0⟩ := at_L4 HR0_0.out x4_1 p348 q348; obtain rfl : ad344 = ad348 := (by injection e348); replace hx348_0 := zh HB.out hx348_0; have HR348_0 := Aside0.mk hi348_0; have HC348_0 := Aside0.mk hl348_0; clear hi348_0 hl348_0; replace p348 := eq_true p348; replace q348 := eq_true q348) | ((with_reducible refine gate_callee (f := 28) rfl ?_); refine zgo (some 56) Try.func28 #[.slice A348_0 (rd_L4 l0_0 x4_1).length c348_0] ?_; (with_reducible refine (cellarref7_Mem.calls kj14 _ _ (rd_L4 l0_0 x4_1) t349 _ ?side1 ?side2 A23.out).mono ?_); (case side1 => repeat (first | exact (Kd.C_below HR348_0.out HB.out) | (with_reducible refine Kd.C_alloc ?_ _) | (with_reducible refine Kd.C_drewN ?_ _) | (with_reducible refine Kd.C_drew ?_))); (case side2 => exact HC348_0.out); rintro e w28 ⟨rfl, hb⟩; refine ⟨_, rfl, ?_⟩; have n0_ := Aside0.mk (Kd.R_below (by (with_reducible repeat (first | apply Kd.R_alloc | apply Kd.R_drewN | apply Kd.R_drew)); exact HO_3.out) hb); have n1_ := Aside0.mk (Kd.S_below (by (with_reducible repeat (first | apply Kd.S_alloc | apply Kd.S_drewN | apply Kd.S_drew)); exact HO347.out) hb); have n2_ := Aside0.mk (zbb BK336.out hb); have n3_ := Aside0.mk (below_step (zw1 HB.out GE336.out) hb); clear HO_3 HO347 BK336 HB; have HO_3 := n0_; have HO347 := n1_; have BK336 := n2_; have HB := n3_; clear n0_ n1_ n2_ n3_; (try clear hb); (try clear hb2); (try clear hk); (try clear hi); have hcz29_0 := zc BK336.out 0; have hcz29_1 := zc BK336.out 1; have hcz29_2 := zc BK336.out 2; have hcz29_3 := zc BK336.out 3; have hfz29_0 := blk_frozen BK336.out 0; have hfz29_1 := blk_frozen BK336.out 1; have hfz29_2 := blk_frozen BK336.out 2; have hfz29_3 := blk_frozen BK336.out 3; obtain ⟨Ao30, co30, eo30⟩ := Kd.S_slice HO347.out; subst eo30) | ((with_reducible refine gate_callee (f := 29) rfl ?_); refine zgo (some 59) Try.func29 #[.agg #[.slice (some ad344) l0_0.length c0_0, .slice A0_1 l0_1.length c0_1, .slice A0_2 l0_2.length c0_2, .slice A0_3 l0_3.length c0_3], .slice Ao30 t345.length co30] ?_; (with_reducible refine (cellarlaw9_pointers.calls kj14 _ _ l0_0 _ _ l0_1 _ _ l0_2 _ _ l0_3 _ _ t345 t350 _ ?side1 ?side2 ?side3 ?side4 ?side5 ?side6 ?side7 ?side8 ?side9 ?side10 A24.out).mono ?_); (case side1 => repeat (first | exact (Kd.C_below HR0_0.out HB.out) | (with_reducible refine Kd.C_alloc ?_ _) | (with_reducible refine Kd.C_drewN ?_ _) | (with_reducible refine Kd.C_drew ?_))); (case side2 => exact HC0_0.out); (case side3 => repeat (first | exact (Kd.C_below HR0_1.out HB.out) | (with_reducible refine Kd.C_alloc ?_ _) | (with_reducible refine Kd.C_drewN ?_ _) | (with_reducible refine Kd.C_drew ?_))); (case side4 => exact HC0_1.out); (case side5 => repeat (first | exact (Kd.C_below HR0_2.out HB.out) | (with_reducible refine Kd.C_alloc ?_ _) | (with_reducible refine Kd.C_drewN ?_ _) | (with_reducible refine Kd.C_drew ?_))); (case side6 => exact HC0_2.out); (case side7 => repeat (first | exact (Kd.C_below HR0_3.out HB.out) | (with_reducible refine Kd.C_alloc ?_ _) | (with_reducible refine Kd.C_drewN ?_ _) | (with_reducible refine Kd.C_drew ?_))); (case side8 => exact HC0_3.out); (case side9 => repeat (first | exact (Kd.S_reads' HO347.out).2.2 | (with_reducible refine Kd.C_alloc ?_ _) | (with_reducible refine Kd.C_drewN ?_ _) | (with_reducible refine Kd.C_drew ?_))); (case side10 => exact (Kd.S_reads' HO347.out).2.1); rintro e w31 ⟨v351, rfl, ho0, hb⟩; refine ⟨_, rfl, ?_⟩; have n0_ := Aside0.mk (Kd.R_below (by (with_reducible repeat (first | apply Kd.R_alloc | apply Kd.R_drewN | apply Kd.R_drew)); exact HO_3.out) hb); have n1_ := Aside0.mk (Kd.S_below (by (with_reducible repeat (first | apply Kd.S_alloc | apply Kd.S_drewN | apply Kd.S_drew)); exact HO347.out) hb); have HO352 := Aside0.mk (Kd.R_lower ho0 (below_size (zw1 HB.out GE336.out))); have n3_ := Aside0.mk (zbb BK336.out hb); have n4_ := Aside0.mk (below_step (zw1 HB.out GE336.out) hb); clear HO_3 HO347 BK336 HB; have HO_3 := n0_; have HO347 := n1_; have BK336 := n3_; have HB := n4_; clear n0_ n1_ n3_ n4_; (try clear hb); (try clear hb2); (try clear hk); (try clear hi); (try clear ho0)))
       go_loopg [8] kj14 (fun kq v8 w' => ∃ (x8_3 : Int), v8 = .int .i64 x8_3 ∧ Aside0 (cellarlaw9_MemMoves.l1 kq y341 x4_1 t345 t349 t350 x8_3 l0_0 l0_1 l0_2 l0_3 = some r) ∧ Aside0 (kq ≤ kj14) ∧ Aside0 (Kd.R (Kd.int .i64) 3 w' w.heap.size (fun _ => True) v342 y341) ∧ Aside0 (Kd.S k76 76 w' w.heap.size (fun _ => True) (.slice Ao30 t345.length co30) t345) ∧ Aside0 (Kd.R k62 62 w' w.heap.size (fun _ => True) v351 t350) ∧ Aside0 (w'.heap[gb336]? = some (.cells #[(.slice (some ad344) l0_0.length c0_0), (.slice A0_1 l0_1.length c0_1), (.slice A0_2 l0_2.length c0_2), (.slice A0_3 l0_3.length c0_3)] 54 (0, 0))) ∧ Aside0 (Below w.heap.size w w'))
       case atStart => exact ⟨(0), (zr), H', ⟨Nat.le_refl _⟩, ⟨by (with_reducible repeat (first | apply Kd.R_alloc | apply Kd.R_drewN | apply Kd.R_drew)); exact HO_3.out⟩, ⟨by (with_reducible repeat (first | apply Kd.S_alloc | apply Kd.S_drewN | apply Kd.S_drew)); exact HO347.out⟩, ⟨by (with_reducible repeat (first | apply Kd.R_alloc | apply Kd.R_drewN | apply Kd.R_drew)); exact HO352.out⟩, ⟨zb BK336.out⟩, ⟨zw1 HB.out GE336.out⟩⟩
       case round => as_aux_lemma =>
        clear H'
        try clear c1; try clear c2; try clear p2; try clear c3; try clear p3; try clear q3; try clear c7; try clear c10; try clear c16; try clear c16b0; try clear c19; try clear c20; try clear c20b0; try clear c21; try clear c21b0; try clear c25; try clear c27; try clear c28; try clear c29; try clear p2; try clear p344; try clear p348; try clear q344; try clear q348
        obtain ⟨x8_3, rfl, HA, HK3, HO_3, HO_5, HO_7, BK336, HB⟩ := hrel
        cases gk with
        | zero => exact absurd HA.out (by simp [cellarlaw9_MemMoves.l1])
        | succ k3 =>
         have H := HA.out
         clear HA
         simp only [cellarlaw9_MemMoves.l1] at H
         by_cases c32 : x8_3 < (t350.length : Int)
         rotate_left
         ·rw [if_neg c32] at H
          have c32b0 : decide (x8_3 < (t350.length : Int)) = false := decide_eq_false c32
          clear c32
          by_cases c144 : 0 ≤ x4_1
          rotate_left
          ·rw [if_neg c144] at H
           exact absurd H (by simp)
          rw [if_pos c144] at H
          have c144b0 : decide (0 ≤ x4_1) = true := decide_eq_true c144
          clear c144
          by_cases c145 : x4_1 < (l0_0.length : Int)
          rotate_left
          ·rw [if_neg c145] at H
           exact absurd H (by simp)
          rw [if_pos c145] at H
          have c145b0 : decide (x4_1 < (l0_0.length : Int)) = true := decide_eq_true c145
          clear c145
          replace H := Option.bind_eq_some_iff.mp H
          obtain ⟨t400, A1460, H⟩ := H
          replace H : (if t400 = true then (cellarlaw9_MemMoves.l0 k3 y341 (wrap64 (x4_1 + 1)) l0_0 l0_1 l0_2 l0_3) else (some false)) = some r := H
          have A146 := Aside0.mk A1460
          clear A1460
          by_cases c147 : t400 = true
          rotate_left
          ·replace c147 := Bool.eq_false_iff.mpr c147
           subst c147
           have H1 : (some false) = some r := by rw [if_neg (show ¬ (false = true) by decide)] at H; exact H
           clear H
           have H := H1
           clear H1
           obtain rfl := Option.some.inj H
           obtain ⟨Ao151, co151, eo151⟩ := Kd.R_slice HO_7.out
           subst eo151
           have hcz152_0 := zc BK336.out 0
           have hcz152_1 := zc BK336.out 1
           have hcz152_2 := zc BK336.out 2
           have hcz152_3 := zc BK336.out 3
           have hfz152_0 := blk_frozen BK336.out 0
           have hfz152_1 := blk_frozen BK336.out 1
           have hfz152_2 := blk_frozen BK336.out 2
           have hfz152_3 := blk_frozen BK336.out 3
           have p399 : 0 ≤ (x4_1 : Int) := zdec
           have q399 : x4_1 < (l0_0.length : Int) := zdec
           obtain ⟨ad399, A399_0, c399_0, e399, hx399_0, hl399_0, hi399_0⟩ := at_L4 HR0_0.out x4_1 p399 q399
           obtain rfl : ad344 = ad399 := (by injection e399)
           replace hx399_0 := zh HB.out hx399_0
           have HR399_0 := Aside0.mk hi399_0
           have HC399_0 := Aside0.mk hl399_0
           clear hi399_0 hl399_0
           replace p399 := eq_true p399
           replace q399 := eq_true q399
           go_wp2_with (first | ((with_reducible refine gate_callee (f := 36) rfl ?_); refine zgo (some 240) Try.func36 #[.slice Ao30 t345.length co30, .slice A399_0 (rd_L4 l0_0 x4_1).length c399_0] ?_; (with_reducible refine (cellarref0_EqBlocks.calls k3 _ _ t345 _ _ (rd_L4 l0_0 x4_1) false _ ?side1 ?side2 ?side3 ?side4 A146.out).mono ?_); (case side1 => repeat (first | exact (Kd.S_reads' HO_5.out).2.2 | (with_reducible refine Kd.C_alloc ?_ _) | (with_reducible refine Kd.C_drewN ?_ _) | (with_reducible refine Kd.C_drew ?_))); (case side2 => exact (Kd.S_reads' HO_5.out).2.1); (case side3 => repeat (first | exact (Kd.C_below HR399_0.out HB.out) | (with_reducible refine Kd.C_alloc ?_ _) | (with_reducible refine Kd.C_drewN ?_ _) | (with_reducible refine Kd.C_drew ?_))); (case side4 => exact HC399_0.out); rintro e w153 ⟨rfl, hb⟩; refine ⟨_, rfl, ?_⟩; have n0_ := Aside0.mk (Kd.R_below (by (with_reducible repeat (first | apply Kd.R_alloc | apply Kd.R_drewN | apply Kd.R_drew)); exact HO_3.out) hb); have n1_ := Aside0.mk (Kd.S_below (by (with_reducible repeat (first | apply Kd.S_alloc | apply Kd.S_drewN | apply Kd.S_drew)); exact HO_5.out) hb); have n2_ := Aside0.mk (Kd.R_below (by (with_reducible repeat (first | apply Kd.R_alloc | apply Kd.R_drewN | apply Kd.R_drew)); exact HO_7.out) hb); have n3_ := Aside0.mk (zbb BK336.out hb); have n4_ := Aside0.mk (below_step (zw1 HB.out GE336.out) hb); clear HO_3 HO_5 HO_7 BK336 HB; have HO_3 := n0_; have HO_5 := n1_; have HO_7 := n2_; have BK336 := n3_; have HB := n4_; clear n0_ n1_ n2_ n3_ n4_; (try clear hb); (try clear hb2); (try clear hk); (try clear hi)))
           go_ret
           exact ⟨ze, zw1 HB.out GE336.out⟩
          subst c147
          have H1 : (cellarlaw9_MemMoves.l0 k3 y341 (wrap64 (x4_1 + 1)) l0_0 l0_1 l0_2 l0_3) = some r := by rw [if_pos rfl] at H; exact H
          clear H
          have H := H1
          clear H1
          have H' := Aside0.mk H
          clear H
          obtain ⟨Ao148, co148, eo148⟩ := Kd.R_slice HO_7.out
          subst eo148
          have hcz149_0 := zc BK336.out 0
          have hcz149_1 := zc BK336.out 1
          have hcz149_2 := zc BK336.out 2
          have hcz149_3 := zc BK336.out 3
          have hfz149_0 := blk_frozen BK336.out 0
          have hfz149_1 := blk_frozen BK336.out 1
          have hfz149_2 := blk_frozen BK336.out 2
          have hfz149_3 := blk_frozen BK336.out 3
          have p399 : 0 ≤ (x4_1 : Int) := zdec
          have q399 : x4_1 < (l0_0.length : Int) := zdec
          obtain ⟨ad399, A399_0, c399_0, e399, hx399_0, hl399_0, hi399_0⟩ := at_L4 HR0_0.out x4_1 p399 q399
          obtain rfl : ad344 = ad399 := (by injection e399)
          replace hx399_0 := zh HB.out hx399_0
          have HR399_0 := Aside0.mk hi399_0
          have HC399_0 := Aside0.mk hl399_0
          clear hi399_0 hl399_0
          replace p399 := eq_true p399
          replace q399 := eq_true q399
          go_wp2_with (first | ((with_reducible refine gate_callee (f := 36) rfl ?_); refine zgo (some 240) Try.func36 #[.slice Ao30 t345.length co30, .slice A399_0 (rd_L4 l0_0 x4_1).length c399_0] ?_; (with_reducible refine (cellarref0_EqBlocks.calls k3 _ _ t345 _ _ (rd_L4 l0_0 x4_1) true _ ?side1 ?side2 ?side3 ?side4 A146.out).mono ?_); (case side1 => repeat (first | exact (Kd.S_reads' HO_5.out).2.2 | (with_reducible refine Kd.C_alloc ?_ _) | (with_reducible refine Kd.C_drewN ?_ _) | (with_reducible refine Kd.C_drew ?_))); (case side2 => exact (Kd.S_reads' HO_5.out).2.1); (case side3 => repeat (first | exact (Kd.C_below HR399_0.out HB.out) | (with_reducible refine Kd.C_alloc ?_ _) | (with_reducible refine Kd.C_drewN ?_ _) | (with_reducible refine Kd.C_drew ?_))); (case side4 => exact HC399_0.out); rintro e w150 ⟨rfl, hb⟩; refine ⟨_, rfl, ?_⟩; have n0_ := Aside0.mk (Kd.R_below (by (with_reducible repeat (first | apply Kd.R_alloc | apply Kd.R_drewN | apply Kd.R_drew)); exact HO_3.out) hb); have n1_ := Aside0.mk (Kd.S_below (by (with_reducible repeat (first | apply Kd.S_alloc | apply Kd.S_drewN | apply Kd.S_drew)); exact HO_5.out) hb); have n2_ := Aside0.mk (Kd.R_below (by (with_reducible repeat (first | apply Kd.R_alloc | apply Kd.R_drewN | apply Kd.R_drew)); exact HO_7.out) hb); have n3_ := Aside0.mk (zbb BK336.out hb); have n4_ := Aside0.mk (below_step (zw1 HB.out GE336.out) hb); clear HO_3 HO_5 HO_7 BK336 HB; have HO_3 := n0_; have HO_5 := n1_; have HO_7 := n2_; have BK336 := n3_; have HB := n4_; clear n0_ n1_ n2_ n3_ n4_; (try clear hb); (try clear hb2); (try clear hk); (try clear hi)))
          go_roundg k3
          case measure => have := HK1.out; have := HJ14.out; have := HK3.out; omega
          case rel => exact ⟨(wrap64 (x4_1 + 1)), (zr), H', ⟨by have := HK1.out; have := HJ14.out; have := HK3.out; omega⟩, ⟨by (with_reducible repeat (first | apply Kd.R_alloc | apply Kd.R_drewN | apply Kd.R_drew)); exact HO_3.out⟩, ⟨zb BK336.out⟩, ⟨zw1 HB.out GE336.out⟩⟩
         rw [if_pos c32] at H
         have c32b0 : decide (x8_3 < (t350.length : Int)) = true := decide_eq_true c32
         clear c32
         have HC33 := Aside0.mk H
         clear H
         obtain ⟨Ao34, co34, eo34⟩ := Kd.R_slice HO_7.out
         subst eo34
         go_upto_region 13 with (fail)
         go_cut [9] (fun v9 wc => ∃ (kq : Nat) (x9_32 : Bool), v9 = .bool x9_32 ∧ Aside0 (cellarlaw9_MemMoves.j3 kq y341 x4_1 t345 t349 t350 x8_3 x9_32 l0_0 l0_1 l0_2 l0_3 = some r) ∧ Aside0 (kq ≤ k3) ∧ Aside0 (Kd.R (Kd.int .i64) 3 wc w.heap.size (fun _ => True) v342 y341) ∧ Aside0 (Kd.S k76 76 wc w.heap.size (fun _ => True) (.slice Ao30 t345.length co30) t345) ∧ Aside0 (Kd.R k62 62 wc w.heap.size (fun _ => True) (.slice Ao34 t350.length co34) t350) ∧ Aside0 (wc.heap[gb336]? = some (.cells #[(.slice (some ad344) l0_0.length c0_0), (.slice A0_1 l0_1.length c0_1), (.slice A0_2 l0_2.length c0_2), (.slice A0_3 l0_3.length c0_3)] 54 (0, 0))) ∧ Aside0 (Below w.heap.size w wc))
         case first =>
          have H := HC33.out
          clear HC33
          by_cases c35 : t349 = true
          rotate_left
          ·replace c35 := Bool.eq_false_iff.mpr c35
           subst c35
           have H1 : (cellarlaw9_MemMoves.j3 k3 y341 x4_1 t345 false t350 x8_3 false l0_0 l0_1 l0_2 l0_3) = some r := by rw [if_neg (show ¬ (false = true) by decide)] at H; exact H
           clear H
           have H := H1
           clear H1
           have H' := Aside0.mk H
           clear H
           go_wp2
           go_meet
           case rel => exact ⟨_, (false), (zr), H', ⟨by have := HK1.out; have := HJ14.out; have := HK3.out; first | omega | exact Nat.le_refl _⟩, ⟨by (with_reducible repeat (first | apply Kd.R_alloc | apply Kd.R_drewN | apply Kd.R_drew)); exact HO_3.out⟩, ⟨by (with_reducible repeat (first | apply Kd.S_alloc | apply Kd.S_drewN | apply Kd.S_drew)); exact HO_5.out⟩, ⟨by (with_reducible repeat (first | apply Kd.R_alloc | apply Kd.R_drewN | apply Kd.R_drew)); exact HO_7.out⟩, ⟨zb BK336.out⟩, ⟨zw1 HB.out GE336.out⟩⟩
          subst c35
          have H1 : (if 0 ≤ x8_3 then ((cellarref7_Pointer.f k3 t345 ((rd_T62 t350 x8_3).f0) ((rd_T62 t350 x8_3).f1) ((rd_T62 t350 x8_3).f2) ((rd_T62 t350 x8_3).f3)).bind fun t354 => (cellarlaw9_MemMoves.j3 k3 y341 x4_1 t345 true t350 x8_3 t354 l0_0 l0_1 l0_2 l0_3)) else (none)) = some r := by rw [if_pos rfl] at H; exact H
          clear H
          have H := H1
          clear H1
          by_cases c36 : 0 ≤ x8_3
          rotate_left
          ·rw [if_neg c36] at H
           exact absurd H (by simp)
          rw [if_pos c36] at H
          have c36b0 : decide (0 ≤ x8_3) = true := decide_eq_true c36
          clear c36
          (first | rw [c36b0] | (simp only [i64_w, i32_w]; rw [c36b0]) | skip)
          replace H := Option.bind_eq_some_iff.mp H
          obtain ⟨t354, A370, H⟩ := H
          replace H : (cellarlaw9_MemMoves.j3 k3 y341 x4_1 t345 true t350 x8_3 t354 l0_0 l0_1 l0_2 l0_3) = some r := H
          have A37 := Aside0.mk A370
          clear A370
          have H' := Aside0.mk H
          clear H
          have p353 : 0 ≤ (x8_3 : Int) := zdec
          have q353 : x8_3 < (t350.length : Int) := zdec
          obtain ⟨ad353, e353, hx353_0, hx353_1, hx353_2, hx353_3⟩ := at_T62 (Kd.R_reads' HO_7.out).2.2 x8_3 p353 q353
          cases e353
          replace p353 := eq_true p353
          replace q353 := eq_true q353
          go_wp2_with (first | (go_at_call 33; (with_reducible refine (cellarref7_Pointer.calls k3 _ _ t345 ((rd_T62 t350 x8_3).f0) ((rd_T62 t350 x8_3).f1) ((rd_T62 t350 x8_3).f2) ((rd_T62 t350 x8_3).f3) t354 _ ?side1 ?side2 A37.out).mono ?_); (case side1 => repeat (first | exact (Kd.S_reads' HO_5.out).2.2 | (with_reducible refine Kd.C_alloc ?_ _) | (with_reducible refine Kd.C_drewN ?_ _) | (with_reducible refine Kd.C_drew ?_))); (case side2 => exact (Kd.S_reads' HO_5.out).2.1); rintro e w38 ⟨rfl, hb⟩; have n0_ := Aside0.mk (Kd.R_below (by (with_reducible repeat (first | apply Kd.R_alloc | apply Kd.R_drewN | apply Kd.R_drew)); exact HO_3.out) hb); have n1_ := Aside0.mk (Kd.S_below (by (with_reducible repeat (first | apply Kd.S_alloc | apply Kd.S_drewN | apply Kd.S_drew)); exact HO_5.out) hb); have n2_ := Aside0.mk (Kd.R_below (by (with_reducible repeat (first | apply Kd.R_alloc | apply Kd.R_drewN | apply Kd.R_drew)); exact HO_7.out) hb); have n3_ := Aside0.mk (zbb BK336.out hb); have n4_ := Aside0.mk (below_step (zw1 HB.out GE336.out) hb); clear HO_3 HO_5 HO_7 BK336 HB; have HO_3 := n0_; have HO_5 := n1_; have HO_7 := n2_; have BK336 := n3_; have HB := n4_; clear n0_ n1_ n2_ n3_ n4_; (try clear hb); (try clear hb2); (try clear hk); (try clear hi)))
          go_meet
          case rel => exact ⟨_, (t354), (zr), H', ⟨by have := HK1.out; have := HJ14.out; have := HK3.out; first | omega | exact Nat.le_refl _⟩, ⟨by (with_reducible repeat (first | apply Kd.R_alloc | apply Kd.R_drewN | apply Kd.R_drew)); exact HO_3.out⟩, ⟨by (with_reducible repeat (first | apply Kd.S_alloc | apply Kd.S_drewN | apply Kd.S_drew)); exact HO_5.out⟩, ⟨by (with_reducible repeat (first | apply Kd.R_alloc | apply Kd.R_drewN | apply Kd.R_drew)); exact HO_7.out⟩, ⟨zb BK336.out⟩, ⟨zw1 HB.out GE336.out⟩⟩
         case rest => as_aux_lemma =>
          clear HC33
          try clear c1; try clear c2; try clear p2; try clear c3; try clear p3; try clear q3; try clear c7; try clear c10; try clear c16; try clear c16b0; try clear c19; try clear c20; try clear c20b0; try clear c21; try clear c21b0; try clear c25; try clear c27; try clear c28; try clear c29; try clear c32; try clear c32b0; try clear c34; try clear p34; try clear q34; try clear c35; try clear p35; try clear q35; try clear c36; try clear c36b0; try clear p2; try clear p3; try clear p344; try clear p348; try clear p353; try clear q3; try clear q344; try clear q348; try clear q353
          obtain ⟨kq, x9_32, rfl, HA, HJ32, HO_3, HO_5, HO_7, BK336, HB⟩ := hcut
          cases kq with
          | zero => exact absurd HA.out (by simp [cellarlaw9_MemMoves.j3])
          | succ kj32 =>
           have H := HA.out
           clear HA
           simp only [cellarlaw9_MemMoves.j3] at H
           have H' := Aside0.mk H
           clear H
           go_wp2
           go_loopg [10] kj32 (fun kq v10 w' => ∃ (x10_5 : Int), v10 = .int .i64 x10_5 ∧ Aside0 (cellarlaw9_MemMoves.l2 kq y341 x4_1 t345 t349 t350 x8_3 x9_32 x10_5 l0_0 l0_1 l0_2 l0_3 = some r) ∧ Aside0 (kq ≤ kj32) ∧ Aside0 (Kd.R (Kd.int .i64) 3 w' w.heap.size (fun _ => True) v342 y341) ∧ Aside0 (Kd.S k76 76 w' w.heap.size (fun _ => True) (.slice Ao30 t345.length co30) t345) ∧ Aside0 (Kd.R k62 62 w' w.heap.size (fun _ => True) (.slice Ao34 t350.length co34) t350) ∧ Aside0 (w'.heap[gb336]? = some (.cells #[(.slice (some ad344) l0_0.length c0_0), (.slice A0_1 l0_1.length c0_1), (.slice A0_2 l0_2.length c0_2), (.slice A0_3 l0_3.length c0_3)] 54 (0, 0))) ∧ Aside0 (Below w.heap.size w w'))
           case atStart => exact ⟨(0), (zr), H', ⟨Nat.le_refl _⟩, ⟨by (with_reducible repeat (first | apply Kd.R_alloc | apply Kd.R_drewN | apply Kd.R_drew)); exact HO_3.out⟩, ⟨by (with_reducible repeat (first | apply Kd.S_alloc | apply Kd.S_drewN | apply Kd.S_drew)); exact HO_5.out⟩, ⟨by (with_reducible repeat (first | apply Kd.R_alloc | apply Kd.R_drewN | apply Kd.R_drew)); exact HO_7.out⟩, ⟨zb BK336.out⟩, ⟨zw1 HB.out GE336.out⟩⟩
           case round => as_aux_lemma =>
            clear H'
            try clear c1; try clear c2; try clear p2; try clear c3; try clear p3; try clear q3; try clear c7; try clear c10; try clear c16; try clear c16b0; try clear c19; try clear c20; try clear c20b0; try clear c21; try clear c21b0; try clear c25; try clear c27; try clear c28; try clear c29; try clear c32; try clear c32b0; try clear c34; try clear p34; try clear q34; try clear c35; try clear p35; try clear q35; try clear c36; try clear c36b0; try clear p2; try clear p3; try clear p34; try clear p344; try clear p348; try clear p35; try clear p353; try clear q3; try clear q34; try clear q344; try clear q348; try clear q35; try clear q353
            obtain ⟨x10_5, rfl, HA, HK5, HO_3, HO_5, HO_7, BK336, HB⟩ := hrel
            cases gk with
            | zero => exact absurd HA.out (by simp [cellarlaw9_MemMoves.l2])
            | succ k5 =>
             have H := HA.out
             clear HA
             simp only [cellarlaw9_MemMoves.l2] at H
             have HC39 := Aside0.mk H
             clear H
             go_upto_region 15 with (fail)
             go_cut [82] (fun v82 wc => ∃ (kq : Nat) (x82_38 : Bool), v82 = .bool x82_38 ∧ Aside0 (cellarlaw9_MemMoves.j5 kq y341 x4_1 t345 t349 t350 x8_3 x9_32 x10_5 x82_38 l0_0 l0_1 l0_2 l0_3 = some r) ∧ Aside0 (kq ≤ k5) ∧ Aside0 (Kd.R (Kd.int .i64) 3 wc w.heap.size (fun _ => True) v342 y341) ∧ Aside0 (Kd.S k76 76 wc w.heap.size (fun _ => True) (.slice Ao30 t345.length co30) t345) ∧ Aside0 (Kd.R k62 62 wc w.heap.size (fun _ => True) (.slice Ao34 t350.length co34) t350) ∧ Aside0 (wc.heap[gb336]? = some (.cells #[(.slice (some ad344) l0_0.length c0_0), (.slice A0_1 l0_1.length c0_1), (.slice A0_2 l0_2.length c0_2), (.slice A0_3 l0_3.length c0_3)] 54 (0, 0))) ∧ Aside0 (Below w.heap.size w wc))
             case first =>
              have H := HC39.out
              clear HC39
              by_cases c40 : x10_5 < (y341.length : Int)
              rotate_left
              ·rw [if_neg c40] at H
               have c40b0 : decide (x10_5 < (y341.length : Int)) = false := decide_eq_false c40
               clear c40
               (first | rw [c40b0] | (simp only [i64_w, i32_w]; rw [c40b0]) | skip)
               have H' := Aside0.mk H
               clear H
               obtain ⟨Ao42, co42, eo42⟩ := Kd.R_slice HO_3.out
               subst eo42
               go_wp2
               go_meet
               case rel => exact ⟨_, (false), (zr), H', ⟨by have := HK1.out; have := HJ14.out; have := HK3.out; have := HJ32.out; have := HK5.out; first | omega | exact Nat.le_refl _⟩, ⟨by (with_reducible repeat (first | apply Kd.R_alloc | apply Kd.R_drewN | apply Kd.R_drew)); exact HO_3.out⟩, ⟨by (with_reducible repeat (first | apply Kd.S_alloc | apply Kd.S_drewN | apply Kd.S_drew)); exact HO_5.out⟩, ⟨by (with_reducible repeat (first | apply Kd.R_alloc | apply Kd.R_drewN | apply Kd.R_drew)); exact HO_7.out⟩, ⟨zb BK336.out⟩, ⟨zw1 HB.out GE336.out⟩⟩
              rw [if_pos c40] at H
              have c40b0 : decide (x10_5 < (y341.length : Int)) = true := decide_eq_true c40
              clear c40
              (first | rw [c40b0] | (simp only [i64_w, i32_w]; rw [c40b0]) | skip)
              have H' := Aside0.mk H
              clear H
              obtain ⟨Ao41, co41, eo41⟩ := Kd.R_slice HO_3.out
              subst eo41
              go_wp2
              go_meet
              case rel => exact ⟨_, (decide (x10_5 < 13)), (zr), H', ⟨by have := HK1.out; have := HJ14.out; have := HK3.out; have := HJ32.out; have := HK5.out; first | omega | exact Nat.le_refl _⟩, ⟨by (with_reducible repeat (first | apply Kd.R_alloc | apply Kd.R_drewN | apply Kd.R_drew)); exact HO_3.out⟩, ⟨by (with_reducible repeat (first | apply Kd.S_alloc | apply Kd.S_drewN | apply Kd.S_drew)); exact HO_5.out⟩, ⟨by (with_reducible repeat (first | apply Kd.R_alloc | apply Kd.R_drewN | apply Kd.R_drew)); exact HO_7.out⟩, ⟨zb BK336.out⟩, ⟨zw1 HB.out GE336.out⟩⟩
             case rest => as_aux_lemma =>
              clear HC39
              try clear c1; try clear c2; try clear p2; try clear c3; try clear p3; try clear q3; try clear c4; try clear c7; try clear c10; try clear c16; try clear c16b0; try clear c19; try clear c20; try clear c20b0; try clear c21; try clear c21b0; try clear c25; try clear c27; try clear c28; try clear c29; try clear c32; try clear c32b0; try clear c34; try clear p34; try clear q34; try clear c35; try clear p35; try clear q35; try clear c36; try clear c36b0; try clear c40; try clear c40b0; try clear p2; try clear p3; try clear p34; try clear p344; try clear p348; try clear p35; try clear p353; try clear q3; try clear q34; try clear q344; try clear q348; try clear q35; try clear q353
              obtain ⟨kq, x82_38, rfl, HA, HJ38, HO_3, HO_5, HO_7, BK336, HB⟩ := hcut
              cases kq with
              | zero => exact absurd HA.out (by simp [cellarlaw9_MemMoves.j5])
              | succ kj38 =>
               have H := HA.out
               clear HA
               simp only [cellarlaw9_MemMoves.j5] at H
               by_cases c43 : x82_38 = true
               ·subst c43
                have H1 : (if 0 ≤ x8_3 then (if x8_3 < (t350.length : Int) then (if 0 ≤ x10_5 then (if x10_5 < (y341.length : Int) then ((mem_Move.f kj38 t345 ((rd_T62 t350 x8_3).f0) ((rd_T62 t350 x8_3).f1) ((rd_T62 t350 x8_3).f2) ((rd_T62 t350 x8_3).f3) (rd y341 x10_5)).bind fun bt357 => (if x9_32 = true then ((cellarref1_Number.f (rd y341 x10_5) 32).bind fun t366 => (cellarlaw9_MemMoves.j6 kj38 y341 x4_1 t345 t349 t350 x8_3 x9_32 x10_5 bt357.2.2.2.2.1 bt357.2.2.2.2.2 1 0 t366 l0_0 l0_1 l0_2 l0_3 bt357.1 bt357.2.1 bt357.2.2.1 bt357.2.2.2.1 false 0 0 0)) else (cellarlaw9_MemMoves.j6 kj38 y341 x4_1 t345 t349 t350 x8_3 x9_32 x10_5 bt357.2.2.2.2.1 bt357.2.2.2.2.2 1 0 false l0_0 l0_1 l0_2 l0_3 bt357.1 bt357.2.1 bt357.2.2.1 bt357.2.2.2.1 false 0 0 0))) else (none)) else (none)) else (none)) else (none)) = some r := by rw [if_pos rfl] at H; exact H
                clear H
                have H := H1
                clear H1
                by_cases c44 : 0 ≤ x8_3
                rotate_left
                ·rw [if_neg c44] at H
                 exact absurd H (by simp)
                rw [if_pos c44] at H
                have c44b0 : decide (0 ≤ x8_3) = true := decide_eq_true c44
                clear c44
                by_cases c45 : x8_3 < (t350.length : Int)
                rotate_left
                ·rw [if_neg c45] at H
                 exact absurd H (by simp)
                rw [if_pos c45] at H
                have c45b0 : decide (x8_3 < (t350.length : Int)) = true := decide_eq_true c45
                clear c45
                by_cases c46 : 0 ≤ x10_5
                rotate_left
                ·rw [if_neg c46] at H
                 exact absurd H (by simp)
                rw [if_pos c46] at H
                have c46b0 : decide (0 ≤ x10_5) = true := decide_eq_true c46
                clear c46
                by_cases c47 : x10_5 < (y341.length : Int)
                rotate_left
                ·rw [if_neg c47] at H
                 exact absurd H (by simp)
                rw [if_pos c47] at H
                have c47b0 : decide (x10_5 < (y341.length : Int)) = true := decide_eq_true c47
                clear c47
                replace H := Option.bind_eq_some_iff.mp H
                obtain ⟨⟨t357, t358, t359, t360, t361, t362⟩, A480, H⟩ := H
                replace H : (if x9_32 = true then ((cellarref1_Number.f (rd y341 x10_5) 32).bind fun t366 => (cellarlaw9_MemMoves.j6 kj38 y341 x4_1 t345 t349 t350 x8_3 x9_32 x10_5 t361 t362 1 0 t366 l0_0 l0_1 l0_2 l0_3 t357 t358 t359 t360 false 0 0 0)) else (cellarlaw9_MemMoves.j6 kj38 y341 x4_1 t345 t349 t350 x8_3 x9_32 x10_5 t361 t362 1 0 false l0_0 l0_1 l0_2 l0_3 t357 t358 t359 t360 false 0 0 0)) = some r := H
                have A48 := Aside0.mk A480
                clear A480
                have HC49 := Aside0.mk H
                clear H
                try go_wp2
                have n0_ := Aside0.mk (Kd.R_drew HO_3.out)
                have n1_ := Aside0.mk (Kd.S_drew HO_5.out)
                have n2_ := Aside0.mk (Kd.R_drew HO_7.out)
                have n3_ := Aside0.mk (blk_drew BK336.out)
                have n4_ := Aside0.mk (below_drew1 HB.out)
                clear HO_3
                clear HO_5
                clear HO_7
                clear BK336
                clear HB
                have HO_3 := n0_
                have HO_5 := n1_
                have HO_7 := n2_
                have BK336 := n3_
                have HB := n4_
                clear n0_ n1_ n2_ n3_ n4_
                have p355 : 0 ≤ (x8_3 : Int) := zdec
                have q355 : x8_3 < (t350.length : Int) := zdec
                obtain ⟨ad355, e355, hx355_0, hx355_1, hx355_2, hx355_3⟩ := at_T62 (Kd.R_reads' HO_7.out).2.2 x8_3 p355 q355
                cases e355
                replace p355 := eq_true p355
                replace q355 := eq_true q355
                obtain ⟨Ao51, co51, eo51⟩ := Kd.R_slice HO_3.out
                (first | subst eo51 | (injection eo51 with f1_ f2_ f3_; have f4_ := f1_.symm; have f5_ := f3_.symm; clear f1_ f2_ f3_; subst f4_; subst f5_))
                have p356 : 0 ≤ (x10_5 : Int) := zdec
                have q356 : x10_5 < (y341.length : Int) := zdec
                obtain ⟨ad356, e356, hx356_0⟩ := Kd.at_int (Kd.R_reads' HO_3.out).2.2 x10_5 p356 q356
                cases e356
                replace p356 := eq_true p356
                replace q356 := eq_true q356
                refine start_ (n := 18) (S := fun w' => w'.cell? (ad355.add ((x8_3).toNat * 4)) = some (.bool ((rd_T62 t350 x8_3).f0)) ∧ w'.cell? ⟨(ad355.add ((x8_3).toNat * 4)).block, (ad355.add ((x8_3).toNat * 4)).off + 1, none⟩ = some (.int .i64 ((rd_T62 t350 x8_3).f1)) ∧ w'.cell? ⟨(ad355.add ((x8_3).toNat * 4)).block, (ad355.add ((x8_3).toNat * 4)).off + 2, none⟩ = some (.int .i64 ((rd_T62 t350 x8_3).f2)) ∧ w'.cell? ⟨(ad355.add ((x8_3).toNat * 4)).block, (ad355.add ((x8_3).toNat * 4)).off + 3, none⟩ = some (.int .i64 ((rd_T62 t350 x8_3).f3)) ∧ w'.cell? (ad356.add (x10_5).toNat) = some (.int .i64 (rd y341 x10_5))) (ds := []) cellarlaw9_MemMoves.b0 (by kernel_rfl) rfl rfl ⟨hx355_0, hx355_1, hx355_2, hx355_3, hx356_0⟩ (fun hHeld => ?_); refine with_tabW cellarlaw9_MemMoves.tab17 cellarlaw9_MemMoves.bits17 (fun HT_ HW_ => ?_)
                generalize wc.drew = w50 at HO_3 HO_5 HO_7 BK336 HB hx355_0 hx355_1 hx355_2 hx355_3 hx356_0 hHeld ⊢
                refine zq 0 (some 86) HT_ ?_; refine zq 1 (some 87) HT_ ?_; refine zq 2 (some 88) HT_ ?_; refine zq 3 (some 89) HT_ ?_; refine zq 5 (some 91) HT_ ?_; refine zq 6 (some 92) HT_ ?_; refine zq 7 (some 93) HT_ ?_; refine zt 4 (some 90) HT_ HW_ hHeld ?_; refine zt 8 (some 94) HT_ HW_ hHeld ?_
                refine join_ (σ := Nat) 3 cellarlaw9_MemMoves.b10 (fun s_ => [(95, .tuple #[.agg #[.bool t357, .int .i64 t358, .int .i64 t359, .int .i64 t360], .int .i64 t361, .int .i64 t362]), (11, .pointer (some ⟨s_, 0, none⟩)), (85, .tuple #[.agg #[.bool t357, .int .i64 t358, .int .i64 t359, .int .i64 t360], .int .i64 t361, .int .i64 t362]), (96, .agg #[.bool t357, .int .i64 t358, .int .i64 t359, .int .i64 t360]), (97, .int .i64 t361), (98, .int .i64 t362)]) (fun s_ w' => (w'.cell? (ad355.add ((x8_3).toNat * 4)) = some (.bool ((rd_T62 t350 x8_3).f0)) ∧ w'.cell? ⟨(ad355.add ((x8_3).toNat * 4)).block, (ad355.add ((x8_3).toNat * 4)).off + 1, none⟩ = some (.int .i64 ((rd_T62 t350 x8_3).f1)) ∧ w'.cell? ⟨(ad355.add ((x8_3).toNat * 4)).block, (ad355.add ((x8_3).toNat * 4)).off + 2, none⟩ = some (.int .i64 ((rd_T62 t350 x8_3).f2)) ∧ w'.cell? ⟨(ad355.add ((x8_3).toNat * 4)).block, (ad355.add ((x8_3).toNat * 4)).off + 3, none⟩ = some (.int .i64 ((rd_T62 t350 x8_3).f3)) ∧ w'.cell? (ad356.add (x10_5).toNat) = some (.int .i64 (rd y341 x10_5))) ∧ (Kd.R (Kd.int .i64) 3 w' w.heap.size (fun _ => True) (.slice (some ad356) y341.length co51) y341) ∧ (Kd.S k76 76 w' w.heap.size (fun _ => True) (.slice Ao30 t345.length co30) t345) ∧ (Kd.R k62 62 w' w.heap.size (fun k_ => k_ ≠ s_) (.slice (some ad355) t350.length co34) t350) ∧ (w'.heap[gb336]? = some (.cells #[.slice (some ad344) l0_0.length c0_0, .slice A0_1 l0_1.length c0_1, .slice A0_2 l0_2.length c0_2, .slice A0_3 l0_3.length c0_3] 54 (0, 0))) ∧ (w'.heap[s_]? = some (.cells #[.bool false, .int .i64 0, .int .i64 0, .int .i64 0] 62 (0, 0))) ∧ (w.heap.size ≤ s_) ∧ (w.heap.size ≤ s_) ∧ (gb336 ≠ s_) ∧ (s_ ≠ gb336) ∧ (Below w.heap.size w w')) ?_ ?_
                rotate_left
                ·intro hCont
                 refine two_ (i := 9) (j := 14) (Ni := some 95) (Nj := some 11) cellarlaw9_MemMoves.b11 cellarlaw9_MemMoves.b12 rfl rfl rfl rfl (two_of HT_.out (by kernel_rfl)) (by decide) (by decide) (fun K hK => ?_) (fun K hK => ?_)
                 ·skip
                  refine goes_ Try.func44 (by kernel_rfl) rfl #[.slice Ao30 t345.length co30, .agg #[.bool ((rd_T62 t350 x8_3).f0), .int .i64 ((rd_T62 t350 x8_3).f1), .int .i64 ((rd_T62 t350 x8_3).f2), .int .i64 ((rd_T62 t350 x8_3).f3)], .int .i64 (rd y341 x10_5)] (by rfl) rfl rfl (by (try simp only [List.map_toArray, List.map_cons, List.map_nil]); first | done | rfl | (simp only [List.length_drop, List.length_take]; rfl)) ?_
                  with_reducible refine (mem_Move.calls kj38 _ _ t345 ((rd_T62 t350 x8_3).f0) ((rd_T62 t350 x8_3).f1) ((rd_T62 t350 x8_3).f2) ((rd_T62 t350 x8_3).f3) (rd y341 x10_5) t357 t358 t359 t360 t361 t362 _ ?side1 ?side2 A48.out).mono ?_
                  (case side1 => repeat (first | exact (Kd.S_reads' HO_5.out).2.2 | (with_reducible refine Kd.C_alloc ?_ _) | (with_reducible refine Kd.C_drewN ?_ _) | (with_reducible refine Kd.C_drew ?_)))
                  (case side2 => exact (Kd.S_reads' HO_5.out).2.1)
                  rintro e w52 ⟨rfl, hb⟩
                  have HS0_ := (hb.cell (World.block_lt_of_cell? _ _ (hHeld.1))).trans (hHeld.1)
                  have HS1_ := (hb.cell (World.block_lt_of_cell? _ _ (hHeld.2.1))).trans (hHeld.2.1)
                  have HS2_ := (hb.cell (World.block_lt_of_cell? _ _ (hHeld.2.2.1))).trans (hHeld.2.2.1)
                  have HS3_ := (hb.cell (World.block_lt_of_cell? _ _ (hHeld.2.2.2.1))).trans (hHeld.2.2.2.1)
                  have HS4_ := (hb.cell (World.block_lt_of_cell? _ _ (hHeld.2.2.2.2))).trans (hHeld.2.2.2.2)
                  refine ⟨_, rfl, ?_⟩
                  have n0_ := Aside0.mk (Kd.R_below (by (with_reducible repeat (first | apply Kd.R_alloc | apply Kd.R_drewN | apply Kd.R_drew)); exact HO_3.out) hb)
                  have n1_ := Aside0.mk (Kd.S_below (by (with_reducible repeat (first | apply Kd.S_alloc | apply Kd.S_drewN | apply Kd.S_drew)); exact HO_5.out) hb)
                  have n2_ := Aside0.mk (Kd.R_below (by (with_reducible repeat (first | apply Kd.R_alloc | apply Kd.R_drewN | apply Kd.R_drew)); exact HO_7.out) hb)
                  have n3_ := Aside0.mk (zbb BK336.out hb)
                  have n4_ := Aside0.mk (below_step (zw1 HB.out GE336.out) hb)
                  clear HO_3
                  clear HO_5
                  clear HO_7
                  clear BK336
                  clear HB
                  have HO_3 := n0_
                  have HO_5 := n1_
                  have HO_7 := n2_
                  have BK336 := n3_
                  have HB := n4_
                  clear n0_ n1_ n2_ n3_ n4_
                  (try clear hb)
                  (try clear hb2)
                  (try clear hk)
                  (try clear hi)
                  refine hK.out _ _ ⟨HS0_, HS1_, HS2_, HS3_, HS4_⟩ (fun hHeld => ?_)
                  clear hK K
                  refine norm_ (a' := ?_) ?_ ?_
                  rotate_left
                  ·show Act.put _ (some 95) _ = _
                   simp only [Act.put, List.setIfInBounds_toArray, List.set_cons_zero, List.set_cons_succ, i64_w, i32_w]
                   rfl
                  refine zq 10 (some 85) HT_ ?_; refine zq 11 (some 96) HT_ ?_; refine zq 12 (some 97) HT_ ?_; refine zq 13 (some 98) HT_ ?_
                  refine one_ (i := 14) (N := some 11) cellarlaw9_MemMoves.b10 rfl rfl (one_of HT_.out (by kernel_rfl)) (by decide) (fun K hK => ?_)
                  refine box_step ?hg (N := 11) ?hd (cs := #[.bool false, .int .i64 0, .int .i64 0, .int .i64 0]) (t := 62) ?hr ?_; (case hd => rfl); (case hg => rfl); (case hr => first | (go_simp; done) | (go_simp; rfl))
                  intro gb363 hg w53 hbox hb
                  have HS0_ := (hb.cell (World.block_lt_of_cell? _ _ (hHeld.1))).trans (hHeld.1)
                  have HS1_ := (hb.cell (World.block_lt_of_cell? _ _ (hHeld.2.1))).trans (hHeld.2.1)
                  have HS2_ := (hb.cell (World.block_lt_of_cell? _ _ (hHeld.2.2.1))).trans (hHeld.2.2.1)
                  have HS3_ := (hb.cell (World.block_lt_of_cell? _ _ (hHeld.2.2.2.1))).trans (hHeld.2.2.2.1)
                  have HS4_ := (hb.cell (World.block_lt_of_cell? _ _ (hHeld.2.2.2.2))).trans (hHeld.2.2.2.2)
                  have n0_ := Aside0.mk (Kd.R_below (by (with_reducible repeat (first | apply Kd.R_alloc | apply Kd.R_drewN | apply Kd.R_drew)); exact HO_3.out) hb)
                  have n1_ := Aside0.mk (Kd.S_below (by (with_reducible repeat (first | apply Kd.S_alloc | apply Kd.S_drewN | apply Kd.S_drew)); exact HO_5.out) hb)
                  have n2_ := Aside0.mk (Kd.R_below (Kd.R_elderB (by (with_reducible repeat (first | apply Kd.R_alloc | apply Kd.R_drewN | apply Kd.R_drew)); exact HO_7.out) gb363 (Nat.le_of_eq hg.symm)) hb)
                  have n3_ := Aside0.mk (zbb BK336.out hb)
                  have n4_ := Aside0.mk (below_step (zw1 HB.out GE336.out) hb)
                  have n5_ := Aside0.mk (hbox)
                  have n6_ := Aside0.mk (zg hg (below_size (zw1 HB.out GE336.out)))
                  have n7_ := Aside0.mk (zg hg (below_size (zw1 HB.out GE336.out)))
                  have n8_ := Aside0.mk (zlt hg BK336.out)
                  have n9_ := Aside0.mk (zgt hg BK336.out)
                  clear HO_3
                  clear HO_5
                  clear HO_7
                  clear BK336
                  clear HB
                  have HO_3 := n0_
                  have HO_5 := n1_
                  have HO_7 := n2_
                  have BK336 := n3_
                  have HB := n4_
                  have BK363 := n5_
                  have GW363 := n6_
                  have GE363 := n7_
                  have NB336_363 := n8_
                  have NB363_336 := n9_
                  clear n0_ n1_ n2_ n3_ n4_ n5_ n6_ n7_ n8_ n9_
                  clear hb hbox hg
                  refine hK.out _ _ ⟨HS0_, HS1_, HS2_, HS3_, HS4_⟩ (fun hHeld => ?_)
                  clear hK K
                  refine norm_ (a' := ?_) ?_ ?_
                  rotate_left
                  ·show Act.put _ (some 11) _ = _
                   simp only [Act.put, List.setIfInBounds_toArray, List.set_cons_zero, List.set_cons_succ, i64_w, i32_w]
                   rfl
                  exact norm_ (by simp only [putAll, Act.put, List.setIfInBounds_toArray, List.set_cons_zero, List.set_cons_succ]) (hCont (gb363) _ ⟨hHeld, (by (with_reducible repeat (first | apply Kd.R_alloc | apply Kd.R_drewN | apply Kd.R_drew)); exact HO_3.out), (by (with_reducible repeat (first | apply Kd.S_alloc | apply Kd.S_drewN | apply Kd.S_drew)); exact HO_5.out), (by (with_reducible repeat (first | apply Kd.R_alloc | apply Kd.R_drewN | apply Kd.R_drew)); exact Kd.R_mono HO_7.out (fun _ hk => hk.2)), (zb BK336.out), (zb BK363.out), GW363.out, GE363.out, NB336_363.out, NB363_336.out, (zw2 HB.out GE336.out GE363.out)⟩)
                 ·skip
                  refine box_step ?hg (N := 11) ?hd (cs := #[.bool false, .int .i64 0, .int .i64 0, .int .i64 0]) (t := 62) ?hr ?_; (case hd => rfl); (case hg => rfl); (case hr => first | (go_simp; done) | (go_simp; rfl))
                  intro gb363 hg w52 hbox hb
                  have HS0_ := (hb.cell (World.block_lt_of_cell? _ _ (hHeld.1))).trans (hHeld.1)
                  have HS1_ := (hb.cell (World.block_lt_of_cell? _ _ (hHeld.2.1))).trans (hHeld.2.1)
                  have HS2_ := (hb.cell (World.block_lt_of_cell? _ _ (hHeld.2.2.1))).trans (hHeld.2.2.1)
                  have HS3_ := (hb.cell (World.block_lt_of_cell? _ _ (hHeld.2.2.2.1))).trans (hHeld.2.2.2.1)
                  have HS4_ := (hb.cell (World.block_lt_of_cell? _ _ (hHeld.2.2.2.2))).trans (hHeld.2.2.2.2)
                  have n0_ := Aside0.mk (Kd.R_below (by (with_reducible repeat (first | apply Kd.R_alloc | apply Kd.R_drewN | apply Kd.R_drew)); exact HO_3.out) hb)
                  have n1_ := Aside0.mk (Kd.S_below (by (with_reducible repeat (first | apply Kd.S_alloc | apply Kd.S_drewN | apply Kd.S_drew)); exact HO_5.out) hb)
                  have n2_ := Aside0.mk (Kd.R_below (Kd.R_elderB (by (with_reducible repeat (first | apply Kd.R_alloc | apply Kd.R_drewN | apply Kd.R_drew)); exact HO_7.out) gb363 (Nat.le_of_eq hg.symm)) hb)
                  have n3_ := Aside0.mk (zbb BK336.out hb)
                  have n4_ := Aside0.mk (below_step (zw1 HB.out GE336.out) hb)
                  have n5_ := Aside0.mk (hbox)
                  have n6_ := Aside0.mk (zg hg (below_size (zw1 HB.out GE336.out)))
                  have n7_ := Aside0.mk (zg hg (below_size (zw1 HB.out GE336.out)))
                  have n8_ := Aside0.mk (zlt hg BK336.out)
                  have n9_ := Aside0.mk (zgt hg BK336.out)
                  clear HO_3
                  clear HO_5
                  clear HO_7
                  clear BK336
                  clear HB
                  have HO_3 := n0_
                  have HO_5 := n1_
                  have HO_7 := n2_
                  have BK336 := n3_
                  have HB := n4_
                  have BK363 := n5_
                  have GW363 := n6_
                  have GE363 := n7_
                  have NB336_363 := n8_
                  have NB363_336 := n9_
                  clear n0_ n1_ n2_ n3_ n4_ n5_ n6_ n7_ n8_ n9_
                  clear hb hbox hg
                  refine hK.out _ _ ⟨HS0_, HS1_, HS2_, HS3_, HS4_⟩ (fun hHeld => ?_)
                  clear hK K
                  refine norm_ (a' := ?_) ?_ ?_
                  rotate_left
                  ·show Act.put _ (some 11) _ = _
                   simp only [Act.put, List.setIfInBounds_toArray, List.set_cons_zero, List.set_cons_succ, i64_w, i32_w]
                   rfl
                  refine one_ (i := 9) (N := some 95) cellarlaw9_MemMoves.b17 rfl rfl (one_of HT_.out (by kernel_rfl)) (by decide) (fun K hK => ?_)
                  refine goes_ Try.func44 (by kernel_rfl) rfl #[.slice Ao30 t345.length co30, .agg #[.bool ((rd_T62 t350 x8_3).f0), .int .i64 ((rd_T62 t350 x8_3).f1), .int .i64 ((rd_T62 t350 x8_3).f2), .int .i64 ((rd_T62 t350 x8_3).f3)], .int .i64 (rd y341 x10_5)] (by rfl) rfl rfl (by (try simp only [List.map_toArray, List.map_cons, List.map_nil]); first | done | rfl | (simp only [List.length_drop, List.length_take]; rfl)) ?_
                  with_reducible refine (mem_Move.calls kj38 _ _ t345 ((rd_T62 t350 x8_3).f0) ((rd_T62 t350 x8_3).f1) ((rd_T62 t350 x8_3).f2) ((rd_T62 t350 x8_3).f3) (rd y341 x10_5) t357 t358 t359 t360 t361 t362 _ ?side1 ?side2 A48.out).mono ?_
                  (case side1 => repeat (first | exact (Kd.S_reads' HO_5.out).2.2 | (with_reducible refine Kd.C_alloc ?_ _) | (with_reducible refine Kd.C_drewN ?_ _) | (with_reducible refine Kd.C_drew ?_)))
                  (case side2 => exact (Kd.S_reads' HO_5.out).2.1)
                  rintro e w53 ⟨rfl, hb⟩
                  have HS0_ := (hb.cell (World.block_lt_of_cell? _ _ (hHeld.1))).trans (hHeld.1)
                  have HS1_ := (hb.cell (World.block_lt_of_cell? _ _ (hHeld.2.1))).trans (hHeld.2.1)
                  have HS2_ := (hb.cell (World.block_lt_of_cell? _ _ (hHeld.2.2.1))).trans (hHeld.2.2.1)
                  have HS3_ := (hb.cell (World.block_lt_of_cell? _ _ (hHeld.2.2.2.1))).trans (hHeld.2.2.2.1)
                  have HS4_ := (hb.cell (World.block_lt_of_cell? _ _ (hHeld.2.2.2.2))).trans (hHeld.2.2.2.2)
                  refine ⟨_, rfl, ?_⟩
                  have n0_ := Aside0.mk (Kd.R_below (by (with_reducible repeat (first | apply Kd.R_alloc | apply Kd.R_drewN | apply Kd.R_drew)); exact HO_3.out) hb)
                  have n1_ := Aside0.mk (Kd.S_below (by (with_reducible repeat (first | apply Kd.S_alloc | apply Kd.S_drewN | apply Kd.S_drew)); exact HO_5.out) hb)
                  have n2_ := Aside0.mk (Kd.R_below (by (with_reducible repeat (first | apply Kd.R_alloc | apply Kd.R_drewN | apply Kd.R_drew)); exact HO_7.out) hb)
                  have n3_ := Aside0.mk (zbb BK336.out hb)
                  have n4_ := Aside0.mk (zbb BK363.out hb)
                  have n5_ := Aside0.mk (below_step (zw2 HB.out GE336.out GE363.out) hb)
                  clear HO_3
                  clear HO_5
                  clear HO_7
                  clear BK336
                  clear BK363
                  clear HB
                  have HO_3 := n0_
                  have HO_5 := n1_
                  have HO_7 := n2_
                  have BK336 := n3_
                  have BK363 := n4_
                  have HB := n5_
                  clear n0_ n1_ n2_ n3_ n4_ n5_
                  (try clear hb)
                  (try clear hb2)
                  (try clear hk)
                  (try clear hi)
                  refine hK.out _ _ ⟨HS0_, HS1_, HS2_, HS3_, HS4_⟩ (fun hHeld => ?_)
                  clear hK K
                  refine norm_ (a' := ?_) ?_ ?_
                  rotate_left
                  ·show Act.put _ (some 95) _ = _
                   simp only [Act.put, List.setIfInBounds_toArray, List.set_cons_zero, List.set_cons_succ, i64_w, i32_w]
                   rfl
                  refine zq 10 (some 85) HT_ ?_; refine zq 11 (some 96) HT_ ?_; refine zq 12 (some 97) HT_ ?_; refine zq 13 (some 98) HT_ ?_
                  exact norm_ (by simp only [putAll, Act.put, List.setIfInBounds_toArray, List.set_cons_zero, List.set_cons_succ]) (hCont (gb363) _ ⟨hHeld, (by (with_reducible repeat (first | apply Kd.R_alloc | apply Kd.R_drewN | apply Kd.R_drew)); exact HO_3.out), (by (with_reducible repeat (first | apply Kd.S_alloc | apply Kd.S_drewN | apply Kd.S_drew)); exact HO_5.out), (by (with_reducible repeat (first | apply Kd.R_alloc | apply Kd.R_drewN | apply Kd.R_drew)); exact Kd.R_mono HO_7.out (fun _ hk => hk.2)), (zb BK336.out), (zb BK363.out), GW363.out, GE363.out, NB336_363.out, NB363_336.out, (zw2 HB.out GE336.out GE363.out)⟩)
                rintro gb363 w54 ⟨hS_, h0_, h1_, h2_, h3_, h4_, h5_, h6_, h7_, h8_, h9_⟩
                have n0_ : Aside0 (Kd.R (Kd.int .i64) 3 w54 w.heap.size (fun _ => True) (.slice (some ad356) y341.length co51) y341) := ⟨h0_⟩
                have n1_ : Aside0 (Kd.S k76 76 w54 w.heap.size (fun _ => True) (.slice Ao30 t345.length co30) t345) := ⟨h1_⟩
                have n2_ : Aside0 (Kd.R k62 62 w54 w.heap.size (fun k_ => k_ ≠ gb363) (.slice (some ad355) t350.length co34) t350) := ⟨h2_⟩
                have n3_ : Aside0 (w54.heap[gb336]? = some (.cells #[.slice (some ad344) l0_0.length c0_0, .slice A0_1 l0_1.length c0_1, .slice A0_2 l0_2.length c0_2, .slice A0_3 l0_3.length c0_3] 54 (0, 0))) := ⟨h3_⟩
                have n4_ : Aside0 (w54.heap[gb363]? = some (.cells #[.bool false, .int .i64 0, .int .i64 0, .int .i64 0] 62 (0, 0))) := ⟨h4_⟩
                have n5_ : Aside0 (w.heap.size ≤ gb363) := ⟨h5_⟩
                have n6_ : Aside0 (w.heap.size ≤ gb363) := ⟨h6_⟩
                have n7_ : Aside0 (gb336 ≠ gb363) := ⟨h7_⟩
                have n8_ : Aside0 (gb363 ≠ gb336) := ⟨h8_⟩
                have n9_ : Aside0 (Below w.heap.size w w54) := ⟨h9_⟩
                clear HO_3
                clear HO_5
                clear HO_7
                clear BK336
                clear HB
                clear h0_ h1_ h2_ h3_ h4_ h5_ h6_ h7_ h8_ h9_
                have HO_3 := n0_
                have HO_5 := n1_
                have HO_7 := n2_
                have BK336 := n3_
                have BK363 := n4_
                have GW363 := n5_
                have GE363 := n6_
                have NB336_363 := n7_
                have NB363_336 := n8_
                have HB := n9_
                clear n0_ n1_ n2_ n3_ n4_ n5_ n6_ n7_ n8_ n9_
                have hHeld : w54.cell? (ad355.add ((x8_3).toNat * 4)) = some (.bool ((rd_T62 t350 x8_3).f0)) ∧ w54.cell? ⟨(ad355.add ((x8_3).toNat * 4)).block, (ad355.add ((x8_3).toNat * 4)).off + 1, none⟩ = some (.int .i64 ((rd_T62 t350 x8_3).f1)) ∧ w54.cell? ⟨(ad355.add ((x8_3).toNat * 4)).block, (ad355.add ((x8_3).toNat * 4)).off + 2, none⟩ = some (.int .i64 ((rd_T62 t350 x8_3).f2)) ∧ w54.cell? ⟨(ad355.add ((x8_3).toNat * 4)).block, (ad355.add ((x8_3).toNat * 4)).off + 3, none⟩ = some (.int .i64 ((rd_T62 t350 x8_3).f3)) ∧ w54.cell? (ad356.add (x10_5).toNat) = some (.int .i64 (rd y341 x10_5)) := hS_
                refine norm_ (a' := ?_) ?_ ?_
                rotate_left
                ·simp only [putAll, Act.put, List.setIfInBounds_toArray, List.set_cons_zero, List.set_cons_succ]
                 rfl
                refine one_ (i := 15) (N := none) cellarlaw9_MemMoves.b21 rfl rfl (one_of HT_.out (by kernel_rfl)) (by decide) (fun K hK => ?_)
                have hs55 : w54.cell? ⟨gb363, 0, none⟩ = some (.bool false) := (blk_cell BK363.out 0).trans rfl
                have hfs55 := blk_frozen BK363.out 0
                have hns55_0 := NB336_363.out
                have hms55_0 := NB363_336.out
                have hs56 : w54.cell? ⟨gb363, 1, none⟩ = some (.int .i64 0) := (blk_cell BK363.out 1).trans rfl
                have hfs56 := blk_frozen BK363.out 1
                have hns56_0 := NB336_363.out
                have hms56_0 := NB363_336.out
                have hs57 : w54.cell? ⟨gb363, 2, none⟩ = some (.int .i64 0) := (blk_cell BK363.out 2).trans rfl
                have hfs57 := blk_frozen BK363.out 2
                have hns57_0 := NB336_363.out
                have hms57_0 := NB363_336.out
                have hs58 : w54.cell? ⟨gb363, 3, none⟩ = some (.int .i64 0) := (blk_cell BK363.out 3).trans rfl
                have hfs58 := blk_frozen BK363.out 3
                have hns58_0 := NB336_363.out
                have hms58_0 := NB363_336.out
                refine skip_ (w1 := ?_) (by rfl) rfl ?_ ?_
                rotate_left
                ·go_simp
                 rfl
                refine hK.out _ _ ⟨((cell_far (p := ⟨gb363, _, none⟩) (by first | exact Kd.own_blk (Kd.R_away HO_7.out (fun _ hk => hk)) | (rw [add_block]; exact Kd.own_blk (Kd.R_away HO_7.out (fun _ hk => hk))) | (show (Addr.add _ _).block ≠ _; rw [add_block]; exact Kd.own_blk (Kd.R_away HO_7.out (fun _ hk => hk))) | (dsimp only; exact Kd.own_blk (Kd.R_away HO_7.out (fun _ hk => hk)))) _).trans (((cell_far (p := ⟨gb363, _, none⟩) (by first | exact Kd.own_blk (Kd.R_away HO_7.out (fun _ hk => hk)) | (rw [add_block]; exact Kd.own_blk (Kd.R_away HO_7.out (fun _ hk => hk))) | (show (Addr.add _ _).block ≠ _; rw [add_block]; exact Kd.own_blk (Kd.R_away HO_7.out (fun _ hk => hk))) | (dsimp only; exact Kd.own_blk (Kd.R_away HO_7.out (fun _ hk => hk)))) _).trans (((cell_far (p := ⟨gb363, _, none⟩) (by first | exact Kd.own_blk (Kd.R_away HO_7.out (fun _ hk => hk)) | (rw [add_block]; exact Kd.own_blk (Kd.R_away HO_7.out (fun _ hk => hk))) | (show (Addr.add _ _).block ≠ _; rw [add_block]; exact Kd.own_blk (Kd.R_away HO_7.out (fun _ hk => hk))) | (dsimp only; exact Kd.own_blk (Kd.R_away HO_7.out (fun _ hk => hk)))) _).trans (((cell_far (p := ⟨gb363, _, none⟩) (by first | exact Kd.own_blk (Kd.R_away HO_7.out (fun _ hk => hk)) | (rw [add_block]; exact Kd.own_blk (Kd.R_away HO_7.out (fun _ hk => hk))) | (show (Addr.add _ _).block ≠ _; rw [add_block]; exact Kd.own_blk (Kd.R_away HO_7.out (fun _ hk => hk))) | (dsimp only; exact Kd.own_blk (Kd.R_away HO_7.out (fun _ hk => hk)))) _).trans (hHeld.1)))))))), ((cell_far (p := ⟨gb363, _, none⟩) (by first | exact Kd.own_blk (Kd.R_away HO_7.out (fun _ hk => hk)) | (rw [add_block]; exact Kd.own_blk (Kd.R_away HO_7.out (fun _ hk => hk))) | (show (Addr.add _ _).block ≠ _; rw [add_block]; exact Kd.own_blk (Kd.R_away HO_7.out (fun _ hk => hk))) | (dsimp only; exact Kd.own_blk (Kd.R_away HO_7.out (fun _ hk => hk)))) _).trans (((cell_far (p := ⟨gb363, _, none⟩) (by first | exact Kd.own_blk (Kd.R_away HO_7.out (fun _ hk => hk)) | (rw [add_block]; exact Kd.own_blk (Kd.R_away HO_7.out (fun _ hk => hk))) | (show (Addr.add _ _).block ≠ _; rw [add_block]; exact Kd.own_blk (Kd.R_away HO_7.out (fun _ hk => hk))) | (dsimp only; exact Kd.own_blk (Kd.R_away HO_7.out (fun _ hk => hk)))) _).trans (((cell_far (p := ⟨gb363, _, none⟩) (by first | exact Kd.own_blk (Kd.R_away HO_7.out (fun _ hk => hk)) | (rw [add_block]; exact Kd.own_blk (Kd.R_away HO_7.out (fun _ hk => hk))) | (show (Addr.add _ _).block ≠ _; rw [add_block]; exact Kd.own_blk (Kd.R_away HO_7.out (fun _ hk => hk))) | (dsimp only; exact Kd.own_blk (Kd.R_away HO_7.out (fun _ hk => hk)))) _).trans (((cell_far (p := ⟨gb363, _, none⟩) (by first | exact Kd.own_blk (Kd.R_away HO_7.out (fun _ hk => hk)) | (rw [add_block]; exact Kd.own_blk (Kd.R_away HO_7.out (fun _ hk => hk))) | (show (Addr.add _ _).block ≠ _; rw [add_block]; exact Kd.own_blk (Kd.R_away HO_7.out (fun _ hk => hk))) | (dsimp only; exact Kd.own_blk (Kd.R_away HO_7.out (fun _ hk => hk)))) _).trans (hHeld.2.1)))))))), ((cell_far (p := ⟨gb363, _, none⟩) (by first | exact Kd.own_blk (Kd.R_away HO_7.out (fun _ hk => hk)) | (rw [add_block]; exact Kd.own_blk (Kd.R_away HO_7.out (fun _ hk => hk))) | (show (Addr.add _ _).block ≠ _; rw [add_block]; exact Kd.own_blk (Kd.R_away HO_7.out (fun _ hk => hk))) | (dsimp only; exact Kd.own_blk (Kd.R_away HO_7.out (fun _ hk => hk)))) _).trans (((cell_far (p := ⟨gb363, _, none⟩) (by first | exact Kd.own_blk (Kd.R_away HO_7.out (fun _ hk => hk)) | (rw [add_block]; exact Kd.own_blk (Kd.R_away HO_7.out (fun _ hk => hk))) | (show (Addr.add _ _).block ≠ _; rw [add_block]; exact Kd.own_blk (Kd.R_away HO_7.out (fun _ hk => hk))) | (dsimp only; exact Kd.own_blk (Kd.R_away HO_7.out (fun _ hk => hk)))) _).trans (((cell_far (p := ⟨gb363, _, none⟩) (by first | exact Kd.own_blk (Kd.R_away HO_7.out (fun _ hk => hk)) | (rw [add_block]; exact Kd.own_blk (Kd.R_away HO_7.out (fun _ hk => hk))) | (show (Addr.add _ _).block ≠ _; rw [add_block]; exact Kd.own_blk (Kd.R_away HO_7.out (fun _ hk => hk))) | (dsimp only; exact Kd.own_blk (Kd.R_away HO_7.out (fun _ hk => hk)))) _).trans (((cell_far (p := ⟨gb363, _, none⟩) (by first | exact Kd.own_blk (Kd.R_away HO_7.out (fun _ hk => hk)) | (rw [add_block]; exact Kd.own_blk (Kd.R_away HO_7.out (fun _ hk => hk))) | (show (Addr.add _ _).block ≠ _; rw [add_block]; exact Kd.own_blk (Kd.R_away HO_7.out (fun _ hk => hk))) | (dsimp only; exact Kd.own_blk (Kd.R_away HO_7.out (fun _ hk => hk)))) _).trans (hHeld.2.2.1)))))))), ((cell_far (p := ⟨gb363, _, none⟩) (by first | exact Kd.own_blk (Kd.R_away HO_7.out (fun _ hk => hk)) | (rw [add_block]; exact Kd.own_blk (Kd.R_away HO_7.out (fun _ hk => hk))) | (show (Addr.add _ _).block ≠ _; rw [add_block]; exact Kd.own_blk (Kd.R_away HO_7.out (fun _ hk => hk))) | (dsimp only; exact Kd.own_blk (Kd.R_away HO_7.out (fun _ hk => hk)))) _).trans (((cell_far (p := ⟨gb363, _, none⟩) (by first | exact Kd.own_blk (Kd.R_away HO_7.out (fun _ hk => hk)) | (rw [add_block]; exact Kd.own_blk (Kd.R_away HO_7.out (fun _ hk => hk))) | (show (Addr.add _ _).block ≠ _; rw [add_block]; exact Kd.own_blk (Kd.R_away HO_7.out (fun _ hk => hk))) | (dsimp only; exact Kd.own_blk (Kd.R_away HO_7.out (fun _ hk => hk)))) _).trans (((cell_far (p := ⟨gb363, _, none⟩) (by first | exact Kd.own_blk (Kd.R_away HO_7.out (fun _ hk => hk)) | (rw [add_block]; exact Kd.own_blk (Kd.R_away HO_7.out (fun _ hk => hk))) | (show (Addr.add _ _).block ≠ _; rw [add_block]; exact Kd.own_blk (Kd.R_away HO_7.out (fun _ hk => hk))) | (dsimp only; exact Kd.own_blk (Kd.R_away HO_7.out (fun _ hk => hk)))) _).trans (((cell_far (p := ⟨gb363, _, none⟩) (by first | exact Kd.own_blk (Kd.R_away HO_7.out (fun _ hk => hk)) | (rw [add_block]; exact Kd.own_blk (Kd.R_away HO_7.out (fun _ hk => hk))) | (show (Addr.add _ _).block ≠ _; rw [add_block]; exact Kd.own_blk (Kd.R_away HO_7.out (fun _ hk => hk))) | (dsimp only; exact Kd.own_blk (Kd.R_away HO_7.out (fun _ hk => hk)))) _).trans (hHeld.2.2.2.1)))))))), ((cell_far (p := ⟨gb363, _, none⟩) (by first | exact Kd.own_blk (Kd.R_ne HO_3.out BK363.out (by decide)) | (rw [add_block]; exact Kd.own_blk (Kd.R_ne HO_3.out BK363.out (by decide))) | (show (Addr.add _ _).block ≠ _; rw [add_block]; exact Kd.own_blk (Kd.R_ne HO_3.out BK363.out (by decide))) | (dsimp only; exact Kd.own_blk (Kd.R_ne HO_3.out BK363.out (by decide)))) _).trans (((cell_far (p := ⟨gb363, _, none⟩) (by first | exact Kd.own_blk (Kd.R_ne HO_3.out BK363.out (by decide)) | (rw [add_block]; exact Kd.own_blk (Kd.R_ne HO_3.out BK363.out (by decide))) | (show (Addr.add _ _).block ≠ _; rw [add_block]; exact Kd.own_blk (Kd.R_ne HO_3.out BK363.out (by decide))) | (dsimp only; exact Kd.own_blk (Kd.R_ne HO_3.out BK363.out (by decide)))) _).trans (((cell_far (p := ⟨gb363, _, none⟩) (by first | exact Kd.own_blk (Kd.R_ne HO_3.out BK363.out (by decide)) | (rw [add_block]; exact Kd.own_blk (Kd.R_ne HO_3.out BK363.out (by decide))) | (show (Addr.add _ _).block ≠ _; rw [add_block]; exact Kd.own_blk (Kd.R_ne HO_3.out BK363.out (by decide))) | (dsimp only; exact Kd.own_blk (Kd.R_ne HO_3.out BK363.out (by decide)))) _).trans (((cell_far (p := ⟨gb363, _, none⟩) (by first | exact Kd.own_blk (Kd.R_ne HO_3.out BK363.out (by decide)) | (rw [add_block]; exact Kd.own_blk (Kd.R_ne HO_3.out BK363.out (by decide))) | (show (Addr.add _ _).block ≠ _; rw [add_block]; exact Kd.own_blk (Kd.R_ne HO_3.out BK363.out (by decide))) | (dsimp only; exact Kd.own_blk (Kd.R_ne HO_3.out BK363.out (by decide)))) _).trans (hHeld.2.2.2.2))))))))⟩ (fun hHeld => ?_)
                clear hK K
                refine zq 16 (some 12) HT_ ?_; refine zq 17 (some 13) HT_ ?_
                refine done_ (done_of HT_.out (by kernel_rfl)) ?_
                go_upto_region 19 with (first | ((with_reducible refine gate_dst (N := 15) rfl ?_); refine zbox (N := 15) (cs := #[.bool false, .int .i64 0, .int .i64 0, .int .i64 0]) (t := 62) ?_; intro gb364 hg w59 hbox hb; have n0_ := Aside0.mk (Kd.R_below (by (with_reducible repeat (first | apply Kd.R_alloc | apply Kd.R_drewN | apply Kd.R_drew)); exact (Kd.R_mono (Kd.R_far (p := ⟨gb363, 3, none⟩) (Kd.R_far (p := ⟨gb363, 2, none⟩) (Kd.R_far (p := ⟨gb363, 1, none⟩) (Kd.R_far (p := ⟨gb363, 0, none⟩) (Kd.R_types HO_3.out BK363.out (by decide)) (fun _ hk => hk.2) (.bool t357)) (fun _ hk => hk.2) (.int .i64 t358)) (fun _ hk => hk.2) (.int .i64 t359)) (fun _ hk => hk.2) (.int .i64 t360)) (fun _ h_ => h_.1))) hb); have n1_ := Aside0.mk (Kd.S_below (by (with_reducible repeat (first | apply Kd.S_alloc | apply Kd.S_drewN | apply Kd.S_drew)); exact (Kd.S_mono (Kd.S_far (p := ⟨gb363, 3, none⟩) (Kd.S_far (p := ⟨gb363, 2, none⟩) (Kd.S_far (p := ⟨gb363, 1, none⟩) (Kd.S_far (p := ⟨gb363, 0, none⟩) (Kd.S_types HO_5.out BK363.out (by decide)) (fun _ hk => hk.2) (.bool t357)) (fun _ hk => hk.2) (.int .i64 t358)) (fun _ hk => hk.2) (.int .i64 t359)) (fun _ hk => hk.2) (.int .i64 t360)) (fun _ h_ => h_.1))) hb); have n2_ := Aside0.mk (Kd.R_below (Kd.R_elderB (by (with_reducible repeat (first | apply Kd.R_alloc | apply Kd.R_drewN | apply Kd.R_drew)); exact (Kd.R_mono (Kd.R_far (p := ⟨gb363, 3, none⟩) (Kd.R_far (p := ⟨gb363, 2, none⟩) (Kd.R_far (p := ⟨gb363, 1, none⟩) (Kd.R_far (p := ⟨gb363, 0, none⟩) (Kd.R_mono HO_7.out (fun k_ hk => (⟨hk, hk⟩ : _ ∧ k_ ≠ gb363))) (fun _ hk => hk.2) (.bool t357)) (fun _ hk => hk.2) (.int .i64 t358)) (fun _ hk => hk.2) (.int .i64 t359)) (fun _ hk => hk.2) (.int .i64 t360)) (fun _ h_ => h_.1))) gb364 (Nat.le_of_eq hg.symm)) hb); have n3_ := Aside0.mk (blk_below (g := gb336) (o := .cells #[.slice (some ad344) l0_0.length c0_0, .slice A0_1 l0_1.length c0_1, .slice A0_2 l0_2.length c0_2, .slice A0_3 l0_3.length c0_3] 54 (0, 0)) (zf1 BK336.out NB336_363.out) hb); have n4_ := Aside0.mk (blk_below (g := gb363) (o := .cells #[.bool t357, .int .i64 t358, .int .i64 t359, .int .i64 t360] 62 (0, 0)) (by (with_reducible repeat (first | refine blk_drewN ?_ _ | refine blk_drew ?_ | refine blk_alloc ?_ _)); refine blk_put (cs := #[.bool t357, .int .i64 t358, .int .i64 t359, .int .i64 0]) ?_ 3 _ rfl; (with_reducible repeat (first | refine blk_drewN ?_ _ | refine blk_drew ?_ | refine blk_alloc ?_ _)); refine blk_put (cs := #[.bool t357, .int .i64 t358, .int .i64 0, .int .i64 0]) ?_ 2 _ rfl; (with_reducible repeat (first | refine blk_drewN ?_ _ | refine blk_drew ?_ | refine blk_alloc ?_ _)); refine blk_put (cs := #[.bool t357, .int .i64 0, .int .i64 0, .int .i64 0]) ?_ 1 _ rfl; (with_reducible repeat (first | refine blk_drewN ?_ _ | refine blk_drew ?_ | refine blk_alloc ?_ _)); refine blk_put (cs := #[.bool false, .int .i64 0, .int .i64 0, .int .i64 0]) ?_ 0 _ rfl; (with_reducible repeat (first | refine blk_drewN ?_ _ | refine blk_drew ?_ | refine blk_alloc ?_ _)); exact BK363.out) hb); have n5_ := Aside0.mk (below_step (zw2 HB.out GE336.out GE363.out) hb); have BK364 := Aside0.mk (hbox); have GW364 := Aside0.mk (zg hg (below_size (zw2 HB.out GE336.out GE363.out))); have GE364 := GW364; have NB336_364 := Aside0.mk ((by rw [hg]; exact Nat.ne_of_lt (blk_lt (g := gb336) (o := .cells #[.slice (some ad344) l0_0.length c0_0, .slice A0_1 l0_1.length c0_1, .slice A0_2 l0_2.length c0_2, .slice A0_3 l0_3.length c0_3] 54 (0, 0)) (zf1 BK336.out NB336_363.out)) : gb336 ≠ gb364)); have NB364_336 := Aside0.mk ((by rw [hg]; exact Nat.ne_of_gt (blk_lt (g := gb336) (o := .cells #[.slice (some ad344) l0_0.length c0_0, .slice A0_1 l0_1.length c0_1, .slice A0_2 l0_2.length c0_2, .slice A0_3 l0_3.length c0_3] 54 (0, 0)) (zf1 BK336.out NB336_363.out)) : gb364 ≠ gb336)); have NB363_364 := Aside0.mk ((by rw [hg]; exact Nat.ne_of_lt (blk_lt (g := gb363) (o := .cells #[.bool t357, .int .i64 t358, .int .i64 t359, .int .i64 t360] 62 (0, 0)) (by (with_reducible repeat (first | refine blk_drewN ?_ _ | refine blk_drew ?_ | refine blk_alloc ?_ _)); refine blk_put (cs := #[.bool t357, .int .i64 t358, .int .i64 t359, .int .i64 0]) ?_ 3 _ rfl; (with_reducible repeat (first | refine blk_drewN ?_ _ | refine blk_drew ?_ | refine blk_alloc ?_ _)); refine blk_put (cs := #[.bool t357, .int .i64 t358, .int .i64 0, .int .i64 0]) ?_ 2 _ rfl; (with_reducible repeat (first | refine blk_drewN ?_ _ | refine blk_drew ?_ | refine blk_alloc ?_ _)); refine blk_put (cs := #[.bool t357, .int .i64 0, .int .i64 0, .int .i64 0]) ?_ 1 _ rfl; (with_reducible repeat (first | refine blk_drewN ?_ _ | refine blk_drew ?_ | refine blk_alloc ?_ _)); refine blk_put (cs := #[.bool false, .int .i64 0, .int .i64 0, .int .i64 0]) ?_ 0 _ rfl; (with_reducible repeat (first | refine blk_drewN ?_ _ | refine blk_drew ?_ | refine blk_alloc ?_ _)); exact BK363.out)) : gb363 ≠ gb364)); have NB364_363 := Aside0.mk ((by rw [hg]; exact Nat.ne_of_gt (blk_lt (g := gb363) (o := .cells #[.bool t357, .int .i64 t358, .int .i64 t359, .int .i64 t360] 62 (0, 0)) (by (with_reducible repeat (first | refine blk_drewN ?_ _ | refine blk_drew ?_ | refine blk_alloc ?_ _)); refine blk_put (cs := #[.bool t357, .int .i64 t358, .int .i64 t359, .int .i64 0]) ?_ 3 _ rfl; (with_reducible repeat (first | refine blk_drewN ?_ _ | refine blk_drew ?_ | refine blk_alloc ?_ _)); refine blk_put (cs := #[.bool t357, .int .i64 t358, .int .i64 0, .int .i64 0]) ?_ 2 _ rfl; (with_reducible repeat (first | refine blk_drewN ?_ _ | refine blk_drew ?_ | refine blk_alloc ?_ _)); refine blk_put (cs := #[.bool t357, .int .i64 0, .int .i64 0, .int .i64 0]) ?_ 1 _ rfl; (with_reducible repeat (first | refine blk_drewN ?_ _ | refine blk_drew ?_ | refine blk_alloc ?_ _)); refine blk_put (cs := #[.bool false, .int .i64 0, .int .i64 0, .int .i64 0]) ?_ 0 _ rfl; (with_reducible repeat (first | refine blk_drewN ?_ _ | refine blk_drew ?_ | refine blk_alloc ?_ _)); exact BK363.out)) : gb364 ≠ gb363)); clear HO_3 HO_5 HO_7 BK336 BK363 HB; have HO_3 := n0_; have HO_5 := n1_; have HO_7 := n2_; have BK336 := n3_; have BK363 := n4_; have HB := n5_; clear n0_ n1_ n2_ n3_ n4_ n5_; clear hb hbox hg; have hnb60 := NB364_336.out; have hnc60 := NB336_364.out; have hnb61 := NB364_363.out; have hnc61 := NB363_364.out; have hcz62_0 := zc BK364.out 0; have hcz62_1 := zc BK364.out 1; have hcz62_2 := zc BK364.out 2; have hcz62_3 := zc BK364.out 3; have hfz62_0 := blk_frozen BK364.out 0; have hfz62_1 := blk_frozen BK364.out 1; have hfz62_2 := blk_frozen BK364.out 2; have hfz62_3 := blk_frozen BK364.out 3))
                (try simp only [Act.put, List.setIfInBounds_toArray, List.set_cons_zero, List.set_cons_succ])
                go_cut [107] (fun v107 wc => ∃ (kq : Nat) (x107_48 : Bool), v107 = .bool x107_48 ∧ Aside0 (cellarlaw9_MemMoves.j6 kq y341 x4_1 t345 t349 t350 x8_3 x9_32 x10_5 t361 t362 1 0 x107_48 l0_0 l0_1 l0_2 l0_3 t357 t358 t359 t360 false 0 0 0 = some r) ∧ Aside0 (kq ≤ kj38) ∧ Aside0 (Kd.R (Kd.int .i64) 3 wc w.heap.size (fun _ => True) (.slice (some ad356) y341.length co51) y341) ∧ Aside0 (Kd.S k76 76 wc w.heap.size (fun _ => True) (.slice Ao30 t345.length co30) t345) ∧ Aside0 (Kd.R k62 62 wc w.heap.size (fun k_ => k_ ≠ gb363 ∧ k_ ≠ gb364) (.slice (some ad355) t350.length co34) t350) ∧ Aside0 (wc.heap[gb336]? = some (.cells #[(.slice (some ad344) l0_0.length c0_0), (.slice A0_1 l0_1.length c0_1), (.slice A0_2 l0_2.length c0_2), (.slice A0_3 l0_3.length c0_3)] 54 (0, 0))) ∧ Aside0 (wc.heap[gb363]? = some (.cells #[.bool t357, .int .i64 t358, .int .i64 t359, .int .i64 t360] 62 (0, 0))) ∧ Aside0 (wc.heap[gb364]? = some (.cells #[.bool false, .int .i64 0, .int .i64 0, .int .i64 0] 62 (0, 0))) ∧ Aside0 (Below w.heap.size w wc))
                case first =>
                 have H := HC49.out
                 clear HC49
                 by_cases c63 : x9_32 = true
                 rotate_left
                 ·replace c63 := Bool.eq_false_iff.mpr c63
                  subst c63
                  have H1 : (cellarlaw9_MemMoves.j6 kj38 y341 x4_1 t345 t349 t350 x8_3 false x10_5 t361 t362 1 0 false l0_0 l0_1 l0_2 l0_3 t357 t358 t359 t360 false 0 0 0) = some r := by rw [if_neg (show ¬ (false = true) by decide)] at H; exact H
                  clear H
                  have H := H1
                  clear H1
                  have H' := Aside0.mk H
                  clear H
                  go_wp2
                  go_meet
                  case rel => exact ⟨_, (false), (zr), H', ⟨by have := HK1.out; have := HJ14.out; have := HK3.out; have := HJ32.out; have := HK5.out; have := HJ38.out; first | omega | exact Nat.le_refl _⟩, ⟨by (with_reducible repeat (first | apply Kd.R_alloc | apply Kd.R_drewN | apply Kd.R_drew)); exact Kd.R_mono (Kd.R_far (p := ⟨gb364, 3, none⟩) (Kd.R_far (p := ⟨gb364, 2, none⟩) (Kd.R_far (p := ⟨gb364, 1, none⟩) (Kd.R_far (p := ⟨gb364, 0, none⟩) (Kd.R_types HO_3.out BK364.out (by decide)) (fun _ hk => hk.2) (.bool false)) (fun _ hk => hk.2) (.int .i64 0)) (fun _ hk => hk.2) (.int .i64 0)) (fun _ hk => hk.2) (.int .i64 0)) (fun _ hk => trivial)⟩, ⟨by (with_reducible repeat (first | apply Kd.S_alloc | apply Kd.S_drewN | apply Kd.S_drew)); exact Kd.S_mono (Kd.S_far (p := ⟨gb364, 3, none⟩) (Kd.S_far (p := ⟨gb364, 2, none⟩) (Kd.S_far (p := ⟨gb364, 1, none⟩) (Kd.S_far (p := ⟨gb364, 0, none⟩) (Kd.S_types HO_5.out BK364.out (by decide)) (fun _ hk => hk.2) (.bool false)) (fun _ hk => hk.2) (.int .i64 0)) (fun _ hk => hk.2) (.int .i64 0)) (fun _ hk => hk.2) (.int .i64 0)) (fun _ hk => trivial)⟩, ⟨by (with_reducible repeat (first | apply Kd.R_alloc | apply Kd.R_drewN | apply Kd.R_drew)); exact Kd.R_mono (Kd.R_far (p := ⟨gb364, 3, none⟩) (Kd.R_far (p := ⟨gb364, 2, none⟩) (Kd.R_far (p := ⟨gb364, 1, none⟩) (Kd.R_far (p := ⟨gb364, 0, none⟩) (Kd.R_mono HO_7.out (fun k_ hk => (⟨hk, hk.2⟩ : _ ∧ k_ ≠ gb364))) (fun _ hk => hk.2) (.bool false)) (fun _ hk => hk.2) (.int .i64 0)) (fun _ hk => hk.2) (.int .i64 0)) (fun _ hk => hk.2) (.int .i64 0)) (fun _ hk => ⟨hk.1.1, hk.1.2⟩)⟩, ⟨zf1 BK336.out NB336_364.out⟩, ⟨zf1 BK363.out NB363_364.out⟩, ⟨by (with_reducible repeat (first | refine blk_drewN ?_ _ | refine blk_drew ?_ | refine blk_alloc ?_ _)); refine blk_put (cs := #[.bool false, .int .i64 0, .int .i64 0, .int .i64 0]) ?_ 3 _ rfl; (with_reducible repeat (first | refine blk_drewN ?_ _ | refine blk_drew ?_ | refine blk_alloc ?_ _)); refine blk_put (cs := #[.bool false, .int .i64 0, .int .i64 0, .int .i64 0]) ?_ 2 _ rfl; (with_reducible repeat (first | refine blk_drewN ?_ _ | refine blk_drew ?_ | refine blk_alloc ?_ _)); refine blk_put (cs := #[.bool false, .int .i64 0, .int .i64 0, .int .i64 0]) ?_ 1 _ rfl; (with_reducible repeat (first | refine blk_drewN ?_ _ | refine blk_drew ?_ | refine blk_alloc ?_ _)); refine blk_put (cs := #[.bool false, .int .i64 0, .int .i64 0, .int .i64 0]) ?_ 0 _ rfl; (with_reducible repeat (first | refine blk_drewN ?_ _ | refine blk_drew ?_ | refine blk_alloc ?_ _)); exact BK364.out⟩, ⟨zw3 HB.out GE336.out GE363.out GE364.out⟩⟩
                 subst c63
                 have H1 : ((cellarref1_Number.f (rd y341 x10_5) 32).bind fun t366 => (cellarlaw9_MemMoves.j6 kj38 y341 x4_1 t345 t349 t350 x8_3 true x10_5 t361 t362 1 0 t366 l0_0 l0_1 l0_2 l0_3 t357 t358 t359 t360 false 0 0 0)) = some r := by rw [if_pos rfl] at H; exact H
                 clear H
                 have H := H1
                 clear H1
                 replace H := Option.bind_eq_some_iff.mp H
                 obtain ⟨t366, A640, H⟩ := H
                 replace H : (cellarlaw9_MemMoves.j6 kj38 y341 x4_1 t345 t349 t350 x8_3 true x10_5 t361 t362 1 0 t366 l0_0 l0_1 l0_2 l0_3 t357 t358 t359 t360 false 0 0 0) = some r := H
                 have A64 := Aside0.mk A640
                 clear A640
                 have H' := Aside0.mk H
                 clear H
                 have p365 : 0 ≤ (x10_5 : Int) := zdec
                 have q365 : x10_5 < (y341.length : Int) := zdec
                 obtain ⟨ad365, e365, hx365_0⟩ := Kd.at_int (Kd.R_reads' HO_3.out).2.2 x10_5 p365 q365
                 obtain rfl : ad356 = ad365 := (by injection e365)
                 have hn365_0 : ad356.block ≠ gb364 := Kd.own_blk (Kd.R_ne HO_3.out BK364.out (by decide))
                 have hn365_1 : ad356.block ≠ gb364 := Kd.own_blk (Kd.R_ne HO_3.out BK364.out (by decide))
                 have hn365_2 : ad356.block ≠ gb364 := Kd.own_blk (Kd.R_ne HO_3.out BK364.out (by decide))
                 have hn365_3 : ad356.block ≠ gb364 := Kd.own_blk (Kd.R_ne HO_3.out BK364.out (by decide))
                 replace hx365_0 := (cell_far (p := ⟨gb364, 0, none⟩) (zy hn365_0) (.bool false)).trans hx365_0
                 replace hx365_0 := (cell_far (p := ⟨gb364, 1, none⟩) (zy hn365_1) (.int .i64 0)).trans hx365_0
                 replace hx365_0 := (cell_far (p := ⟨gb364, 2, none⟩) (zy hn365_2) (.int .i64 0)).trans hx365_0
                 replace hx365_0 := (cell_far (p := ⟨gb364, 3, none⟩) (zy hn365_3) (.int .i64 0)).trans hx365_0
                 clear hn365_0
                 clear hn365_1
                 clear hn365_2
                 clear hn365_3
                 replace p365 := eq_true p365
                 replace q365 := eq_true q365
                 go_wp2_with (first | (go_at_call 46; (with_reducible refine (cellarref1_Number.calls (rd y341 x10_5) 32 t366 _ A64.out).mono ?_); rintro e w' ⟨rfl, ⟨nd, rfl⟩⟩))
                 go_meet
                 case rel => exact ⟨_, (t366), (zr), H', ⟨by have := HK1.out; have := HJ14.out; have := HK3.out; have := HJ32.out; have := HK5.out; have := HJ38.out; first | omega | exact Nat.le_refl _⟩, ⟨by (with_reducible repeat (first | apply Kd.R_alloc | apply Kd.R_drewN | apply Kd.R_drew)); exact Kd.R_mono (Kd.R_far (p := ⟨gb364, 3, none⟩) (Kd.R_far (p := ⟨gb364, 2, none⟩) (Kd.R_far (p := ⟨gb364, 1, none⟩) (Kd.R_far (p := ⟨gb364, 0, none⟩) (Kd.R_types HO_3.out BK364.out (by decide)) (fun _ hk => hk.2) (.bool false)) (fun _ hk => hk.2) (.int .i64 0)) (fun _ hk => hk.2) (.int .i64 0)) (fun _ hk => hk.2) (.int .i64 0)) (fun _ hk => trivial)⟩, ⟨by (with_reducible repeat (first | apply Kd.S_alloc | apply Kd.S_drewN | apply Kd.S_drew)); exact Kd.S_mono (Kd.S_far (p := ⟨gb364, 3, none⟩) (Kd.S_far (p := ⟨gb364, 2, none⟩) (Kd.S_far (p := ⟨gb364, 1, none⟩) (Kd.S_far (p := ⟨gb364, 0, none⟩) (Kd.S_types HO_5.out BK364.out (by decide)) (fun _ hk => hk.2) (.bool false)) (fun _ hk => hk.2) (.int .i64 0)) (fun _ hk => hk.2) (.int .i64 0)) (fun _ hk => hk.2) (.int .i64 0)) (fun _ hk => trivial)⟩, ⟨by (with_reducible repeat (first | apply Kd.R_alloc | apply Kd.R_drewN | apply Kd.R_drew)); exact Kd.R_mono (Kd.R_far (p := ⟨gb364, 3, none⟩) (Kd.R_far (p := ⟨gb364, 2, none⟩) (Kd.R_far (p := ⟨gb364, 1, none⟩) (Kd.R_far (p := ⟨gb364, 0, none⟩) (Kd.R_mono HO_7.out (fun k_ hk => (⟨hk, hk.2⟩ : _ ∧ k_ ≠ gb364))) (fun _ hk => hk.2) (.bool false)) (fun _ hk => hk.2) (.int .i64 0)) (fun _ hk => hk.2) (.int .i64 0)) (fun _ hk => hk.2) (.int .i64 0)) (fun _ hk => ⟨hk.1.1, hk.1.2⟩)⟩, ⟨zf1 BK336.out NB336_364.out⟩, ⟨zf1 BK363.out NB363_364.out⟩, ⟨by (with_reducible repeat (first | refine blk_drewN ?_ _ | refine blk_drew ?_ | refine blk_alloc ?_ _)); refine blk_put (cs := #[.bool false, .int .i64 0, .int .i64 0, .int .i64 0]) ?_ 3 _ rfl; (with_reducible repeat (first | refine blk_drewN ?_ _ | refine blk_drew ?_ | refine blk_alloc ?_ _)); refine blk_put (cs := #[.bool false, .int .i64 0, .int .i64 0, .int .i64 0]) ?_ 2 _ rfl; (with_reducible repeat (first | refine blk_drewN ?_ _ | refine blk_drew ?_ | refine blk_alloc ?_ _)); refine blk_put (cs := #[.bool false, .int .i64 0, .int .i64 0, .int .i64 0]) ?_ 1 _ rfl; (with_reducible repeat (first | refine blk_drewN ?_ _ | refine blk_drew ?_ | refine blk_alloc ?_ _)); refine blk_put (cs := #[.bool false, .int .i64 0, .int .i64 0, .int .i64 0]) ?_ 0 _ rfl; (with_reducible repeat (first | refine blk_drewN ?_ _ | refine blk_drew ?_ | refine blk_alloc ?_ _)); exact BK364.out⟩, ⟨zw3 HB.out GE336.out GE363.out GE364.out⟩⟩
                case rest => as_aux_lemma =>
                 clear HC49
                 try clear c2; try clear p2; try clear c3; try clear p3; try clear q3; try clear c4; try clear c6; try clear c29; try clear c32; try clear c32b0; try clear c34; try clear p34; try clear q34; try clear c35; try clear p35; try clear q35; try clear c36; try clear c36b0; try clear p36; try clear q36; try clear c40; try clear c40b0; try clear c43; try clear c44; try clear c44b0; try clear c45; try clear c45b0; try clear c46; try clear c46b0; try clear c47; try clear c47b0; try clear c60; try clear c61; try clear c63; try clear p2; try clear p3; try clear p34; try clear p344; try clear p348; try clear p35; try clear p353; try clear p355; try clear p356; try clear p365; try clear q3; try clear q34; try clear q344; try clear q348; try clear q35; try clear q353; try clear q355; try clear q356; try clear q365
                 obtain ⟨kq, x107_48, rfl, HA, HJ48, HO_3, HO_5, HO_7, BK336, BK363, BK364, HB⟩ := hcut
                 cases kq with
                 | zero => exact absurd HA.out (by simp [cellarlaw9_MemMoves.j6])
                 | succ kj48 =>
                  have H := HA.out
                  clear HA
                  simp only [cellarlaw9_MemMoves.j6] at H
                  have HC65 := Aside0.mk H
                  clear H
                  go_upto_if 107 with (fail)
                  go_cut [14, 16] (fun v14 v16 wc => ∃ (kq : Nat) (x14_64 : Int) (x16_64 : Int) (x365000_64 : Bool) (x365001_64 : Int) (x365002_64 : Int) (x365003_64 : Int), v14 = .int .i64 x14_64 ∧ v16 = .int .i64 x16_64 ∧ Aside0 (cellarlaw9_MemMoves.j7 kq y341 x4_1 t345 t349 t350 x8_3 x9_32 x10_5 t361 t362 x14_64 x16_64 l0_0 l0_1 l0_2 l0_3 t357 t358 t359 t360 x365000_64 x365001_64 x365002_64 x365003_64 = some r) ∧ Aside0 (kq ≤ kj48) ∧ Aside0 (Kd.R (Kd.int .i64) 3 wc w.heap.size (fun _ => True) (.slice (some ad356) y341.length co51) y341) ∧ Aside0 (Kd.S k76 76 wc w.heap.size (fun _ => True) (.slice Ao30 t345.length co30) t345) ∧ Aside0 (Kd.R k62 62 wc w.heap.size (fun k_ => k_ ≠ gb363 ∧ k_ ≠ gb364) (.slice (some ad355) t350.length co34) t350) ∧ Aside0 (wc.heap[gb336]? = some (.cells #[(.slice (some ad344) l0_0.length c0_0), (.slice A0_1 l0_1.length c0_1), (.slice A0_2 l0_2.length c0_2), (.slice A0_3 l0_3.length c0_3)] 54 (0, 0))) ∧ Aside0 (wc.heap[gb363]? = some (.cells #[.bool t357, .int .i64 t358, .int .i64 t359, .int .i64 t360] 62 (0, 0))) ∧ Aside0 (wc.heap[gb364]? = some (.cells #[.bool x365000_64, .int .i64 x365001_64, .int .i64 x365002_64, .int .i64 x365003_64] 62 (0, 0))) ∧ Aside0 (Below w.heap.size w wc))
                  case first =>
                   have H := HC65.out
                   clear HC65
                   by_cases c66 : x107_48 = true
                   rotate_left
                   ·replace c66 := Bool.eq_false_iff.mpr c66
                    subst c66
                    have H1 : (cellarlaw9_MemMoves.j7 kj48 y341 x4_1 t345 t349 t350 x8_3 x9_32 x10_5 t361 t362 1 0 l0_0 l0_1 l0_2 l0_3 t357 t358 t359 t360 false 0 0 0) = some r := by rw [if_neg (show ¬ (false = true) by decide)] at H; exact H
                    clear H
                    have H := H1
                    clear H1
                    have H' := Aside0.mk H
                    clear H
                    go_wp2
                    go_meet
                    case rel => exact ⟨_, (1), (0), (false), (0), (0), (0), (zr), (zr), H', ⟨by have := HK1.out; have := HJ14.out; have := HK3.out; have := HJ32.out; have := HK5.out; have := HJ38.out; have := HJ48.out; first | omega | exact Nat.le_refl _⟩, ⟨by (with_reducible repeat (first | apply Kd.R_alloc | apply Kd.R_drewN | apply Kd.R_drew)); exact HO_3.out⟩, ⟨by (with_reducible repeat (first | apply Kd.S_alloc | apply Kd.S_drewN | apply Kd.S_drew)); exact HO_5.out⟩, ⟨by (with_reducible repeat (first | apply Kd.R_alloc | apply Kd.R_drewN | apply Kd.R_drew)); exact HO_7.out⟩, ⟨zb BK336.out⟩, ⟨zb BK363.out⟩, ⟨zb BK364.out⟩, ⟨zw3 HB.out GE336.out GE363.out GE364.out⟩⟩
                   subst c66
                   have H1 : (if 0 ≤ x8_3 then (if x8_3 < (t350.length : Int) then (if 0 ≤ x10_5 then (if x10_5 < (y341.length : Int) then ((cellarref7_Move.f kj48 t345 ((rd_T62 t350 x8_3).f0) ((rd_T62 t350 x8_3).f1) ((rd_T62 t350 x8_3).f2) ((rd_T62 t350 x8_3).f3) (rd y341 x10_5)).bind fun bt369 => (cellarlaw9_MemMoves.j7 kj48 y341 x4_1 t345 t349 t350 x8_3 x9_32 x10_5 t361 t362 0 bt369.2.2.2.2 l0_0 l0_1 l0_2 l0_3 t357 t358 t359 t360 bt369.1 bt369.2.1 bt369.2.2.1 bt369.2.2.2.1)) else (none)) else (none)) else (none)) else (none)) = some r := by rw [if_pos rfl] at H; exact H
                   clear H
                   have H := H1
                   clear H1
                   by_cases c67 : 0 ≤ x8_3
                   rotate_left
                   ·rw [if_neg c67] at H
                    exact absurd H (by simp)
                   rw [if_pos c67] at H
                   have c67b0 : decide (0 ≤ x8_3) = true := decide_eq_true c67
                   clear c67
                   (first | rw [c67b0] | (simp only [i64_w, i32_w]; rw [c67b0]) | skip)
                   by_cases c68 : x8_3 < (t350.length : Int)
                   rotate_left
                   ·rw [if_neg c68] at H
                    exact absurd H (by simp)
                   rw [if_pos c68] at H
                   have c68b0 : decide (x8_3 < (t350.length : Int)) = true := decide_eq_true c68
                   clear c68
                   by_cases c69 : 0 ≤ x10_5
                   rotate_left
                   ·rw [if_neg c69] at H
                    exact absurd H (by simp)
                   rw [if_pos c69] at H
                   have c69b0 : decide (0 ≤ x10_5) = true := decide_eq_true c69
                   clear c69
                   by_cases c70 : x10_5 < (y341.length : Int)
                   rotate_left
                   ·rw [if_neg c70] at H
                    exact absurd H (by simp)
                   rw [if_pos c70] at H
                   have c70b0 : decide (x10_5 < (y341.length : Int)) = true := decide_eq_true c70
                   clear c70
                   replace H := Option.bind_eq_some_iff.mp H
                   obtain ⟨⟨t369, t370, t371, t372, t373⟩, A710, H⟩ := H
                   replace H : (cellarlaw9_MemMoves.j7 kj48 y341 x4_1 t345 t349 t350 x8_3 x9_32 x10_5 t361 t362 0 t373 l0_0 l0_1 l0_2 l0_3 t357 t358 t359 t360 t369 t370 t371 t372) = some r := H
                   have A71 := Aside0.mk A710
                   clear A710
                   have H' := Aside0.mk H
                   clear H
                   try go_wp2
                   have n0_ := Aside0.mk (Kd.R_drew HO_3.out)
                   have n1_ := Aside0.mk (Kd.S_drew HO_5.out)
                   have n2_ := Aside0.mk (Kd.R_drew HO_7.out)
                   have n3_ := Aside0.mk (blk_drew BK336.out)
                   have n4_ := Aside0.mk (blk_drew BK363.out)
                   have n5_ := Aside0.mk (blk_drew BK364.out)
                   have n6_ := Aside0.mk (below_drew1 HB.out)
                   clear HO_3
                   clear HO_5
                   clear HO_7
                   clear BK336
                   clear BK363
                   clear BK364
                   clear HB
                   have HO_3 := n0_
                   have HO_5 := n1_
                   have HO_7 := n2_
                   have BK336 := n3_
                   have BK363 := n4_
                   have BK364 := n5_
                   have HB := n6_
                   clear n0_ n1_ n2_ n3_ n4_ n5_ n6_
                   have p367 : 0 ≤ (x8_3 : Int) := zdec
                   have q367 : x8_3 < (t350.length : Int) := zdec
                   obtain ⟨ad367, e367, hx367_0, hx367_1, hx367_2, hx367_3⟩ := at_T62 (Kd.R_reads' HO_7.out).2.2 x8_3 p367 q367
                   obtain rfl : ad355 = ad367 := (by injection e367)
                   replace p367 := eq_true p367
                   replace q367 := eq_true q367
                   have p368 : 0 ≤ (x10_5 : Int) := zdec
                   have q368 : x10_5 < (y341.length : Int) := zdec
                   obtain ⟨ad368, e368, hx368_0⟩ := Kd.at_int (Kd.R_reads' HO_3.out).2.2 x10_5 p368 q368
                   obtain rfl : ad356 = ad368 := (by injection e368)
                   replace p368 := eq_true p368
                   replace q368 := eq_true q368
                   refine start_ (n := 15) (S := fun w' => w'.cell? (ad355.add ((x8_3).toNat * 4)) = some (.bool ((rd_T62 t350 x8_3).f0)) ∧ w'.cell? ⟨(ad355.add ((x8_3).toNat * 4)).block, (ad355.add ((x8_3).toNat * 4)).off + 1, none⟩ = some (.int .i64 ((rd_T62 t350 x8_3).f1)) ∧ w'.cell? ⟨(ad355.add ((x8_3).toNat * 4)).block, (ad355.add ((x8_3).toNat * 4)).off + 2, none⟩ = some (.int .i64 ((rd_T62 t350 x8_3).f2)) ∧ w'.cell? ⟨(ad355.add ((x8_3).toNat * 4)).block, (ad355.add ((x8_3).toNat * 4)).off + 3, none⟩ = some (.int .i64 ((rd_T62 t350 x8_3).f3)) ∧ w'.cell? (ad356.add (x10_5).toNat) = some (.int .i64 (rd y341 x10_5))) (ds := []) cellarlaw9_MemMoves.b24 (by kernel_rfl) rfl rfl ⟨hx367_0, hx367_1, hx367_2, hx367_3, hx368_0⟩ (fun hHeld => ?_); refine with_tabW cellarlaw9_MemMoves.tab21 cellarlaw9_MemMoves.bits21 (fun HT_ HW_ => ?_)
                   generalize wc.drew = w72 at HO_3 HO_5 HO_7 BK336 BK363 BK364 HB hx367_0 hx367_1 hx367_2 hx367_3 hx368_0 hHeld ⊢
                   refine zq 0 (some 109) HT_ ?_; refine zq 1 (some 110) HT_ ?_; refine zq 2 (some 111) HT_ ?_; refine zq 3 (some 112) HT_ ?_; refine zq 5 (some 114) HT_ ?_; refine zq 6 (some 115) HT_ ?_; refine zq 7 (some 116) HT_ ?_; refine zt 4 (some 113) HT_ HW_ hHeld ?_; refine zt 8 (some 117) HT_ HW_ hHeld ?_
                   refine one_ (i := 9) (N := some 118) cellarlaw9_MemMoves.b34 rfl rfl (one_of HT_.out (by kernel_rfl)) (by decide) (fun K hK => ?_)
                   refine goes_ Try.func47 (by kernel_rfl) rfl #[.slice Ao30 t345.length co30, .agg #[.bool ((rd_T62 t350 x8_3).f0), .int .i64 ((rd_T62 t350 x8_3).f1), .int .i64 ((rd_T62 t350 x8_3).f2), .int .i64 ((rd_T62 t350 x8_3).f3)], .int .i64 (rd y341 x10_5)] (by rfl) rfl rfl (by (try simp only [List.map_toArray, List.map_cons, List.map_nil]); first | done | rfl | (simp only [List.length_drop, List.length_take]; rfl)) ?_
                   with_reducible refine (cellarref7_Move.calls kj48 _ _ t345 ((rd_T62 t350 x8_3).f0) ((rd_T62 t350 x8_3).f1) ((rd_T62 t350 x8_3).f2) ((rd_T62 t350 x8_3).f3) (rd y341 x10_5) t369 t370 t371 t372 t373 _ ?side1 ?side2 A71.out).mono ?_
                   (case side1 => repeat (first | exact (Kd.S_reads' HO_5.out).2.2 | (with_reducible refine Kd.C_alloc ?_ _) | (with_reducible refine Kd.C_drewN ?_ _) | (with_reducible refine Kd.C_drew ?_)))
                   (case side2 => exact (Kd.S_reads' HO_5.out).2.1)
                   rintro e w73 ⟨rfl, hb⟩
                   have HS0_ := (hb.cell (World.block_lt_of_cell? _ _ (hHeld.1))).trans (hHeld.1)
                   have HS1_ := (hb.cell (World.block_lt_of_cell? _ _ (hHeld.2.1))).trans (hHeld.2.1)
                   have HS2_ := (hb.cell (World.block_lt_of_cell? _ _ (hHeld.2.2.1))).trans (hHeld.2.2.1)
                   have HS3_ := (hb.cell (World.block_lt_of_cell? _ _ (hHeld.2.2.2.1))).trans (hHeld.2.2.2.1)
                   have HS4_ := (hb.cell (World.block_lt_of_cell? _ _ (hHeld.2.2.2.2))).trans (hHeld.2.2.2.2)
                   refine ⟨_, rfl, ?_⟩
                   have n0_ := Aside0.mk (Kd.R_below (by (with_reducible repeat (first | apply Kd.R_alloc | apply Kd.R_drewN | apply Kd.R_drew)); exact HO_3.out) hb)
                   have n1_ := Aside0.mk (Kd.S_below (by (with_reducible repeat (first | apply Kd.S_alloc | apply Kd.S_drewN | apply Kd.S_drew)); exact HO_5.out) hb)
                   have n2_ := Aside0.mk (Kd.R_below (by (with_reducible repeat (first | apply Kd.R_alloc | apply Kd.R_drewN | apply Kd.R_drew)); exact HO_7.out) hb)
                   have n3_ := Aside0.mk (zbb BK336.out hb)
                   have n4_ := Aside0.mk (zbb BK363.out hb)
                   have n5_ := Aside0.mk (zbb BK364.out hb)
                   have n6_ := Aside0.mk (below_step (zw3 HB.out GE336.out GE363.out GE364.out) hb)
                   clear HO_3
                   clear HO_5
                   clear HO_7
                   clear BK336
                   clear BK363
                   clear BK364
                   clear HB
                   have HO_3 := n0_
                   have HO_5 := n1_
                   have HO_7 := n2_
                   have BK336 := n3_
                   have BK363 := n4_
                   have BK364 := n5_
                   have HB := n6_
                   clear n0_ n1_ n2_ n3_ n4_ n5_ n6_
                   (try clear hb)
                   (try clear hb2)
                   (try clear hk)
                   (try clear hi)
                   refine hK.out _ _ ⟨HS0_, HS1_, HS2_, HS3_, HS4_⟩ (fun hHeld => ?_)
                   clear hK K
                   refine norm_ (a' := ?_) ?_ ?_
                   rotate_left
                   ·show Act.put _ (some 118) _ = _
                    simp only [Act.put, List.setIfInBounds_toArray, List.set_cons_zero, List.set_cons_succ, i64_w, i32_w]
                    rfl
                   refine zq 10 (some 108) HT_ ?_; refine zq 11 (some 119) HT_ ?_; refine zq 12 (some 120) HT_ ?_
                   refine one_ (i := 13) (N := none) cellarlaw9_MemMoves.b38 rfl rfl (one_of HT_.out (by kernel_rfl)) (by decide) (fun K hK => ?_)
                   have hs74 : w73.cell? ⟨gb364, 0, none⟩ = some (.bool false) := (blk_cell BK364.out 0).trans rfl
                   have hfs74 := blk_frozen BK364.out 0
                   have hns74_0 := NB336_364.out
                   have hns74_1 := NB363_364.out
                   have hms74_0 := NB364_336.out
                   have hms74_1 := NB364_363.out
                   have hs75 : w73.cell? ⟨gb364, 1, none⟩ = some (.int .i64 0) := (blk_cell BK364.out 1).trans rfl
                   have hfs75 := blk_frozen BK364.out 1
                   have hns75_0 := NB336_364.out
                   have hns75_1 := NB363_364.out
                   have hms75_0 := NB364_336.out
                   have hms75_1 := NB364_363.out
                   have hs76 : w73.cell? ⟨gb364, 2, none⟩ = some (.int .i64 0) := (blk_cell BK364.out 2).trans rfl
                   have hfs76 := blk_frozen BK364.out 2
                   have hns76_0 := NB336_364.out
                   have hns76_1 := NB363_364.out
                   have hms76_0 := NB364_336.out
                   have hms76_1 := NB364_363.out
                   have hs77 : w73.cell? ⟨gb364, 3, none⟩ = some (.int .i64 0) := (blk_cell BK364.out 3).trans rfl
                   have hfs77 := blk_frozen BK364.out 3
                   have hns77_0 := NB336_364.out
                   have hns77_1 := NB363_364.out
                   have hms77_0 := NB364_336.out
                   have hms77_1 := NB364_363.out
                   refine skip_ (w1 := ?_) (by rfl) rfl ?_ ?_
                   rotate_left
                   ·go_simp
                    rfl
                   refine hK.out _ _ ⟨((cell_far (p := ⟨gb364, _, none⟩) (by first | exact Kd.own_blk (Kd.R_away HO_7.out (fun _ hk => hk.2)) | (rw [add_block]; exact Kd.own_blk (Kd.R_away HO_7.out (fun _ hk => hk.2))) | (show (Addr.add _ _).block ≠ _; rw [add_block]; exact Kd.own_blk (Kd.R_away HO_7.out (fun _ hk => hk.2))) | (dsimp only; exact Kd.own_blk (Kd.R_away HO_7.out (fun _ hk => hk.2)))) _).trans (((cell_far (p := ⟨gb364, _, none⟩) (by first | exact Kd.own_blk (Kd.R_away HO_7.out (fun _ hk => hk.2)) | (rw [add_block]; exact Kd.own_blk (Kd.R_away HO_7.out (fun _ hk => hk.2))) | (show (Addr.add _ _).block ≠ _; rw [add_block]; exact Kd.own_blk (Kd.R_away HO_7.out (fun _ hk => hk.2))) | (dsimp only; exact Kd.own_blk (Kd.R_away HO_7.out (fun _ hk => hk.2)))) _).trans (((cell_far (p := ⟨gb364, _, none⟩) (by first | exact Kd.own_blk (Kd.R_away HO_7.out (fun _ hk => hk.2)) | (rw [add_block]; exact Kd.own_blk (Kd.R_away HO_7.out (fun _ hk => hk.2))) | (show (Addr.add _ _).block ≠ _; rw [add_block]; exact Kd.own_blk (Kd.R_away HO_7.out (fun _ hk => hk.2))) | (dsimp only; exact Kd.own_blk (Kd.R_away HO_7.out (fun _ hk => hk.2)))) _).trans (((cell_far (p := ⟨gb364, _, none⟩) (by first | exact Kd.own_blk (Kd.R_away HO_7.out (fun _ hk => hk.2)) | (rw [add_block]; exact Kd.own_blk (Kd.R_away HO_7.out (fun _ hk => hk.2))) | (show (Addr.add _ _).block ≠ _; rw [add_block]; exact Kd.own_blk (Kd.R_away HO_7.out (fun _ hk => hk.2))) | (dsimp only; exact Kd.own_blk (Kd.R_away HO_7.out (fun _ hk => hk.2)))) _).trans (hHeld.1)))))))), ((cell_far (p := ⟨gb364, _, none⟩) (by first | exact Kd.own_blk (Kd.R_away HO_7.out (fun _ hk => hk.2)) | (rw [add_block]; exact Kd.own_blk (Kd.R_away HO_7.out (fun _ hk => hk.2))) | (show (Addr.add _ _).block ≠ _; rw [add_block]; exact Kd.own_blk (Kd.R_away HO_7.out (fun _ hk => hk.2))) | (dsimp only; exact Kd.own_blk (Kd.R_away HO_7.out (fun _ hk => hk.2)))) _).trans (((cell_far (p := ⟨gb364, _, none⟩) (by first | exact Kd.own_blk (Kd.R_away HO_7.out (fun _ hk => hk.2)) | (rw [add_block]; exact Kd.own_blk (Kd.R_away HO_7.out (fun _ hk => hk.2))) | (show (Addr.add _ _).block ≠ _; rw [add_block]; exact Kd.own_blk (Kd.R_away HO_7.out (fun _ hk => hk.2))) | (dsimp only; exact Kd.own_blk (Kd.R_away HO_7.out (fun _ hk => hk.2)))) _).trans (((cell_far (p := ⟨gb364, _, none⟩) (by first | exact Kd.own_blk (Kd.R_away HO_7.out (fun _ hk => hk.2)) | (rw [add_block]; exact Kd.own_blk (Kd.R_away HO_7.out (fun _ hk => hk.2))) | (show (Addr.add _ _).block ≠ _; rw [add_block]; exact Kd.own_blk (Kd.R_away HO_7.out (fun _ hk => hk.2))) | (dsimp only; exact Kd.own_blk (Kd.R_away HO_7.out (fun _ hk => hk.2)))) _).trans (((cell_far (p := ⟨gb364, _, none⟩) (by first | exact Kd.own_blk (Kd.R_away HO_7.out (fun _ hk => hk.2)) | (rw [add_block]; exact Kd.own_blk (Kd.R_away HO_7.out (fun _ hk => hk.2))) | (show (Addr.add _ _).block ≠ _; rw [add_block]; exact Kd.own_blk (Kd.R_away HO_7.out (fun _ hk => hk.2))) | (dsimp only; exact Kd.own_blk (Kd.R_away HO_7.out (fun _ hk => hk.2)))) _).trans (hHeld.2.1)))))))), ((cell_far (p := ⟨gb364, _, none⟩) (by first | exact Kd.own_blk (Kd.R_away HO_7.out (fun _ hk => hk.2)) | (rw [add_block]; exact Kd.own_blk (Kd.R_away HO_7.out (fun _ hk => hk.2))) | (show (Addr.add _ _).block ≠ _; rw [add_block]; exact Kd.own_blk (Kd.R_away HO_7.out (fun _ hk => hk.2))) | (dsimp only; exact Kd.own_blk (Kd.R_away HO_7.out (fun _ hk => hk.2)))) _).trans (((cell_far (p := ⟨gb364, _, none⟩) (by first | exact Kd.own_blk (Kd.R_away HO_7.out (fun _ hk => hk.2)) | (rw [add_block]; exact Kd.own_blk (Kd.R_away HO_7.out (fun _ hk => hk.2))) | (show (Addr.add _ _).block ≠ _; rw [add_block]; exact Kd.own_blk (Kd.R_away HO_7.out (fun _ hk => hk.2))) | (dsimp only; exact Kd.own_blk (Kd.R_away HO_7.out (fun _ hk => hk.2)))) _).trans (((cell_far (p := ⟨gb364, _, none⟩) (by first | exact Kd.own_blk (Kd.R_away HO_7.out (fun _ hk => hk.2)) | (rw [add_block]; exact Kd.own_blk (Kd.R_away HO_7.out (fun _ hk => hk.2))) | (show (Addr.add _ _).block ≠ _; rw [add_block]; exact Kd.own_blk (Kd.R_away HO_7.out (fun _ hk => hk.2))) | (dsimp only; exact Kd.own_blk (Kd.R_away HO_7.out (fun _ hk => hk.2)))) _).trans (((cell_far (p := ⟨gb364, _, none⟩) (by first | exact Kd.own_blk (Kd.R_away HO_7.out (fun _ hk => hk.2)) | (rw [add_block]; exact Kd.own_blk (Kd.R_away HO_7.out (fun _ hk => hk.2))) | (show (Addr.add _ _).block ≠ _; rw [add_block]; exact Kd.own_blk (Kd.R_away HO_7.out (fun _ hk => hk.2))) | (dsimp only; exact Kd.own_blk (Kd.R_away HO_7.out (fun _ hk => hk.2)))) _).trans (hHeld.2.2.1)))))))), ((cell_far (p := ⟨gb364, _, none⟩) (by first | exact Kd.own_blk (Kd.R_away HO_7.out (fun _ hk => hk.2)) | (rw [add_block]; exact Kd.own_blk (Kd.R_away HO_7.out (fun _ hk => hk.2))) | (show (Addr.add _ _).block ≠ _; rw [add_block]; exact Kd.own_blk (Kd.R_away HO_7.out (fun _ hk => hk.2))) | (dsimp only; exact Kd.own_blk (Kd.R_away HO_7.out (fun _ hk => hk.2)))) _).trans (((cell_far (p := ⟨gb364, _, none⟩) (by first | exact Kd.own_blk (Kd.R_away HO_7.out (fun _ hk => hk.2)) | (rw [add_block]; exact Kd.own_blk (Kd.R_away HO_7.out (fun _ hk => hk.2))) | (show (Addr.add _ _).block ≠ _; rw [add_block]; exact Kd.own_blk (Kd.R_away HO_7.out (fun _ hk => hk.2))) | (dsimp only; exact Kd.own_blk (Kd.R_away HO_7.out (fun _ hk => hk.2)))) _).trans (((cell_far (p := ⟨gb364, _, none⟩) (by first | exact Kd.own_blk (Kd.R_away HO_7.out (fun _ hk => hk.2)) | (rw [add_block]; exact Kd.own_blk (Kd.R_away HO_7.out (fun _ hk => hk.2))) | (show (Addr.add _ _).block ≠ _; rw [add_block]; exact Kd.own_blk (Kd.R_away HO_7.out (fun _ hk => hk.2))) | (dsimp only; exact Kd.own_blk (Kd.R_away HO_7.out (fun _ hk => hk.2)))) _).trans (((cell_far (p := ⟨gb364, _, none⟩) (by first | exact Kd.own_blk (Kd.R_away HO_7.out (fun _ hk => hk.2)) | (rw [add_block]; exact Kd.own_blk (Kd.R_away HO_7.out (fun _ hk => hk.2))) | (show (Addr.add _ _).block ≠ _; rw [add_block]; exact Kd.own_blk (Kd.R_away HO_7.out (fun _ hk => hk.2))) | (dsimp only; exact Kd.own_blk (Kd.R_away HO_7.out (fun _ hk => hk.2)))) _).trans (hHeld.2.2.2.1)))))))), ((cell_far (p := ⟨gb364, _, none⟩) (by first | exact Kd.own_blk (Kd.R_ne HO_3.out BK364.out (by decide)) | (rw [add_block]; exact Kd.own_blk (Kd.R_ne HO_3.out BK364.out (by decide))) | (show (Addr.add _ _).block ≠ _; rw [add_block]; exact Kd.own_blk (Kd.R_ne HO_3.out BK364.out (by decide))) | (dsimp only; exact Kd.own_blk (Kd.R_ne HO_3.out BK364.out (by decide)))) _).trans (((cell_far (p := ⟨gb364, _, none⟩) (by first | exact Kd.own_blk (Kd.R_ne HO_3.out BK364.out (by decide)) | (rw [add_block]; exact Kd.own_blk (Kd.R_ne HO_3.out BK364.out (by decide))) | (show (Addr.add _ _).block ≠ _; rw [add_block]; exact Kd.own_blk (Kd.R_ne HO_3.out BK364.out (by decide))) | (dsimp only; exact Kd.own_blk (Kd.R_ne HO_3.out BK364.out (by decide)))) _).trans (((cell_far (p := ⟨gb364, _, none⟩) (by first | exact Kd.own_blk (Kd.R_ne HO_3.out BK364.out (by decide)) | (rw [add_block]; exact Kd.own_blk (Kd.R_ne HO_3.out BK364.out (by decide))) | (show (Addr.add _ _).block ≠ _; rw [add_block]; exact Kd.own_blk (Kd.R_ne HO_3.out BK364.out (by decide))) | (dsimp only; exact Kd.own_blk (Kd.R_ne HO_3.out BK364.out (by decide)))) _).trans (((cell_far (p := ⟨gb364, _, none⟩) (by first | exact Kd.own_blk (Kd.R_ne HO_3.out BK364.out (by decide)) | (rw [add_block]; exact Kd.own_blk (Kd.R_ne HO_3.out BK364.out (by decide))) | (show (Addr.add _ _).block ≠ _; rw [add_block]; exact Kd.own_blk (Kd.R_ne HO_3.out BK364.out (by decide))) | (dsimp only; exact Kd.own_blk (Kd.R_ne HO_3.out BK364.out (by decide)))) _).trans (hHeld.2.2.2.2))))))))⟩ (fun hHeld => ?_)
                   clear hK K
                   refine zq 14 (some 16) HT_ ?_
                   refine done_ (done_of HT_.out (by kernel_rfl)) ?_
                   try go_wp2
                   go_meet
                   case rel => exact ⟨_, (0), (t373), (t369), (t370), (t371), (t372), (zr), (zr), H', ⟨by have := HK1.out; have := HJ14.out; have := HK3.out; have := HJ32.out; have := HK5.out; have := HJ38.out; have := HJ48.out; first | omega | exact Nat.le_refl _⟩, ⟨by (with_reducible repeat (first | apply Kd.R_alloc | apply Kd.R_drewN | apply Kd.R_drew)); exact Kd.R_mono (Kd.R_far (p := ⟨gb364, 3, none⟩) (Kd.R_far (p := ⟨gb364, 2, none⟩) (Kd.R_far (p := ⟨gb364, 1, none⟩) (Kd.R_far (p := ⟨gb364, 0, none⟩) (Kd.R_types HO_3.out BK364.out (by decide)) (fun _ hk => hk.2) (.bool t369)) (fun _ hk => hk.2) (.int .i64 t370)) (fun _ hk => hk.2) (.int .i64 t371)) (fun _ hk => hk.2) (.int .i64 t372)) (fun _ hk => trivial)⟩, ⟨by (with_reducible repeat (first | apply Kd.S_alloc | apply Kd.S_drewN | apply Kd.S_drew)); exact Kd.S_mono (Kd.S_far (p := ⟨gb364, 3, none⟩) (Kd.S_far (p := ⟨gb364, 2, none⟩) (Kd.S_far (p := ⟨gb364, 1, none⟩) (Kd.S_far (p := ⟨gb364, 0, none⟩) (Kd.S_types HO_5.out BK364.out (by decide)) (fun _ hk => hk.2) (.bool t369)) (fun _ hk => hk.2) (.int .i64 t370)) (fun _ hk => hk.2) (.int .i64 t371)) (fun _ hk => hk.2) (.int .i64 t372)) (fun _ hk => trivial)⟩, ⟨by (with_reducible repeat (first | apply Kd.R_alloc | apply Kd.R_drewN | apply Kd.R_drew)); exact Kd.R_mono (Kd.R_far (p := ⟨gb364, 3, none⟩) (Kd.R_far (p := ⟨gb364, 2, none⟩) (Kd.R_far (p := ⟨gb364, 1, none⟩) (Kd.R_far (p := ⟨gb364, 0, none⟩) (Kd.R_mono HO_7.out (fun k_ hk => (⟨hk, hk.2⟩ : _ ∧ k_ ≠ gb364))) (fun _ hk => hk.2) (.bool t369)) (fun _ hk => hk.2) (.int .i64 t370)) (fun _ hk => hk.2) (.int .i64 t371)) (fun _ hk => hk.2) (.int .i64 t372)) (fun _ hk => ⟨hk.1.1, hk.1.2⟩)⟩, ⟨zf1 BK336.out NB336_364.out⟩, ⟨zf1 BK363.out NB363_364.out⟩, ⟨by (with_reducible repeat (first | refine blk_drewN ?_ _ | refine blk_drew ?_ | refine blk_alloc ?_ _)); refine blk_put (cs := #[.bool t369, .int .i64 t370, .int .i64 t371, .int .i64 0]) ?_ 3 _ rfl; (with_reducible repeat (first | refine blk_drewN ?_ _ | refine blk_drew ?_ | refine blk_alloc ?_ _)); refine blk_put (cs := #[.bool t369, .int .i64 t370, .int .i64 0, .int .i64 0]) ?_ 2 _ rfl; (with_reducible repeat (first | refine blk_drewN ?_ _ | refine blk_drew ?_ | refine blk_alloc ?_ _)); refine blk_put (cs := #[.bool t369, .int .i64 0, .int .i64 0, .int .i64 0]) ?_ 1 _ rfl; (with_reducible repeat (first | refine blk_drewN ?_ _ | refine blk_drew ?_ | refine blk_alloc ?_ _)); refine blk_put (cs := #[.bool false, .int .i64 0, .int .i64 0, .int .i64 0]) ?_ 0 _ rfl; (with_reducible repeat (first | refine blk_drewN ?_ _ | refine blk_drew ?_ | refine blk_alloc ?_ _)); exact BK364.out⟩, ⟨zw3 HB.out GE336.out GE363.out GE364.out⟩⟩
                  case rest => as_aux_lemma =>
                   clear HC65
                   try clear c2; try clear p2; try clear c3; try clear p3; try clear q3; try clear c4; try clear c6; try clear c7; try clear c29; try clear c32; try clear c32b0; try clear c34; try clear p34; try clear q34; try clear c35; try clear p35; try clear q35; try clear c36; try clear c36b0; try clear p36; try clear q36; try clear c40; try clear c40b0; try clear c43; try clear c44; try clear c44b0; try clear c45; try clear c45b0; try clear c46; try clear c46b0; try clear c47; try clear c47b0; try clear c60; try clear c61; try clear c63; try clear c66; try clear c67; try clear c67b0; try clear c68; try clear c68b0; try clear c69; try clear c69b0; try clear c70; try clear c70b0; try clear p2; try clear p3; try clear p34; try clear p344; try clear p348; try clear p35; try clear p353; try clear p355; try clear p356; try clear p36; try clear p365; try clear p367; try clear p368; try clear q3; try clear q34; try clear q344; try clear q348; try clear q35; try clear q353; try clear q355; try clear q356; try clear q36; try clear q365; try clear q367; try clear q368
                   obtain ⟨kq, x14_64, x16_64, x365000_64, x365001_64, x365002_64, x365003_64, rfl, rfl, HA, HJ64, HO_3, HO_5, HO_7, BK336, BK363, BK364, HB⟩ := hcut
                   cases kq with
                   | zero => exact absurd HA.out (by simp [cellarlaw9_MemMoves.j7])
                   | succ kj64 =>
                    have H := HA.out
                    clear HA
                    simp only [cellarlaw9_MemMoves.j7] at H
                    have HC78 := Aside0.mk H
                    clear H
                    go_upto_region 22 with (fail)
                    go_cut [134] (fun v134 wc => ∃ (kq : Nat) (x134_77 : Bool), v134 = .bool x134_77 ∧ Aside0 (cellarlaw9_MemMoves.j8 kq y341 x4_1 t345 t349 t350 x8_3 x9_32 x10_5 x134_77 l0_0 l0_1 l0_2 l0_3 = some r) ∧ Aside0 (kq ≤ kj64) ∧ Aside0 (Kd.R (Kd.int .i64) 3 wc w.heap.size (fun _ => True) (.slice (some ad356) y341.length co51) y341) ∧ Aside0 (Kd.S k76 76 wc w.heap.size (fun _ => True) (.slice Ao30 t345.length co30) t345) ∧ Aside0 (Kd.R k62 62 wc w.heap.size (fun k_ => k_ ≠ gb363 ∧ k_ ≠ gb364) (.slice (some ad355) t350.length co34) t350) ∧ Aside0 (wc.heap[gb336]? = some (.cells #[(.slice (some ad344) l0_0.length c0_0), (.slice A0_1 l0_1.length c0_1), (.slice A0_2 l0_2.length c0_2), (.slice A0_3 l0_3.length c0_3)] 54 (0, 0))) ∧ Aside0 (wc.heap[gb363]? = some (.cells #[.bool t357, .int .i64 t358, .int .i64 t359, .int .i64 t360] 62 (0, 0))) ∧ Aside0 (wc.heap[gb364]? = some (.cells #[.bool x365000_64, .int .i64 x365001_64, .int .i64 x365002_64, .int .i64 x365003_64] 62 (0, 0))) ∧ Aside0 (Below w.heap.size w wc))
                    case first =>
                     have H := HC78.out
                     clear HC78
                     replace H := Option.bind_eq_some_iff.mp H
                     obtain ⟨t374, A790, H⟩ := H
                     replace H : (if t374 = x14_64 then (if (!(t357 == x365000_64) || (!(t358 == x365001_64) || (!(t359 == x365002_64) || (!(t360 == x365003_64))))) = true then (cellarlaw9_MemMoves.j8 kj64 y341 x4_1 t345 t349 t350 x8_3 x9_32 x10_5 true l0_0 l0_1 l0_2 l0_3) else (cellarlaw9_MemMoves.j8 kj64 y341 x4_1 t345 t349 t350 x8_3 x9_32 x10_5 (t361 != x16_64) l0_0 l0_1 l0_2 l0_3)) else (cellarlaw9_MemMoves.j8 kj64 y341 x4_1 t345 t349 t350 x8_3 x9_32 x10_5 true l0_0 l0_1 l0_2 l0_3)) = some r := H
                     have A79 := Aside0.mk A790
                     clear A790
                     by_cases c80 : t374 = x14_64
                     rotate_left
                     ·rw [if_neg c80] at H
                      have c80b0 : (t374 == x14_64) = false := beq_eq_false_iff_ne.mpr c80
                      have c80b1 : (t374 != x14_64) = true := bne_iff_ne.mpr c80
                      (first | rw [c80b0] | (simp only [i64_w, i32_w]; rw [c80b0]) | skip)
                      have H' := Aside0.mk H
                      clear H
                      go_wp2_with (first | ((with_reducible refine gate_callee (f := 35) rfl ?_); refine zgo (some 122) Try.func35 #[.int .i64 t362] ?_; (with_reducible refine (cellarlaw9_num.calls t362 t374 _ A79.out).mono ?_); rintro e w' ⟨rfl, ⟨nd, rfl⟩⟩; refine ⟨_, rfl, ?_⟩))
                      go_meet
                      case rel => exact ⟨_, (true), (zr), H', ⟨by have := HK1.out; have := HJ14.out; have := HK3.out; have := HJ32.out; have := HK5.out; have := HJ38.out; have := HJ48.out; have := HJ64.out; first | omega | exact Nat.le_refl _⟩, ⟨by (with_reducible repeat (first | apply Kd.R_alloc | apply Kd.R_drewN | apply Kd.R_drew)); exact HO_3.out⟩, ⟨by (with_reducible repeat (first | apply Kd.S_alloc | apply Kd.S_drewN | apply Kd.S_drew)); exact HO_5.out⟩, ⟨by (with_reducible repeat (first | apply Kd.R_alloc | apply Kd.R_drewN | apply Kd.R_drew)); exact HO_7.out⟩, ⟨zb BK336.out⟩, ⟨zb BK363.out⟩, ⟨zb BK364.out⟩, ⟨zw3 HB.out GE336.out GE363.out GE364.out⟩⟩
                     rw [if_pos c80] at H
                     have c80b0 : (t374 == x14_64) = true := beq_iff_eq.mpr c80
                     have c80b1 : (t374 != x14_64) = false := bne_eq_false_iff_eq.mpr c80
                     clear c80
                     (first | rw [c80b0] | (simp only [i64_w, i32_w]; rw [c80b0]) | skip)
                     by_cases c81 : (!(t357 == x365000_64) || (!(t358 == x365001_64) || (!(t359 == x365002_64) || (!(t360 == x365003_64))))) = true
                     ·rw [if_pos c81] at H
                      have c81b0 : (!(t357 == x365000_64) || (!(t358 == x365001_64) || (!(t359 == x365002_64) || (!(t360 == x365003_64))))) = true := c81
                      clear c81
                      have H' := Aside0.mk H
                      clear H
                      go_wp2_with (first | ((with_reducible refine gate_callee (f := 35) rfl ?_); refine zgo (some 122) Try.func35 #[.int .i64 t362] ?_; (with_reducible refine (cellarlaw9_num.calls t362 t374 _ A79.out).mono ?_); rintro e w' ⟨rfl, ⟨nd, rfl⟩⟩; refine ⟨_, rfl, ?_⟩; have hnb82 := NB363_336.out; have hnc82 := NB336_363.out; have hnb83 := NB363_364.out; have hnc83 := NB364_363.out; have hcz84_0 := zc BK363.out 0; have hcz84_1 := zc BK363.out 1; have hcz84_2 := zc BK363.out 2; have hcz84_3 := zc BK363.out 3; have hfz84_0 := blk_frozen BK363.out 0; have hfz84_1 := blk_frozen BK363.out 1; have hfz84_2 := blk_frozen BK363.out 2; have hfz84_3 := blk_frozen BK363.out 3; have hnb85 := NB364_336.out; have hnc85 := NB336_364.out; have hcz86_0 := zc BK364.out 0; have hcz86_1 := zc BK364.out 1; have hcz86_2 := zc BK364.out 2; have hcz86_3 := zc BK364.out 3; have hfz86_0 := blk_frozen BK364.out 0; have hfz86_1 := blk_frozen BK364.out 1; have hfz86_2 := blk_frozen BK364.out 2; have hfz86_3 := blk_frozen BK364.out 3))
                      go_meet
                      case rel => exact ⟨_, (true), (zr), H', ⟨by have := HK1.out; have := HJ14.out; have := HK3.out; have := HJ32.out; have := HK5.out; have := HJ38.out; have := HJ48.out; have := HJ64.out; first | omega | exact Nat.le_refl _⟩, ⟨by (with_reducible repeat (first | apply Kd.R_alloc | apply Kd.R_drewN | apply Kd.R_drew)); exact HO_3.out⟩, ⟨by (with_reducible repeat (first | apply Kd.S_alloc | apply Kd.S_drewN | apply Kd.S_drew)); exact HO_5.out⟩, ⟨by (with_reducible repeat (first | apply Kd.R_alloc | apply Kd.R_drewN | apply Kd.R_drew)); exact HO_7.out⟩, ⟨zb BK336.out⟩, ⟨zb BK363.out⟩, ⟨zb BK364.out⟩, ⟨zw3 HB.out GE336.out GE363.out GE364.out⟩⟩
                     rw [if_neg c81] at H
                     have c81b0 : (!(t357 == x365000_64) || (!(t358 == x365001_64) || (!(t359 == x365002_64) || (!(t360 == x365003_64))))) = false := by simpa using c81
                     clear c81
                     have H' := Aside0.mk H
                     clear H
                     go_wp2_with (first | ((with_reducible refine gate_callee (f := 35) rfl ?_); refine zgo (some 122) Try.func35 #[.int .i64 t362] ?_; (with_reducible refine (cellarlaw9_num.calls t362 t374 _ A79.out).mono ?_); rintro e w' ⟨rfl, ⟨nd, rfl⟩⟩; refine ⟨_, rfl, ?_⟩; have hnb87 := NB363_336.out; have hnc87 := NB336_363.out; have hnb88 := NB363_364.out; have hnc88 := NB364_363.out; have hcz89_0 := zc BK363.out 0; have hcz89_1 := zc BK363.out 1; have hcz89_2 := zc BK363.out 2; have hcz89_3 := zc BK363.out 3; have hfz89_0 := blk_frozen BK363.out 0; have hfz89_1 := blk_frozen BK363.out 1; have hfz89_2 := blk_frozen BK363.out 2; have hfz89_3 := blk_frozen BK363.out 3; have hnb90 := NB364_336.out; have hnc90 := NB336_364.out; have hcz91_0 := zc BK364.out 0; have hcz91_1 := zc BK364.out 1; have hcz91_2 := zc BK364.out 2; have hcz91_3 := zc BK364.out 3; have hfz91_0 := blk_frozen BK364.out 0; have hfz91_1 := blk_frozen BK364.out 1; have hfz91_2 := blk_frozen BK364.out 2; have hfz91_3 := blk_frozen BK364.out 3))
                     go_meet
                     case rel => exact ⟨_, ((t361 != x16_64)), (zr), H', ⟨by have := HK1.out; have := HJ14.out; have := HK3.out; have := HJ32.out; have := HK5.out; have := HJ38.out; have := HJ48.out; have := HJ64.out; first | omega | exact Nat.le_refl _⟩, ⟨by (with_reducible repeat (first | apply Kd.R_alloc | apply Kd.R_drewN | apply Kd.R_drew)); exact HO_3.out⟩, ⟨by (with_reducible repeat (first | apply Kd.S_alloc | apply Kd.S_drewN | apply Kd.S_drew)); exact HO_5.out⟩, ⟨by (with_reducible repeat (first | apply Kd.R_alloc | apply Kd.R_drewN | apply Kd.R_drew)); exact HO_7.out⟩, ⟨zb BK336.out⟩, ⟨zb BK363.out⟩, ⟨zb BK364.out⟩, ⟨zw3 HB.out GE336.out GE363.out GE364.out⟩⟩
                    case rest => as_aux_lemma =>
                     clear HC78
                     try clear c2; try clear p2; try clear c3; try clear p3; try clear q3; try clear c4; try clear c6; try clear c7; try clear c8; try clear c9; try clear c29; try clear c32; try clear c32b0; try clear c34; try clear p34; try clear q34; try clear c35; try clear p35; try clear q35; try clear c36; try clear c36b0; try clear p36; try clear q36; try clear c40; try clear c40b0; try clear c43; try clear c44; try clear c44b0; try clear c45; try clear c45b0; try clear c46; try clear c46b0; try clear c47; try clear c47b0; try clear c60; try clear c61; try clear c63; try clear c66; try clear c67; try clear c67b0; try clear c68; try clear c68b0; try clear c69; try clear c69b0; try clear c70; try clear c70b0; try clear c80; try clear c80b0; try clear c80b1; try clear c81; try clear c81b0; try clear c82; try clear c83; try clear c85; try clear c87; try clear c88; try clear c90; try clear p2; try clear p3; try clear p34; try clear p344; try clear p348; try clear p35; try clear p353; try clear p355; try clear p356; try clear p36; try clear p365; try clear p367; try clear p368; try clear q3; try clear q34; try clear q344; try clear q348; try clear q35; try clear q353; try clear q355; try clear q356; try clear q36; try clear q365; try clear q367; try clear q368
                     obtain ⟨kq, x134_77, rfl, HA, HJ77, HO_3, HO_5, HO_7, BK336, BK363, BK364, HB⟩ := hcut
                     cases kq with
                     | zero => exact absurd HA.out (by simp [cellarlaw9_MemMoves.j8])
                     | succ kj77 =>
                      have H := HA.out
                      clear HA
                      simp only [cellarlaw9_MemMoves.j8] at H
                      by_cases c92 : x134_77 = true
                      ·subst c92
                       have H1 : (some false) = some r := by rw [if_pos rfl] at H; exact H
                       clear H
                       have H := H1
                       clear H1
                       obtain rfl := Option.some.inj H
                       go_wp2
                       go_ret
                       exact ⟨ze, zw3 HB.out GE336.out GE363.out GE364.out⟩
                      replace c92 := Bool.eq_false_iff.mpr c92
                      subst c92
                      have H1 : (cellarlaw9_MemMoves.l2 kj77 y341 x4_1 t345 t349 t350 x8_3 x9_32 (wrap64 (x10_5 + 1)) l0_0 l0_1 l0_2 l0_3) = some r := by rw [if_neg (show ¬ (false = true) by decide)] at H; exact H
                      clear H
                      have H := H1
                      clear H1
                      have H' := Aside0.mk H
                      clear H
                      go_wp2
                      go_roundg kj77
                      case measure => have := HK1.out; have := HJ14.out; have := HK3.out; have := HJ32.out; have := HK5.out; have := HJ38.out; have := HJ48.out; have := HJ64.out; have := HJ77.out; omega
                      case rel => exact ⟨(wrap64 (x10_5 + 1)), (zr), H', ⟨by have := HK1.out; have := HJ14.out; have := HK3.out; have := HJ32.out; have := HK5.out; have := HJ38.out; have := HJ48.out; have := HJ64.out; have := HJ77.out; omega⟩, ⟨by (with_reducible repeat (first | apply Kd.R_alloc | apply Kd.R_drewN | apply Kd.R_drew)); exact HO_3.out⟩, ⟨by (with_reducible repeat (first | apply Kd.S_alloc | apply Kd.S_drewN | apply Kd.S_drew)); exact HO_5.out⟩, ⟨by (with_reducible repeat (first | apply Kd.R_alloc | apply Kd.R_drewN | apply Kd.R_drew)); exact Kd.R_mono HO_7.out (fun _ hk => trivial)⟩, ⟨zb BK336.out⟩, ⟨zw3 HB.out GE336.out GE363.out GE364.out⟩⟩
               replace c43 := Bool.eq_false_iff.mpr c43
               subst c43
               have H1 : (cellarlaw9_MemMoves.l3 kj38 y341 x4_1 t345 t349 t350 x8_3 x9_32 0 l0_0 l0_1 l0_2 l0_3) = some r := by rw [if_neg (show ¬ (false = true) by decide)] at H; exact H
               clear H
               have H := H1
               clear H1
               have H' := Aside0.mk H
               clear H
               go_wp2
               go_loopg [17] kj38 (fun kq v17 w' => ∃ (x17_7 : Int), v17 = .int .i64 x17_7 ∧ Aside0 (cellarlaw9_MemMoves.l3 kq y341 x4_1 t345 t349 t350 x8_3 x9_32 x17_7 l0_0 l0_1 l0_2 l0_3 = some r) ∧ Aside0 (kq ≤ kj38) ∧ Aside0 (Kd.R (Kd.int .i64) 3 w' w.heap.size (fun _ => True) v342 y341) ∧ Aside0 (Kd.S k76 76 w' w.heap.size (fun _ => True) (.slice Ao30 t345.length co30) t345) ∧ Aside0 (Kd.R k62 62 w' w.heap.size (fun _ => True) (.slice Ao34 t350.length co34) t350) ∧ Aside0 (w'.heap[gb336]? = some (.cells #[(.slice (some ad344) l0_0.length c0_0), (.slice A0_1 l0_1.length c0_1), (.slice A0_2 l0_2.length c0_2), (.slice A0_3 l0_3.length c0_3)] 54 (0, 0))) ∧ Aside0 (Below w.heap.size w w'))
               case atStart => exact ⟨(0), (zr), H', ⟨Nat.le_refl _⟩, ⟨by (with_reducible repeat (first | apply Kd.R_alloc | apply Kd.R_drewN | apply Kd.R_drew)); exact HO_3.out⟩, ⟨by (with_reducible repeat (first | apply Kd.S_alloc | apply Kd.S_drewN | apply Kd.S_drew)); exact HO_5.out⟩, ⟨by (with_reducible repeat (first | apply Kd.R_alloc | apply Kd.R_drewN | apply Kd.R_drew)); exact HO_7.out⟩, ⟨zb BK336.out⟩, ⟨zw1 HB.out GE336.out⟩⟩
               case round => as_aux_lemma =>
                clear H'
                try clear c2; try clear p2; try clear c3; try clear p3; try clear q3; try clear c4; try clear c6; try clear p6; try clear c7; try clear c8; try clear c9; try clear c29; try clear c32; try clear c32b0; try clear c34; try clear p34; try clear q34; try clear c35; try clear p35; try clear q35; try clear c36; try clear c36b0; try clear p36; try clear q36; try clear c40; try clear c40b0; try clear c43; try clear c44; try clear c44b0; try clear c45; try clear c45b0; try clear c46; try clear c46b0; try clear c47; try clear c47b0; try clear c60; try clear c61; try clear c63; try clear p64; try clear c66; try clear c67; try clear c67b0; try clear c68; try clear c68b0; try clear c69; try clear c69b0; try clear c70; try clear c70b0; try clear c80; try clear c80b0; try clear c80b1; try clear c81; try clear c81b0; try clear c82; try clear c83; try clear c85; try clear c87; try clear c88; try clear c90; try clear c92; try clear p2; try clear p3; try clear p34; try clear p344; try clear p348; try clear p35; try clear p353; try clear p355; try clear p356; try clear p36; try clear p365; try clear p367; try clear p368; try clear q3; try clear q34; try clear q344; try clear q348; try clear q35; try clear q353; try clear q355; try clear q356; try clear q36; try clear q365; try clear q367; try clear q368
                obtain ⟨x17_7, rfl, HA, HK7, HO_3, HO_5, HO_7, BK336, HB⟩ := hrel
                cases gk with
                | zero => exact absurd HA.out (by simp [cellarlaw9_MemMoves.l3])
                | succ k7 =>
                 have H := HA.out
                 clear HA
                 simp only [cellarlaw9_MemMoves.l3] at H
                 by_cases c93 : x17_7 < (t350.length : Int)
                 rotate_left
                 ·rw [if_neg c93] at H
                  have c93b0 : decide (x17_7 < (t350.length : Int)) = false := decide_eq_false c93
                  clear c93
                  have H' := Aside0.mk H
                  clear H
                  go_wp2
                  go_roundg k7
                  case measure => have := HK1.out; have := HJ14.out; have := HK3.out; have := HJ32.out; have := HK5.out; have := HJ38.out; have := HK7.out; omega
                  case rel => exact ⟨(wrap64 (x8_3 + 1)), (zr), H', ⟨by have := HK1.out; have := HJ14.out; have := HK3.out; have := HJ32.out; have := HK5.out; have := HJ38.out; have := HK7.out; omega⟩, ⟨by (with_reducible repeat (first | apply Kd.R_alloc | apply Kd.R_drewN | apply Kd.R_drew)); exact HO_3.out⟩, ⟨by (with_reducible repeat (first | apply Kd.S_alloc | apply Kd.S_drewN | apply Kd.S_drew)); exact HO_5.out⟩, ⟨by (with_reducible repeat (first | apply Kd.R_alloc | apply Kd.R_drewN | apply Kd.R_drew)); exact HO_7.out⟩, ⟨zb BK336.out⟩, ⟨zw1 HB.out GE336.out⟩⟩
                 rw [if_pos c93] at H
                 have c93b0 : decide (x17_7 < (t350.length : Int)) = true := decide_eq_true c93
                 clear c93
                 by_cases c94 : 0 ≤ x8_3
                 rotate_left
                 ·rw [if_neg c94] at H
                  exact absurd H (by simp)
                 rw [if_pos c94] at H
                 have c94b0 : decide (0 ≤ x8_3) = true := decide_eq_true c94
                 clear c94
                 by_cases c95 : x8_3 < (t350.length : Int)
                 rotate_left
                 ·rw [if_neg c95] at H
                  exact absurd H (by simp)
                 rw [if_pos c95] at H
                 have c95b0 : decide (x8_3 < (t350.length : Int)) = true := decide_eq_true c95
                 clear c95
                 by_cases c96 : 0 ≤ x17_7
                 rotate_left
                 ·rw [if_neg c96] at H
                  exact absurd H (by simp)
                 rw [if_pos c96] at H
                 have c96b0 : decide (0 ≤ x17_7) = true := decide_eq_true c96
                 clear c96
                 replace H := Option.bind_eq_some_iff.mp H
                 obtain ⟨⟨t377, t378, t379⟩, A970, H⟩ := H
                 replace H : ((mem_Same.f k7 ((rd_T62 t350 x8_3).f0) ((rd_T62 t350 x8_3).f1) ((rd_T62 t350 x8_3).f2) ((rd_T62 t350 x8_3).f3) ((rd_T62 t350 x17_7).f0) ((rd_T62 t350 x17_7).f1) ((rd_T62 t350 x17_7).f2) ((rd_T62 t350 x17_7).f3)).bind fun bt382 => (if x9_32 = true then ((cellarref7_Pointer.f k7 t345 ((rd_T62 t350 x17_7).f0) ((rd_T62 t350 x17_7).f1) ((rd_T62 t350 x17_7).f2) ((rd_T62 t350 x17_7).f3)).bind fun t385 => (cellarlaw9_MemMoves.j10 k7 y341 x4_1 t345 t349 t350 x8_3 x9_32 x17_7 t377 t378 t379 bt382.1 bt382.2 1 1 0 0 0 t385 l0_0 l0_1 l0_2 l0_3)) else (cellarlaw9_MemMoves.j10 k7 y341 x4_1 t345 t349 t350 x8_3 x9_32 x17_7 t377 t378 t379 bt382.1 bt382.2 1 1 0 0 0 false l0_0 l0_1 l0_2 l0_3))) = some r := H
                 have A97 := Aside0.mk A970
                 clear A970
                 replace H := Option.bind_eq_some_iff.mp H
                 obtain ⟨⟨t382, t383⟩, A980, H⟩ := H
                 replace H : (if x9_32 = true then ((cellarref7_Pointer.f k7 t345 ((rd_T62 t350 x17_7).f0) ((rd_T62 t350 x17_7).f1) ((rd_T62 t350 x17_7).f2) ((rd_T62 t350 x17_7).f3)).bind fun t385 => (cellarlaw9_MemMoves.j10 k7 y341 x4_1 t345 t349 t350 x8_3 x9_32 x17_7 t377 t378 t379 t382 t383 1 1 0 0 0 t385 l0_0 l0_1 l0_2 l0_3)) else (cellarlaw9_MemMoves.j10 k7 y341 x4_1 t345 t349 t350 x8_3 x9_32 x17_7 t377 t378 t379 t382 t383 1 1 0 0 0 false l0_0 l0_1 l0_2 l0_3)) = some r := H
                 have A98 := Aside0.mk A980
                 clear A980
                 have HC99 := Aside0.mk H
                 clear H
                 try go_wp2
                 have n0_ := Aside0.mk (Kd.R_drew HO_3.out)
                 have n1_ := Aside0.mk (Kd.S_drew HO_5.out)
                 have n2_ := Aside0.mk (Kd.R_drew HO_7.out)
                 have n3_ := Aside0.mk (blk_drew BK336.out)
                 have n4_ := Aside0.mk (below_drew1 HB.out)
                 clear HO_3
                 clear HO_5
                 clear HO_7
                 clear BK336
                 clear HB
                 have HO_3 := n0_
                 have HO_5 := n1_
                 have HO_7 := n2_
                 have BK336 := n3_
                 have HB := n4_
                 clear n0_ n1_ n2_ n3_ n4_
                 have p375 : 0 ≤ (x8_3 : Int) := zdec
                 have q375 : x8_3 < (t350.length : Int) := zdec
                 obtain ⟨ad375, e375, hx375_0, hx375_1, hx375_2, hx375_3⟩ := at_T62 (Kd.R_reads' HO_7.out).2.2 x8_3 p375 q375
                 cases e375
                 replace p375 := eq_true p375
                 replace q375 := eq_true q375
                 have p376 : 0 ≤ (x17_7 : Int) := zdec
                 have q376 : x17_7 < (t350.length : Int) := zdec
                 obtain ⟨ad376, e376, hx376_0, hx376_1, hx376_2, hx376_3⟩ := at_T62 (Kd.R_reads' HO_7.out).2.2 x17_7 p376 q376
                 obtain rfl : ad375 = ad376 := (by injection e376)
                 replace p376 := eq_true p376
                 replace q376 := eq_true q376
                 refine start_ (n := 17) (S := fun w' => w'.cell? (ad375.add ((x8_3).toNat * 4)) = some (.bool ((rd_T62 t350 x8_3).f0)) ∧ w'.cell? ⟨(ad375.add ((x8_3).toNat * 4)).block, (ad375.add ((x8_3).toNat * 4)).off + 1, none⟩ = some (.int .i64 ((rd_T62 t350 x8_3).f1)) ∧ w'.cell? ⟨(ad375.add ((x8_3).toNat * 4)).block, (ad375.add ((x8_3).toNat * 4)).off + 2, none⟩ = some (.int .i64 ((rd_T62 t350 x8_3).f2)) ∧ w'.cell? ⟨(ad375.add ((x8_3).toNat * 4)).block, (ad375.add ((x8_3).toNat * 4)).off + 3, none⟩ = some (.int .i64 ((rd_T62 t350 x8_3).f3)) ∧ w'.cell? (ad375.add ((x17_7).toNat * 4)) = some (.bool ((rd_T62 t350 x17_7).f0)) ∧ w'.cell? ⟨(ad375.add ((x17_7).toNat * 4)).block, (ad375.add ((x17_7).toNat * 4)).off + 1, none⟩ = some (.int .i64 ((rd_T62 t350 x17_7).f1)) ∧ w'.cell? ⟨(ad375.add ((x17_7).toNat * 4)).block, (ad375.add ((x17_7).toNat * 4)).off + 2, none⟩ = some (.int .i64 ((rd_T62 t350 x17_7).f2)) ∧ w'.cell? ⟨(ad375.add ((x17_7).toNat * 4)).block, (ad375.add ((x17_7).toNat * 4)).off + 3, none⟩ = some (.int .i64 ((rd_T62 t350 x17_7).f3))) (ds := []) cellarlaw9_MemMoves.b40 (by kernel_rfl) rfl rfl ⟨hx375_0, hx375_1, hx375_2, hx375_3, hx376_0, hx376_1, hx376_2, hx376_3⟩ (fun hHeld => ?_); refine with_tabW cellarlaw9_MemMoves.tab27 cellarlaw9_MemMoves.bits27 (fun HT_ HW_ => ?_)
                 generalize wr.drew = w100 at HO_3 HO_5 HO_7 BK336 HB hx375_0 hx375_1 hx375_2 hx375_3 hx376_0 hx376_1 hx376_2 hx376_3 hHeld ⊢
                 refine zq 0 (some 142) HT_ ?_; refine zq 1 (some 143) HT_ ?_; refine zq 2 (some 144) HT_ ?_; refine zq 3 (some 145) HT_ ?_; refine zq 5 (some 147) HT_ ?_; refine zq 6 (some 148) HT_ ?_; refine zq 7 (some 149) HT_ ?_; refine zt 4 (some 146) HT_ HW_ hHeld ?_; refine zt 8 (some 150) HT_ HW_ hHeld ?_
                 refine one_ (i := 9) (N := some 151) cellarlaw9_MemMoves.b50 rfl rfl (one_of HT_.out (by kernel_rfl)) (by decide) (fun K hK => ?_)
                 refine goes_ Try.func45 (by kernel_rfl) rfl #[.slice Ao30 t345.length co30, .agg #[.bool ((rd_T62 t350 x8_3).f0), .int .i64 ((rd_T62 t350 x8_3).f1), .int .i64 ((rd_T62 t350 x8_3).f2), .int .i64 ((rd_T62 t350 x8_3).f3)], .agg #[.bool ((rd_T62 t350 x17_7).f0), .int .i64 ((rd_T62 t350 x17_7).f1), .int .i64 ((rd_T62 t350 x17_7).f2), .int .i64 ((rd_T62 t350 x17_7).f3)]] (by rfl) rfl rfl (by (try simp only [List.map_toArray, List.map_cons, List.map_nil]); first | done | rfl | (simp only [List.length_drop, List.length_take]; rfl)) ?_
                 with_reducible refine (mem_Apart.calls _ _ t345 ((rd_T62 t350 x8_3).f0) ((rd_T62 t350 x8_3).f1) ((rd_T62 t350 x8_3).f2) ((rd_T62 t350 x8_3).f3) ((rd_T62 t350 x17_7).f0) ((rd_T62 t350 x17_7).f1) ((rd_T62 t350 x17_7).f2) ((rd_T62 t350 x17_7).f3) t377 t378 t379 _ ?side1 ?side2 A97.out).mono ?_
                 (case side1 => repeat (first | exact (Kd.S_reads' HO_5.out).2.2 | (with_reducible refine Kd.C_alloc ?_ _) | (with_reducible refine Kd.C_drewN ?_ _) | (with_reducible refine Kd.C_drew ?_)))
                 (case side2 => exact (Kd.S_reads' HO_5.out).2.1)
                 rintro e w101 ⟨rfl, hb⟩
                 have HS0_ := (hb.cell (World.block_lt_of_cell? _ _ (hHeld.1))).trans (hHeld.1)
                 have HS1_ := (hb.cell (World.block_lt_of_cell? _ _ (hHeld.2.1))).trans (hHeld.2.1)
                 have HS2_ := (hb.cell (World.block_lt_of_cell? _ _ (hHeld.2.2.1))).trans (hHeld.2.2.1)
                 have HS3_ := (hb.cell (World.block_lt_of_cell? _ _ (hHeld.2.2.2.1))).trans (hHeld.2.2.2.1)
                 have HS4_ := (hb.cell (World.block_lt_of_cell? _ _ (hHeld.2.2.2.2.1))).trans (hHeld.2.2.2.2.1)
                 have HS5_ := (hb.cell (World.block_lt_of_cell? _ _ (hHeld.2.2.2.2.2.1))).trans (hHeld.2.2.2.2.2.1)
                 have HS6_ := (hb.cell (World.block_lt_of_cell? _ _ (hHeld.2.2.2.2.2.2.1))).trans (hHeld.2.2.2.2.2.2.1)
                 have HS7_ := (hb.cell (World.block_lt_of_cell? _ _ (hHeld.2.2.2.2.2.2.2))).trans (hHeld.2.2.2.2.2.2.2)
                 refine ⟨_, rfl, ?_⟩
                 have n0_ := Aside0.mk (Kd.R_below (by (with_reducible repeat (first | apply Kd.R_alloc | apply Kd.R_drewN | apply Kd.R_drew)); exact HO_3.out) hb)
                 have n1_ := Aside0.mk (Kd.S_below (by (with_reducible repeat (first | apply Kd.S_alloc | apply Kd.S_drewN | apply Kd.S_drew)); exact HO_5.out) hb)
                 have n2_ := Aside0.mk (Kd.R_below (by (with_reducible repeat (first | apply Kd.R_alloc | apply Kd.R_drewN | apply Kd.R_drew)); exact HO_7.out) hb)
                 have n3_ := Aside0.mk (zbb BK336.out hb)
                 have n4_ := Aside0.mk (below_step (zw1 HB.out GE336.out) hb)
                 clear HO_3
                 clear HO_5
                 clear HO_7
                 clear BK336
                 clear HB
                 have HO_3 := n0_
                 have HO_5 := n1_
                 have HO_7 := n2_
                 have BK336 := n3_
                 have HB := n4_
                 clear n0_ n1_ n2_ n3_ n4_
                 (try clear hb)
                 (try clear hb2)
                 (try clear hk)
                 (try clear hi)
                 refine hK.out _ _ ⟨HS0_, HS1_, HS2_, HS3_, HS4_, HS5_, HS6_, HS7_⟩ (fun hHeld => ?_)
                 clear hK K
                 refine norm_ (a' := ?_) ?_ ?_
                 rotate_left
                 ·show Act.put _ (some 151) _ = _
                  simp only [Act.put, List.setIfInBounds_toArray, List.set_cons_zero, List.set_cons_succ, i64_w, i32_w]
                  rfl
                 refine zq 10 (some 141) HT_ ?_; refine zq 11 (some 152) HT_ ?_; refine zq 12 (some 153) HT_ ?_; refine zq 13 (some 154) HT_ ?_; refine zq 14 (some 18) HT_ ?_; refine zq 15 (some 19) HT_ ?_; refine zq 16 (some 20) HT_ ?_
                 refine done_ (done_of HT_.out (by kernel_rfl)) ?_
                 try go_wp2
                 have n0_ := Aside0.mk (Kd.R_drew HO_3.out)
                 have n1_ := Aside0.mk (Kd.S_drew HO_5.out)
                 have n2_ := Aside0.mk (Kd.R_drew HO_7.out)
                 have n3_ := Aside0.mk (blk_drew BK336.out)
                 have n4_ := Aside0.mk (below_drew1 HB.out)
                 clear HO_3
                 clear HO_5
                 clear HO_7
                 clear BK336
                 clear HB
                 have HO_3 := n0_
                 have HO_5 := n1_
                 have HO_7 := n2_
                 have BK336 := n3_
                 have HB := n4_
                 clear n0_ n1_ n2_ n3_ n4_
                 have p380 : 0 ≤ (x8_3 : Int) := zdec
                 have q380 : x8_3 < (t350.length : Int) := zdec
                 obtain ⟨ad380, e380, hx380_0, hx380_1, hx380_2, hx380_3⟩ := at_T62 (Kd.R_reads' HO_7.out).2.2 x8_3 p380 q380
                 obtain rfl : ad375 = ad380 := (by injection e380)
                 replace p380 := eq_true p380
                 replace q380 := eq_true q380
                 have p381 : 0 ≤ (x17_7 : Int) := zdec
                 have q381 : x17_7 < (t350.length : Int) := zdec
                 obtain ⟨ad381, e381, hx381_0, hx381_1, hx381_2, hx381_3⟩ := at_T62 (Kd.R_reads' HO_7.out).2.2 x17_7 p381 q381
                 obtain rfl : ad375 = ad381 := (by injection e381)
                 replace p381 := eq_true p381
                 replace q381 := eq_true q381
                 refine start_ (n := 14) (S := fun w' => w'.cell? (ad375.add ((x8_3).toNat * 4)) = some (.bool ((rd_T62 t350 x8_3).f0)) ∧ w'.cell? ⟨(ad375.add ((x8_3).toNat * 4)).block, (ad375.add ((x8_3).toNat * 4)).off + 1, none⟩ = some (.int .i64 ((rd_T62 t350 x8_3).f1)) ∧ w'.cell? ⟨(ad375.add ((x8_3).toNat * 4)).block, (ad375.add ((x8_3).toNat * 4)).off + 2, none⟩ = some (.int .i64 ((rd_T62 t350 x8_3).f2)) ∧ w'.cell? ⟨(ad375.add ((x8_3).toNat * 4)).block, (ad375.add ((x8_3).toNat * 4)).off + 3, none⟩ = some (.int .i64 ((rd_T62 t350 x8_3).f3)) ∧ w'.cell? (ad375.add ((x17_7).toNat * 4)) = some (.bool ((rd_T62 t350 x17_7).f0)) ∧ w'.cell? ⟨(ad375.add ((x17_7).toNat * 4)).block, (ad375.add ((x17_7).toNat * 4)).off + 1, none⟩ = some (.int .i64 ((rd_T62 t350 x17_7).f1)) ∧ w'.cell? ⟨(ad375.add ((x17_7).toNat * 4)).block, (ad375.add ((x17_7).toNat * 4)).off + 2, none⟩ = some (.int .i64 ((rd_T62 t350 x17_7).f2)) ∧ w'.cell? ⟨(ad375.add ((x17_7).toNat * 4)).block, (ad375.add ((x17_7).toNat * 4)).off + 3, none⟩ = some (.int .i64 ((rd_T62 t350 x17_7).f3))) (ds := []) cellarlaw9_MemMoves.b58 (by kernel_rfl) rfl rfl ⟨hx380_0, hx380_1, hx380_2, hx380_3, hx381_0, hx381_1, hx381_2, hx381_3⟩ (fun hHeld => ?_); refine with_tabW cellarlaw9_MemMoves.tab28 cellarlaw9_MemMoves.bits28 (fun HT_ HW_ => ?_)
                 generalize w101.drew = w102 at HO_3 HO_5 HO_7 BK336 HB hx380_0 hx380_1 hx380_2 hx380_3 hx381_0 hx381_1 hx381_2 hx381_3 hHeld ⊢
                 refine zq 0 (some 156) HT_ ?_; refine zq 1 (some 157) HT_ ?_; refine zq 2 (some 158) HT_ ?_; refine zq 4 (some 160) HT_ ?_; refine zq 5 (some 161) HT_ ?_; refine zq 6 (some 162) HT_ ?_; refine zt 3 (some 159) HT_ HW_ hHeld ?_; refine zt 7 (some 163) HT_ HW_ hHeld ?_
                 refine one_ (i := 8) (N := some 164) cellarlaw9_MemMoves.b67 rfl rfl (one_of HT_.out (by kernel_rfl)) (by decide) (fun K hK => ?_)
                 refine goes_ Try.func48 (by kernel_rfl) rfl #[.agg #[.bool ((rd_T62 t350 x8_3).f0), .int .i64 ((rd_T62 t350 x8_3).f1), .int .i64 ((rd_T62 t350 x8_3).f2), .int .i64 ((rd_T62 t350 x8_3).f3)], .agg #[.bool ((rd_T62 t350 x17_7).f0), .int .i64 ((rd_T62 t350 x17_7).f1), .int .i64 ((rd_T62 t350 x17_7).f2), .int .i64 ((rd_T62 t350 x17_7).f3)]] (by rfl) rfl rfl (by (try simp only [List.map_toArray, List.map_cons, List.map_nil]); first | done | rfl | (simp only [List.length_drop, List.length_take]; rfl)) ?_
                 with_reducible refine (mem_Same.calls k7 ((rd_T62 t350 x8_3).f0) ((rd_T62 t350 x8_3).f1) ((rd_T62 t350 x8_3).f2) ((rd_T62 t350 x8_3).f3) ((rd_T62 t350 x17_7).f0) ((rd_T62 t350 x17_7).f1) ((rd_T62 t350 x17_7).f2) ((rd_T62 t350 x17_7).f3) t382 t383 _ A98.out).mono ?_
                 rintro e w103 ⟨rfl, hb⟩
                 have HS0_ := (hb.cell (World.block_lt_of_cell? _ _ (hHeld.1))).trans (hHeld.1)
                 have HS1_ := (hb.cell (World.block_lt_of_cell? _ _ (hHeld.2.1))).trans (hHeld.2.1)
                 have HS2_ := (hb.cell (World.block_lt_of_cell? _ _ (hHeld.2.2.1))).trans (hHeld.2.2.1)
                 have HS3_ := (hb.cell (World.block_lt_of_cell? _ _ (hHeld.2.2.2.1))).trans (hHeld.2.2.2.1)
                 have HS4_ := (hb.cell (World.block_lt_of_cell? _ _ (hHeld.2.2.2.2.1))).trans (hHeld.2.2.2.2.1)
                 have HS5_ := (hb.cell (World.block_lt_of_cell? _ _ (hHeld.2.2.2.2.2.1))).trans (hHeld.2.2.2.2.2.1)
                 have HS6_ := (hb.cell (World.block_lt_of_cell? _ _ (hHeld.2.2.2.2.2.2.1))).trans (hHeld.2.2.2.2.2.2.1)
                 have HS7_ := (hb.cell (World.block_lt_of_cell? _ _ (hHeld.2.2.2.2.2.2.2))).trans (hHeld.2.2.2.2.2.2.2)
                 refine ⟨_, rfl, ?_⟩
                 have n0_ := Aside0.mk (Kd.R_below (by (with_reducible repeat (first | apply Kd.R_alloc | apply Kd.R_drewN | apply Kd.R_drew)); exact HO_3.out) hb)
                 have n1_ := Aside0.mk (Kd.S_below (by (with_reducible repeat (first | apply Kd.S_alloc | apply Kd.S_drewN | apply Kd.S_drew)); exact HO_5.out) hb)
                 have n2_ := Aside0.mk (Kd.R_below (by (with_reducible repeat (first | apply Kd.R_alloc | apply Kd.R_drewN | apply Kd.R_drew)); exact HO_7.out) hb)
                 have n3_ := Aside0.mk (zbb BK336.out hb)
                 have n4_ := Aside0.mk (below_step (zw1 HB.out GE336.out) hb)
                 clear HO_3
                 clear HO_5
                 clear HO_7
                 clear BK336
                 clear HB
                 have HO_3 := n0_
                 have HO_5 := n1_
                 have HO_7 := n2_
                 have BK336 := n3_
                 have HB := n4_
                 clear n0_ n1_ n2_ n3_ n4_
                 (try clear hb)
                 (try clear hb2)
                 (try clear hk)
                 (try clear hi)
                 refine hK.out _ _ ⟨HS0_, HS1_, HS2_, HS3_, HS4_, HS5_, HS6_, HS7_⟩ (fun hHeld => ?_)
                 clear hK K
                 refine norm_ (a' := ?_) ?_ ?_
                 rotate_left
                 ·show Act.put _ (some 164) _ = _
                  simp only [Act.put, List.setIfInBounds_toArray, List.set_cons_zero, List.set_cons_succ, i64_w, i32_w]
                  rfl
                 refine zq 9 (some 155) HT_ ?_; refine zq 10 (some 165) HT_ ?_; refine zq 11 (some 166) HT_ ?_; refine zq 12 (some 21) HT_ ?_; refine zq 13 (some 22) HT_ ?_
                 refine done_ (done_of HT_.out (by kernel_rfl)) ?_
                 go_upto_region 30 with (fail)
                 go_cut [175] (fun v175 wc => ∃ (kq : Nat) (x175_98 : Bool), v175 = .bool x175_98 ∧ Aside0 (cellarlaw9_MemMoves.j10 kq y341 x4_1 t345 t349 t350 x8_3 x9_32 x17_7 t377 t378 t379 t382 t383 1 1 0 0 0 x175_98 l0_0 l0_1 l0_2 l0_3 = some r) ∧ Aside0 (kq ≤ k7) ∧ Aside0 (Kd.R (Kd.int .i64) 3 wc w.heap.size (fun _ => True) v342 y341) ∧ Aside0 (Kd.S k76 76 wc w.heap.size (fun _ => True) (.slice Ao30 t345.length co30) t345) ∧ Aside0 (Kd.R k62 62 wc w.heap.size (fun _ => True) (.slice (some ad375) t350.length co34) t350) ∧ Aside0 (wc.heap[gb336]? = some (.cells #[(.slice (some ad344) l0_0.length c0_0), (.slice A0_1 l0_1.length c0_1), (.slice A0_2 l0_2.length c0_2), (.slice A0_3 l0_3.length c0_3)] 54 (0, 0))) ∧ Aside0 (Below w.heap.size w wc))
                 case first =>
                  have H := HC99.out
                  clear HC99
                  by_cases c104 : x9_32 = true
                  rotate_left
                  ·replace c104 := Bool.eq_false_iff.mpr c104
                   subst c104
                   have H1 : (cellarlaw9_MemMoves.j10 k7 y341 x4_1 t345 t349 t350 x8_3 false x17_7 t377 t378 t379 t382 t383 1 1 0 0 0 false l0_0 l0_1 l0_2 l0_3) = some r := by rw [if_neg (show ¬ (false = true) by decide)] at H; exact H
                   clear H
                   have H := H1
                   clear H1
                   have H' := Aside0.mk H
                   clear H
                   go_wp2
                   go_meet
                   case rel => exact ⟨_, (false), (zr), H', ⟨by have := HK1.out; have := HJ14.out; have := HK3.out; have := HJ32.out; have := HK5.out; have := HJ38.out; have := HK7.out; first | omega | exact Nat.le_refl _⟩, ⟨by (with_reducible repeat (first | apply Kd.R_alloc | apply Kd.R_drewN | apply Kd.R_drew)); exact HO_3.out⟩, ⟨by (with_reducible repeat (first | apply Kd.S_alloc | apply Kd.S_drewN | apply Kd.S_drew)); exact HO_5.out⟩, ⟨by (with_reducible repeat (first | apply Kd.R_alloc | apply Kd.R_drewN | apply Kd.R_drew)); exact HO_7.out⟩, ⟨zb BK336.out⟩, ⟨zw1 HB.out GE336.out⟩⟩
                  subst c104
                  have H1 : ((cellarref7_Pointer.f k7 t345 ((rd_T62 t350 x17_7).f0) ((rd_T62 t350 x17_7).f1) ((rd_T62 t350 x17_7).f2) ((rd_T62 t350 x17_7).f3)).bind fun t385 => (cellarlaw9_MemMoves.j10 k7 y341 x4_1 t345 t349 t350 x8_3 true x17_7 t377 t378 t379 t382 t383 1 1 0 0 0 t385 l0_0 l0_1 l0_2 l0_3)) = some r := by rw [if_pos rfl] at H; exact H
                  clear H
                  have H := H1
                  clear H1
                  replace H := Option.bind_eq_some_iff.mp H
                  obtain ⟨t385, A1050, H⟩ := H
                  replace H : (cellarlaw9_MemMoves.j10 k7 y341 x4_1 t345 t349 t350 x8_3 true x17_7 t377 t378 t379 t382 t383 1 1 0 0 0 t385 l0_0 l0_1 l0_2 l0_3) = some r := H
                  have A105 := Aside0.mk A1050
                  clear A1050
                  have H' := Aside0.mk H
                  clear H
                  have p384 : 0 ≤ (x17_7 : Int) := zdec
                  have q384 : x17_7 < (t350.length : Int) := zdec
                  obtain ⟨ad384, e384, hx384_0, hx384_1, hx384_2, hx384_3⟩ := at_T62 (Kd.R_reads' HO_7.out).2.2 x17_7 p384 q384
                  obtain rfl : ad375 = ad384 := (by injection e384)
                  replace p384 := eq_true p384
                  replace q384 := eq_true q384
                  go_wp2_with (first | (go_at_call 33; (with_reducible refine (cellarref7_Pointer.calls k7 _ _ t345 ((rd_T62 t350 x17_7).f0) ((rd_T62 t350 x17_7).f1) ((rd_T62 t350 x17_7).f2) ((rd_T62 t350 x17_7).f3) t385 _ ?side1 ?side2 A105.out).mono ?_); (case side1 => repeat (first | exact (Kd.S_reads' HO_5.out).2.2 | (with_reducible refine Kd.C_alloc ?_ _) | (with_reducible refine Kd.C_drewN ?_ _) | (with_reducible refine Kd.C_drew ?_))); (case side2 => exact (Kd.S_reads' HO_5.out).2.1); rintro e w106 ⟨rfl, hb⟩; have n0_ := Aside0.mk (Kd.R_below (by (with_reducible repeat (first | apply Kd.R_alloc | apply Kd.R_drewN | apply Kd.R_drew)); exact HO_3.out) hb); have n1_ := Aside0.mk (Kd.S_below (by (with_reducible repeat (first | apply Kd.S_alloc | apply Kd.S_drewN | apply Kd.S_drew)); exact HO_5.out) hb); have n2_ := Aside0.mk (Kd.R_below (by (with_reducible repeat (first | apply Kd.R_alloc | apply Kd.R_drewN | apply Kd.R_drew)); exact HO_7.out) hb); have n3_ := Aside0.mk (zbb BK336.out hb); have n4_ := Aside0.mk (below_step (zw1 HB.out GE336.out) hb); clear HO_3 HO_5 HO_7 BK336 HB; have HO_3 := n0_; have HO_5 := n1_; have HO_7 := n2_; have BK336 := n3_; have HB := n4_; clear n0_ n1_ n2_ n3_ n4_; (try clear hb); (try clear hb2); (try clear hk); (try clear hi)))
                  go_meet
                  case rel => exact ⟨_, (t385), (zr), H', ⟨by have := HK1.out; have := HJ14.out; have := HK3.out; have := HJ32.out; have := HK5.out; have := HJ38.out; have := HK7.out; first | omega | exact Nat.le_refl _⟩, ⟨by (with_reducible repeat (first | apply Kd.R_alloc | apply Kd.R_drewN | apply Kd.R_drew)); exact HO_3.out⟩, ⟨by (with_reducible repeat (first | apply Kd.S_alloc | apply Kd.S_drewN | apply Kd.S_drew)); exact HO_5.out⟩, ⟨by (with_reducible repeat (first | apply Kd.R_alloc | apply Kd.R_drewN | apply Kd.R_drew)); exact HO_7.out⟩, ⟨zb BK336.out⟩, ⟨zw1 HB.out GE336.out⟩⟩
                 case rest => as_aux_lemma =>
                  clear HC99
                  try clear c1; try clear p2; try clear p3; try clear q3; try clear c4; try clear c9; try clear c10; try clear p34; try clear q34; try clear p35; try clear q35; try clear p36; try clear q36; try clear p37; try clear q37; try clear p38; try clear q38; try clear c45; try clear c48; try clear c92; try clear c93; try clear c93b0; try clear c94; try clear c94b0; try clear c95; try clear c95b0; try clear c96; try clear c96b0; try clear c104; try clear p2; try clear p3; try clear p34; try clear p344; try clear p348; try clear p35; try clear p353; try clear p355; try clear p356; try clear p36; try clear p365; try clear p367; try clear p368; try clear p375; try clear p376; try clear p380; try clear p381; try clear p384; try clear q3; try clear q34; try clear q344; try clear q348; try clear q35; try clear q353; try clear q355; try clear q356; try clear q36; try clear q365; try clear q367; try clear q368; try clear q375; try clear q376; try clear q380; try clear q381; try clear q384
                  obtain ⟨kq, x175_98, rfl, HA, HJ98, HO_3, HO_5, HO_7, BK336, HB⟩ := hcut
                  cases kq with
                  | zero => exact absurd HA.out (by simp [cellarlaw9_MemMoves.j10])
                  | succ kj98 =>
                   have H := HA.out
                   clear HA
                   simp only [cellarlaw9_MemMoves.j10] at H
                   have HC107 := Aside0.mk H
                   clear H
                   go_upto_if 175 with (fail)
                   go_cut [23, 25, 26] (fun v23 v25 v26 wc => ∃ (kq : Nat) (x23_106 : Int) (x25_106 : Int) (x26_106 : Int), v23 = .int .i64 x23_106 ∧ v25 = .int .i64 x25_106 ∧ v26 = .int .i64 x26_106 ∧ Aside0 (cellarlaw9_MemMoves.j11 kq y341 x4_1 t345 t349 t350 x8_3 x9_32 x17_7 t377 t378 t379 t382 t383 x23_106 1 x25_106 x26_106 0 l0_0 l0_1 l0_2 l0_3 = some r) ∧ Aside0 (kq ≤ kj98) ∧ Aside0 (Kd.R (Kd.int .i64) 3 wc w.heap.size (fun _ => True) v342 y341) ∧ Aside0 (Kd.S k76 76 wc w.heap.size (fun _ => True) (.slice Ao30 t345.length co30) t345) ∧ Aside0 (Kd.R k62 62 wc w.heap.size (fun _ => True) (.slice (some ad375) t350.length co34) t350) ∧ Aside0 (wc.heap[gb336]? = some (.cells #[(.slice (some ad344) l0_0.length c0_0), (.slice A0_1 l0_1.length c0_1), (.slice A0_2 l0_2.length c0_2), (.slice A0_3 l0_3.length c0_3)] 54 (0, 0))) ∧ Aside0 (Below w.heap.size w wc))
                   case first =>
                    have H := HC107.out
                    clear HC107
                    by_cases c108 : x175_98 = true
                    rotate_left
                    ·replace c108 := Bool.eq_false_iff.mpr c108
                     subst c108
                     have H1 : (cellarlaw9_MemMoves.j11 kj98 y341 x4_1 t345 t349 t350 x8_3 x9_32 x17_7 t377 t378 t379 t382 t383 1 1 0 0 0 l0_0 l0_1 l0_2 l0_3) = some r := by rw [if_neg (show ¬ (false = true) by decide)] at H; exact H
                     clear H
                     have H := H1
                     clear H1
                     have H' := Aside0.mk H
                     clear H
                     go_wp2
                     go_meet
                     case rel => exact ⟨_, (1), (0), (0), (zr), (zr), (zr), H', ⟨by have := HK1.out; have := HJ14.out; have := HK3.out; have := HJ32.out; have := HK5.out; have := HJ38.out; have := HK7.out; have := HJ98.out; first | omega | exact Nat.le_refl _⟩, ⟨by (with_reducible repeat (first | apply Kd.R_alloc | apply Kd.R_drewN | apply Kd.R_drew)); exact HO_3.out⟩, ⟨by (with_reducible repeat (first | apply Kd.S_alloc | apply Kd.S_drewN | apply Kd.S_drew)); exact HO_5.out⟩, ⟨by (with_reducible repeat (first | apply Kd.R_alloc | apply Kd.R_drewN | apply Kd.R_drew)); exact HO_7.out⟩, ⟨zb BK336.out⟩, ⟨zw1 HB.out GE336.out⟩⟩
                    subst c108
                    have H1 : (if 0 ≤ x8_3 then (if x8_3 < (t350.length : Int) then (if 0 ≤ x17_7 then (if x17_7 < (t350.length : Int) then ((cellarref7_Apart.f ((rd_T62 t350 x8_3).f0) ((rd_T62 t350 x8_3).f1) ((rd_T62 t350 x8_3).f2) ((rd_T62 t350 x8_3).f3) ((rd_T62 t350 x17_7).f0) ((rd_T62 t350 x17_7).f1) ((rd_T62 t350 x17_7).f2) ((rd_T62 t350 x17_7).f3)).bind fun bt388 => (cellarlaw9_MemMoves.j11 kj98 y341 x4_1 t345 t349 t350 x8_3 x9_32 x17_7 t377 t378 t379 t382 t383 0 1 bt388.1 bt388.2 0 l0_0 l0_1 l0_2 l0_3)) else (none)) else (none)) else (none)) else (none)) = some r := by rw [if_pos rfl] at H; exact H
                    clear H
                    have H := H1
                    clear H1
                    by_cases c109 : 0 ≤ x8_3
                    rotate_left
                    ·rw [if_neg c109] at H
                     exact absurd H (by simp)
                    rw [if_pos c109] at H
                    have c109b0 : decide (0 ≤ x8_3) = true := decide_eq_true c109
                    clear c109
                    (first | rw [c109b0] | (simp only [i64_w, i32_w]; rw [c109b0]) | skip)
                    by_cases c110 : x8_3 < (t350.length : Int)
                    rotate_left
                    ·rw [if_neg c110] at H
                     exact absurd H (by simp)
                    rw [if_pos c110] at H
                    have c110b0 : decide (x8_3 < (t350.length : Int)) = true := decide_eq_true c110
                    clear c110
                    by_cases c111 : 0 ≤ x17_7
                    rotate_left
                    ·rw [if_neg c111] at H
                     exact absurd H (by simp)
                    rw [if_pos c111] at H
                    have c111b0 : decide (0 ≤ x17_7) = true := decide_eq_true c111
                    clear c111
                    by_cases c112 : x17_7 < (t350.length : Int)
                    rotate_left
                    ·rw [if_neg c112] at H
                     exact absurd H (by simp)
                    rw [if_pos c112] at H
                    have c112b0 : decide (x17_7 < (t350.length : Int)) = true := decide_eq_true c112
                    clear c112
                    replace H := Option.bind_eq_some_iff.mp H
                    obtain ⟨⟨t388, t389⟩, A1130, H⟩ := H
                    replace H : (cellarlaw9_MemMoves.j11 kj98 y341 x4_1 t345 t349 t350 x8_3 x9_32 x17_7 t377 t378 t379 t382 t383 0 1 t388 t389 0 l0_0 l0_1 l0_2 l0_3) = some r := H
                    have A113 := Aside0.mk A1130
                    clear A1130
                    have H' := Aside0.mk H
                    clear H
                    try go_wp2
                    have n0_ := Aside0.mk (Kd.R_drew HO_3.out)
                    have n1_ := Aside0.mk (Kd.S_drew HO_5.out)
                    have n2_ := Aside0.mk (Kd.R_drew HO_7.out)
                    have n3_ := Aside0.mk (blk_drew BK336.out)
                    have n4_ := Aside0.mk (below_drew1 HB.out)
                    clear HO_3
                    clear HO_5
                    clear HO_7
                    clear BK336
                    clear HB
                    have HO_3 := n0_
                    have HO_5 := n1_
                    have HO_7 := n2_
                    have BK336 := n3_
                    have HB := n4_
                    clear n0_ n1_ n2_ n3_ n4_
                    have p386 : 0 ≤ (x8_3 : Int) := zdec
                    have q386 : x8_3 < (t350.length : Int) := zdec
                    obtain ⟨ad386, e386, hx386_0, hx386_1, hx386_2, hx386_3⟩ := at_T62 (Kd.R_reads' HO_7.out).2.2 x8_3 p386 q386
                    obtain rfl : ad375 = ad386 := (by injection e386)
                    replace p386 := eq_true p386
                    replace q386 := eq_true q386
                    have p387 : 0 ≤ (x17_7 : Int) := zdec
                    have q387 : x17_7 < (t350.length : Int) := zdec
                    obtain ⟨ad387, e387, hx387_0, hx387_1, hx387_2, hx387_3⟩ := at_T62 (Kd.R_reads' HO_7.out).2.2 x17_7 p387 q387
                    obtain rfl : ad375 = ad387 := (by injection e387)
                    replace p387 := eq_true p387
                    replace q387 := eq_true q387
                    refine start_ (n := 14) (S := fun w' => w'.cell? (ad375.add ((x8_3).toNat * 4)) = some (.bool ((rd_T62 t350 x8_3).f0)) ∧ w'.cell? ⟨(ad375.add ((x8_3).toNat * 4)).block, (ad375.add ((x8_3).toNat * 4)).off + 1, none⟩ = some (.int .i64 ((rd_T62 t350 x8_3).f1)) ∧ w'.cell? ⟨(ad375.add ((x8_3).toNat * 4)).block, (ad375.add ((x8_3).toNat * 4)).off + 2, none⟩ = some (.int .i64 ((rd_T62 t350 x8_3).f2)) ∧ w'.cell? ⟨(ad375.add ((x8_3).toNat * 4)).block, (ad375.add ((x8_3).toNat * 4)).off + 3, none⟩ = some (.int .i64 ((rd_T62 t350 x8_3).f3)) ∧ w'.cell? (ad375.add ((x17_7).toNat * 4)) = some (.bool ((rd_T62 t350 x17_7).f0)) ∧ w'.cell? ⟨(ad375.add ((x17_7).toNat * 4)).block, (ad375.add ((x17_7).toNat * 4)).off + 1, none⟩ = some (.int .i64 ((rd_T62 t350 x17_7).f1)) ∧ w'.cell? ⟨(ad375.add ((x17_7).toNat * 4)).block, (ad375.add ((x17_7).toNat * 4)).off + 2, none⟩ = some (.int .i64 ((rd_T62 t350 x17_7).f2)) ∧ w'.cell? ⟨(ad375.add ((x17_7).toNat * 4)).block, (ad375.add ((x17_7).toNat * 4)).off + 3, none⟩ = some (.int .i64 ((rd_T62 t350 x17_7).f3))) (ds := []) cellarlaw9_MemMoves.b58 (by kernel_rfl) rfl rfl ⟨hx386_0, hx386_1, hx386_2, hx386_3, hx387_0, hx387_1, hx387_2, hx387_3⟩ (fun hHeld => ?_); refine with_tabW cellarlaw9_MemMoves.tab32 cellarlaw9_MemMoves.bits32 (fun HT_ HW_ => ?_)
                    generalize wc.drew = w114 at HO_3 HO_5 HO_7 BK336 HB hx386_0 hx386_1 hx386_2 hx386_3 hx387_0 hx387_1 hx387_2 hx387_3 hHeld ⊢
                    refine zq 0 (some 177) HT_ ?_; refine zq 1 (some 178) HT_ ?_; refine zq 2 (some 179) HT_ ?_; refine zq 4 (some 181) HT_ ?_; refine zq 5 (some 182) HT_ ?_; refine zq 6 (some 183) HT_ ?_; refine zt 3 (some 180) HT_ HW_ hHeld ?_; refine zt 7 (some 184) HT_ HW_ hHeld ?_
                    refine one_ (i := 8) (N := some 185) cellarlaw9_MemMoves.b67 rfl rfl (one_of HT_.out (by kernel_rfl)) (by decide) (fun K hK => ?_)
                    refine goes_ Try.func49 (by kernel_rfl) rfl #[.agg #[.bool ((rd_T62 t350 x8_3).f0), .int .i64 ((rd_T62 t350 x8_3).f1), .int .i64 ((rd_T62 t350 x8_3).f2), .int .i64 ((rd_T62 t350 x8_3).f3)], .agg #[.bool ((rd_T62 t350 x17_7).f0), .int .i64 ((rd_T62 t350 x17_7).f1), .int .i64 ((rd_T62 t350 x17_7).f2), .int .i64 ((rd_T62 t350 x17_7).f3)]] (by rfl) rfl rfl (by (try simp only [List.map_toArray, List.map_cons, List.map_nil]); first | done | rfl | (simp only [List.length_drop, List.length_take]; rfl)) ?_
                    with_reducible refine (cellarref7_Apart.calls ((rd_T62 t350 x8_3).f0) ((rd_T62 t350 x8_3).f1) ((rd_T62 t350 x8_3).f2) ((rd_T62 t350 x8_3).f3) ((rd_T62 t350 x17_7).f0) ((rd_T62 t350 x17_7).f1) ((rd_T62 t350 x17_7).f2) ((rd_T62 t350 x17_7).f3) t388 t389 _ A113.out).mono ?_
                    rintro e w115 ⟨rfl, hb⟩
                    have HS0_ := (hb.cell (World.block_lt_of_cell? _ _ (hHeld.1))).trans (hHeld.1)
                    have HS1_ := (hb.cell (World.block_lt_of_cell? _ _ (hHeld.2.1))).trans (hHeld.2.1)
                    have HS2_ := (hb.cell (World.block_lt_of_cell? _ _ (hHeld.2.2.1))).trans (hHeld.2.2.1)
                    have HS3_ := (hb.cell (World.block_lt_of_cell? _ _ (hHeld.2.2.2.1))).trans (hHeld.2.2.2.1)
                    have HS4_ := (hb.cell (World.block_lt_of_cell? _ _ (hHeld.2.2.2.2.1))).trans (hHeld.2.2.2.2.1)
                    have HS5_ := (hb.cell (World.block_lt_of_cell? _ _ (hHeld.2.2.2.2.2.1))).trans (hHeld.2.2.2.2.2.1)
                    have HS6_ := (hb.cell (World.block_lt_of_cell? _ _ (hHeld.2.2.2.2.2.2.1))).trans (hHeld.2.2.2.2.2.2.1)
                    have HS7_ := (hb.cell (World.block_lt_of_cell? _ _ (hHeld.2.2.2.2.2.2.2))).trans (hHeld.2.2.2.2.2.2.2)
                    refine ⟨_, rfl, ?_⟩
                    have n0_ := Aside0.mk (Kd.R_below (by (with_reducible repeat (first | apply Kd.R_alloc | apply Kd.R_drewN | apply Kd.R_drew)); exact HO_3.out) hb)
                    have n1_ := Aside0.mk (Kd.S_below (by (with_reducible repeat (first | apply Kd.S_alloc | apply Kd.S_drewN | apply Kd.S_drew)); exact HO_5.out) hb)
                    have n2_ := Aside0.mk (Kd.R_below (by (with_reducible repeat (first | apply Kd.R_alloc | apply Kd.R_drewN | apply Kd.R_drew)); exact HO_7.out) hb)
                    have n3_ := Aside0.mk (zbb BK336.out hb)
                    have n4_ := Aside0.mk (below_step (zw1 HB.out GE336.out) hb)
                    clear HO_3
                    clear HO_5
                    clear HO_7
                    clear BK336
                    clear HB
                    have HO_3 := n0_
                    have HO_5 := n1_
                    have HO_7 := n2_
                    have BK336 := n3_
                    have HB := n4_
                    clear n0_ n1_ n2_ n3_ n4_
                    (try clear hb)
                    (try clear hb2)
                    (try clear hk)
                    (try clear hi)
                    refine hK.out _ _ ⟨HS0_, HS1_, HS2_, HS3_, HS4_, HS5_, HS6_, HS7_⟩ (fun hHeld => ?_)
                    clear hK K
                    refine norm_ (a' := ?_) ?_ ?_
                    rotate_left
                    ·show Act.put _ (some 185) _ = _
                     simp only [Act.put, List.setIfInBounds_toArray, List.set_cons_zero, List.set_cons_succ, i64_w, i32_w]
                     rfl
                    refine zq 9 (some 176) HT_ ?_; refine zq 10 (some 186) HT_ ?_; refine zq 11 (some 187) HT_ ?_; refine zq 12 (some 25) HT_ ?_; refine zq 13 (some 26) HT_ ?_
                    refine done_ (done_of HT_.out (by kernel_rfl)) ?_
                    try go_wp2
                    go_meet
                    case rel => exact ⟨_, (0), (t388), (t389), (zr), (zr), (zr), H', ⟨by have := HK1.out; have := HJ14.out; have := HK3.out; have := HJ32.out; have := HK5.out; have := HJ38.out; have := HK7.out; have := HJ98.out; first | omega | exact Nat.le_refl _⟩, ⟨by (with_reducible repeat (first | apply Kd.R_alloc | apply Kd.R_drewN | apply Kd.R_drew)); exact HO_3.out⟩, ⟨by (with_reducible repeat (first | apply Kd.S_alloc | apply Kd.S_drewN | apply Kd.S_drew)); exact HO_5.out⟩, ⟨by (with_reducible repeat (first | apply Kd.R_alloc | apply Kd.R_drewN | apply Kd.R_drew)); exact HO_7.out⟩, ⟨zb BK336.out⟩, ⟨zw1 HB.out GE336.out⟩⟩
                   case rest => as_aux_lemma =>
                    clear HC107
                    try clear c1; try clear p2; try clear p3; try clear q3; try clear c4; try clear c9; try clear c10; try clear c11; try clear p34; try clear q34; try clear p35; try clear q35; try clear p36; try clear q36; try clear p37; try clear q37; try clear p38; try clear q38; try clear c45; try clear c48; try clear c49; try clear c92; try clear c93; try clear c93b0; try clear c94; try clear c94b0; try clear c95; try clear c95b0; try clear c96; try clear c96b0; try clear c104; try clear c108; try clear c109; try clear c109b0; try clear c110; try clear c110b0; try clear c111; try clear c111b0; try clear c112; try clear c112b0; try clear p2; try clear p3; try clear p34; try clear p344; try clear p348; try clear p35; try clear p353; try clear p355; try clear p356; try clear p36; try clear p365; try clear p367; try clear p368; try clear p37; try clear p375; try clear p376; try clear p38; try clear p380; try clear p381; try clear p384; try clear p386; try clear p387; try clear q3; try clear q34; try clear q344; try clear q348; try clear q35; try clear q353; try clear q355; try clear q356; try clear q36; try clear q365; try clear q367; try clear q368; try clear q37; try clear q375; try clear q376; try clear q38; try clear q380; try clear q381; try clear q384; try clear q386; try clear q387
                    obtain ⟨kq, x23_106, x25_106, x26_106, rfl, rfl, rfl, HA, HJ106, HO_3, HO_5, HO_7, BK336, HB⟩ := hcut
                    cases kq with
                    | zero => exact absurd HA.out (by simp [cellarlaw9_MemMoves.j11])
                    | succ kj106 =>
                     have H := HA.out
                     clear HA
                     simp only [cellarlaw9_MemMoves.j11] at H
                     have HC116 := Aside0.mk H
                     clear H
                     go_upto_region 33 with (fail)
                     go_cut [199] (fun v199 wc => ∃ (kq : Nat) (x199_115 : Bool), v199 = .bool x199_115 ∧ Aside0 (cellarlaw9_MemMoves.j12 kq y341 x4_1 t345 t349 t350 x8_3 x9_32 x17_7 t377 t378 t379 t382 t383 x23_106 1 x25_106 x26_106 0 x199_115 l0_0 l0_1 l0_2 l0_3 = some r) ∧ Aside0 (kq ≤ kj106) ∧ Aside0 (Kd.R (Kd.int .i64) 3 wc w.heap.size (fun _ => True) v342 y341) ∧ Aside0 (Kd.S k76 76 wc w.heap.size (fun _ => True) (.slice Ao30 t345.length co30) t345) ∧ Aside0 (Kd.R k62 62 wc w.heap.size (fun _ => True) (.slice (some ad375) t350.length co34) t350) ∧ Aside0 (wc.heap[gb336]? = some (.cells #[(.slice (some ad344) l0_0.length c0_0), (.slice A0_1 l0_1.length c0_1), (.slice A0_2 l0_2.length c0_2), (.slice A0_3 l0_3.length c0_3)] 54 (0, 0))) ∧ Aside0 (Below w.heap.size w wc))
                     case first =>
                      have H := HC116.out
                      clear HC116
                      by_cases c117 : 0 ≤ x8_3
                      rotate_left
                      ·rw [if_neg c117] at H
                       exact absurd H (by simp)
                      rw [if_pos c117] at H
                      have c117b0 : decide (0 ≤ x8_3) = true := decide_eq_true c117
                      clear c117
                      (first | rw [c117b0] | (simp only [i64_w, i32_w]; rw [c117b0]) | skip)
                      by_cases c118 : x8_3 < (t350.length : Int)
                      rotate_left
                      ·rw [if_neg c118] at H
                       exact absurd H (by simp)
                      rw [if_pos c118] at H
                      have c118b0 : decide (x8_3 < (t350.length : Int)) = true := decide_eq_true c118
                      clear c118
                      replace H := Option.bind_eq_some_iff.mp H
                      obtain ⟨t391, A1190, H⟩ := H
                      replace H : (if t391 = true then (if 0 ≤ x17_7 then (if x17_7 < (t350.length : Int) then ((cellarref7_Scalar.f kj106 7 ((rd_T62 t350 x17_7).f0) ((rd_T62 t350 x17_7).f1) ((rd_T62 t350 x17_7).f2) ((rd_T62 t350 x17_7).f3)).bind fun t393 => (cellarlaw9_MemMoves.j12 kj106 y341 x4_1 t345 t349 t350 x8_3 x9_32 x17_7 t377 t378 t379 t382 t383 x23_106 1 x25_106 x26_106 0 t393 l0_0 l0_1 l0_2 l0_3)) else (none)) else (none)) else (cellarlaw9_MemMoves.j12 kj106 y341 x4_1 t345 t349 t350 x8_3 x9_32 x17_7 t377 t378 t379 t382 t383 x23_106 1 x25_106 x26_106 0 false l0_0 l0_1 l0_2 l0_3)) = some r := H
                      have A119 := Aside0.mk A1190
                      clear A1190
                      by_cases c120 : t391 = true
                      rotate_left
                      ·replace c120 := Bool.eq_false_iff.mpr c120
                       subst c120
                       have H1 : (cellarlaw9_MemMoves.j12 kj106 y341 x4_1 t345 t349 t350 x8_3 x9_32 x17_7 t377 t378 t379 t382 t383 x23_106 1 x25_106 x26_106 0 false l0_0 l0_1 l0_2 l0_3) = some r := by rw [if_neg (show ¬ (false = true) by decide)] at H; exact H
                       clear H
                       have H := H1
                       clear H1
                       have H' := Aside0.mk H
                       clear H
                       have p390 : 0 ≤ (x8_3 : Int) := zdec
                       have q390 : x8_3 < (t350.length : Int) := zdec
                       obtain ⟨ad390, e390, hx390_0, hx390_1, hx390_2, hx390_3⟩ := at_T62 (Kd.R_reads' HO_7.out).2.2 x8_3 p390 q390
                       obtain rfl : ad375 = ad390 := (by injection e390)
                       replace p390 := eq_true p390
                       replace q390 := eq_true q390
                       go_wp2_with (first | ((with_reducible refine gate_callee (f := 32) rfl ?_); refine zgo (some 192) Try.func32 #[.int .i64 7, .agg #[.bool ((rd_T62 t350 x8_3).f0), .int .i64 ((rd_T62 t350 x8_3).f1), .int .i64 ((rd_T62 t350 x8_3).f2), .int .i64 ((rd_T62 t350 x8_3).f3)]] ?_; (with_reducible refine (cellarref7_Scalar.calls kj106 7 ((rd_T62 t350 x8_3).f0) ((rd_T62 t350 x8_3).f1) ((rd_T62 t350 x8_3).f2) ((rd_T62 t350 x8_3).f3) false _ A119.out).mono ?_); rintro e w126 ⟨rfl, hb⟩; refine ⟨_, rfl, ?_⟩; have n0_ := Aside0.mk (Kd.R_below (by (with_reducible repeat (first | apply Kd.R_alloc | apply Kd.R_drewN | apply Kd.R_drew)); exact HO_3.out) hb); have n1_ := Aside0.mk (Kd.S_below (by (with_reducible repeat (first | apply Kd.S_alloc | apply Kd.S_drewN | apply Kd.S_drew)); exact HO_5.out) hb); have n2_ := Aside0.mk (Kd.R_below (by (with_reducible repeat (first | apply Kd.R_alloc | apply Kd.R_drewN | apply Kd.R_drew)); exact HO_7.out) hb); have n3_ := Aside0.mk (zbb BK336.out hb); have n4_ := Aside0.mk (below_step (zw1 HB.out GE336.out) hb); clear HO_3 HO_5 HO_7 BK336 HB; have HO_3 := n0_; have HO_5 := n1_; have HO_7 := n2_; have BK336 := n3_; have HB := n4_; clear n0_ n1_ n2_ n3_ n4_; (try clear hb); (try clear hb2); (try clear hk); (try clear hi)))
                       go_meet
                       case rel => exact ⟨_, (false), (zr), H', ⟨by have := HK1.out; have := HJ14.out; have := HK3.out; have := HJ32.out; have := HK5.out; have := HJ38.out; have := HK7.out; have := HJ98.out; have := HJ106.out; first | omega | exact Nat.le_refl _⟩, ⟨by (with_reducible repeat (first | apply Kd.R_alloc | apply Kd.R_drewN | apply Kd.R_drew)); exact HO_3.out⟩, ⟨by (with_reducible repeat (first | apply Kd.S_alloc | apply Kd.S_drewN | apply Kd.S_drew)); exact HO_5.out⟩, ⟨by (with_reducible repeat (first | apply Kd.R_alloc | apply Kd.R_drewN | apply Kd.R_drew)); exact HO_7.out⟩, ⟨zb BK336.out⟩, ⟨zw1 HB.out GE336.out⟩⟩
                      subst c120
                      have H1 : (if 0 ≤ x17_7 then (if x17_7 < (t350.length : Int) then ((cellarref7_Scalar.f kj106 7 ((rd_T62 t350 x17_7).f0) ((rd_T62 t350 x17_7).f1) ((rd_T62 t350 x17_7).f2) ((rd_T62 t350 x17_7).f3)).bind fun t393 => (cellarlaw9_MemMoves.j12 kj106 y341 x4_1 t345 t349 t350 x8_3 x9_32 x17_7 t377 t378 t379 t382 t383 x23_106 1 x25_106 x26_106 0 t393 l0_0 l0_1 l0_2 l0_3)) else (none)) else (none)) = some r := by rw [if_pos rfl] at H; exact H
                      clear H
                      have H := H1
                      clear H1
                      by_cases c121 : 0 ≤ x17_7
                      rotate_left
                      ·rw [if_neg c121] at H
                       exact absurd H (by simp)
                      rw [if_pos c121] at H
                      have c121b0 : decide (0 ≤ x17_7) = true := decide_eq_true c121
                      clear c121
                      by_cases c122 : x17_7 < (t350.length : Int)
                      rotate_left
                      ·rw [if_neg c122] at H
                       exact absurd H (by simp)
                      rw [if_pos c122] at H
                      have c122b0 : decide (x17_7 < (t350.length : Int)) = true := decide_eq_true c122
                      clear c122
                      replace H := Option.bind_eq_some_iff.mp H
                      obtain ⟨t393, A1230, H⟩ := H
                      replace H : (cellarlaw9_MemMoves.j12 kj106 y341 x4_1 t345 t349 t350 x8_3 x9_32 x17_7 t377 t378 t379 t382 t383 x23_106 1 x25_106 x26_106 0 t393 l0_0 l0_1 l0_2 l0_3) = some r := H
                      have A123 := Aside0.mk A1230
                      clear A1230
                      have H' := Aside0.mk H
                      clear H
                      have p390 : 0 ≤ (x8_3 : Int) := zdec
                      have q390 : x8_3 < (t350.length : Int) := zdec
                      obtain ⟨ad390, e390, hx390_0, hx390_1, hx390_2, hx390_3⟩ := at_T62 (Kd.R_reads' HO_7.out).2.2 x8_3 p390 q390
                      obtain rfl : ad375 = ad390 := (by injection e390)
                      replace p390 := eq_true p390
                      replace q390 := eq_true q390
                      go_wp2_with (first | ((with_reducible refine gate_callee (f := 32) rfl ?_); refine zgo (some 192) Try.func32 #[.int .i64 7, .agg #[.bool ((rd_T62 t350 x8_3).f0), .int .i64 ((rd_T62 t350 x8_3).f1), .int .i64 ((rd_T62 t350 x8_3).f2), .int .i64 ((rd_T62 t350 x8_3).f3)]] ?_; (with_reducible refine (cellarref7_Scalar.calls kj106 7 ((rd_T62 t350 x8_3).f0) ((rd_T62 t350 x8_3).f1) ((rd_T62 t350 x8_3).f2) ((rd_T62 t350 x8_3).f3) true _ A119.out).mono ?_); rintro e w124 ⟨rfl, hb⟩; refine ⟨_, rfl, ?_⟩; have n0_ := Aside0.mk (Kd.R_below (by (with_reducible repeat (first | apply Kd.R_alloc | apply Kd.R_drewN | apply Kd.R_drew)); exact HO_3.out) hb); have n1_ := Aside0.mk (Kd.S_below (by (with_reducible repeat (first | apply Kd.S_alloc | apply Kd.S_drewN | apply Kd.S_drew)); exact HO_5.out) hb); have n2_ := Aside0.mk (Kd.R_below (by (with_reducible repeat (first | apply Kd.R_alloc | apply Kd.R_drewN | apply Kd.R_drew)); exact HO_7.out) hb); have n3_ := Aside0.mk (zbb BK336.out hb); have n4_ := Aside0.mk (below_step (zw1 HB.out GE336.out) hb); clear HO_3 HO_5 HO_7 BK336 HB; have HO_3 := n0_; have HO_5 := n1_; have HO_7 := n2_; have BK336 := n3_; have HB := n4_; clear n0_ n1_ n2_ n3_ n4_; (try clear hb); (try clear hb2); (try clear hk); (try clear hi); have p392 : 0 ≤ (x17_7 : Int) := zdec; have q392 : x17_7 < (t350.length : Int) := zdec; obtain ⟨ad392, e392, hx392_0, hx392_1, hx392_2, hx392_3⟩ := at_T62 (Kd.R_reads' HO_7.out).2.2 x17_7 p392 q392; obtain rfl : ad375 = ad392 := (by injection e392); replace p392 := eq_true p392; replace q392 := eq_true q392) | (go_at_call 32; (with_reducible refine (cellarref7_Scalar.calls kj106 7 ((rd_T62 t350 x17_7).f0) ((rd_T62 t350 x17_7).f1) ((rd_T62 t350 x17_7).f2) ((rd_T62 t350 x17_7).f3) t393 _ A123.out).mono ?_); rintro e w125 ⟨rfl, hb⟩; have n0_ := Aside0.mk (Kd.R_below (by (with_reducible repeat (first | apply Kd.R_alloc | apply Kd.R_drewN | apply Kd.R_drew)); exact HO_3.out) hb); have n1_ := Aside0.mk (Kd.S_below (by (with_reducible repeat (first | apply Kd.S_alloc | apply Kd.S_drewN | apply Kd.S_drew)); exact HO_5.out) hb); have n2_ := Aside0.mk (Kd.R_below (by (with_reducible repeat (first | apply Kd.R_alloc | apply Kd.R_drewN | apply Kd.R_drew)); exact HO_7.out) hb); have n3_ := Aside0.mk (zbb BK336.out hb); have n4_ := Aside0.mk (below_step (zw1 HB.out GE336.out) hb); clear HO_3 HO_5 HO_7 BK336 HB; have HO_3 := n0_; have HO_5 := n1_; have HO_7 := n2_; have BK336 := n3_; have HB := n4_; clear n0_ n1_ n2_ n3_ n4_; (try clear hb); (try clear hb2); (try clear hk); (try clear hi)))
                      go_meet
                      case rel => exact ⟨_, (t393), (zr), H', ⟨by have := HK1.out; have := HJ14.out; have := HK3.out; have := HJ32.out; have := HK5.out; have := HJ38.out; have := HK7.out; have := HJ98.out; have := HJ106.out; first | omega | exact Nat.le_refl _⟩, ⟨by (with_reducible repeat (first | apply Kd.R_alloc | apply Kd.R_drewN | apply Kd.R_drew)); exact HO_3.out⟩, ⟨by (with_reducible repeat (first | apply Kd.S_alloc | apply Kd.S_drewN | apply Kd.S_drew)); exact HO_5.out⟩, ⟨by (with_reducible repeat (first | apply Kd.R_alloc | apply Kd.R_drewN | apply Kd.R_drew)); exact HO_7.out⟩, ⟨zb BK336.out⟩, ⟨zw1 HB.out GE336.out⟩⟩
                     case rest => as_aux_lemma =>
                      clear HC116
                      try clear c1; try clear p2; try clear c3; try clear p3; try clear q3; try clear c4; try clear c9; try clear c10; try clear c11; try clear c12; try clear c32; try clear p34; try clear q34; try clear p35; try clear q35; try clear p36; try clear q36; try clear p37; try clear q37; try clear p38; try clear q38; try clear p39; try clear q39; try clear c45; try clear c48; try clear c49; try clear c92; try clear c93; try clear c93b0; try clear c94; try clear c94b0; try clear c95; try clear c95b0; try clear c96; try clear c96b0; try clear c104; try clear c108; try clear c109; try clear c109b0; try clear c110; try clear c110b0; try clear c111; try clear c111b0; try clear c112; try clear c112b0; try clear c117; try clear c117b0; try clear c118; try clear c118b0; try clear c120; try clear c121; try clear c121b0; try clear c122; try clear c122b0; try clear p2; try clear p3; try clear p34; try clear p344; try clear p348; try clear p35; try clear p353; try clear p355; try clear p356; try clear p36; try clear p365; try clear p367; try clear p368; try clear p37; try clear p375; try clear p376; try clear p38; try clear p380; try clear p381; try clear p384; try clear p386; try clear p387; try clear p390; try clear p392; try clear q3; try clear q34; try clear q344; try clear q348; try clear q35; try clear q353; try clear q355; try clear q356; try clear q36; try clear q365; try clear q367; try clear q368; try clear q37; try clear q375; try clear q376; try clear q38; try clear q380; try clear q381; try clear q384; try clear q386; try clear q387; try clear q390; try clear q392
                      obtain ⟨kq, x199_115, rfl, HA, HJ115, HO_3, HO_5, HO_7, BK336, HB⟩ := hcut
                      cases kq with
                      | zero => exact absurd HA.out (by simp [cellarlaw9_MemMoves.j12])
                      | succ kj115 =>
                       have H := HA.out
                       clear HA
                       simp only [cellarlaw9_MemMoves.j12] at H
                       have HC127 := Aside0.mk H
                       clear H
                       go_upto_if 199 with (fail)
                       go_cut [24, 27] (fun v24 v27 wc => ∃ (kq : Nat) (x24_126 : Int) (x27_126 : Int), v24 = .int .i64 x24_126 ∧ v27 = .int .i64 x27_126 ∧ Aside0 (cellarlaw9_MemMoves.j13 kq y341 x4_1 t345 t349 t350 x8_3 x9_32 x17_7 t377 t378 t379 t382 t383 x23_106 x24_126 x25_106 x26_106 x27_126 l0_0 l0_1 l0_2 l0_3 = some r) ∧ Aside0 (kq ≤ kj115) ∧ Aside0 (Kd.R (Kd.int .i64) 3 wc w.heap.size (fun _ => True) v342 y341) ∧ Aside0 (Kd.S k76 76 wc w.heap.size (fun _ => True) (.slice Ao30 t345.length co30) t345) ∧ Aside0 (Kd.R k62 62 wc w.heap.size (fun _ => True) (.slice (some ad375) t350.length co34) t350) ∧ Aside0 (wc.heap[gb336]? = some (.cells #[(.slice (some ad344) l0_0.length c0_0), (.slice A0_1 l0_1.length c0_1), (.slice A0_2 l0_2.length c0_2), (.slice A0_3 l0_3.length c0_3)] 54 (0, 0))) ∧ Aside0 (Below w.heap.size w wc))
                       case first =>
                        have H := HC127.out
                        clear HC127
                        by_cases c128 : x199_115 = true
                        rotate_left
                        ·replace c128 := Bool.eq_false_iff.mpr c128
                         subst c128
                         have H1 : (cellarlaw9_MemMoves.j13 kj115 y341 x4_1 t345 t349 t350 x8_3 x9_32 x17_7 t377 t378 t379 t382 t383 x23_106 1 x25_106 x26_106 0 l0_0 l0_1 l0_2 l0_3) = some r := by rw [if_neg (show ¬ (false = true) by decide)] at H; exact H
                         clear H
                         have H := H1
                         clear H1
                         have H' := Aside0.mk H
                         clear H
                         go_wp2
                         go_meet
                         case rel => exact ⟨_, (1), (0), (zr), (zr), H', ⟨by have := HK1.out; have := HJ14.out; have := HK3.out; have := HJ32.out; have := HK5.out; have := HJ38.out; have := HK7.out; have := HJ98.out; have := HJ106.out; have := HJ115.out; first | omega | exact Nat.le_refl _⟩, ⟨by (with_reducible repeat (first | apply Kd.R_alloc | apply Kd.R_drewN | apply Kd.R_drew)); exact HO_3.out⟩, ⟨by (with_reducible repeat (first | apply Kd.S_alloc | apply Kd.S_drewN | apply Kd.S_drew)); exact HO_5.out⟩, ⟨by (with_reducible repeat (first | apply Kd.R_alloc | apply Kd.R_drewN | apply Kd.R_drew)); exact HO_7.out⟩, ⟨zb BK336.out⟩, ⟨zw1 HB.out GE336.out⟩⟩
                        subst c128
                        have H1 : (if 0 ≤ x8_3 then (if x8_3 < (t350.length : Int) then (if 0 ≤ x17_7 then (if x17_7 < (t350.length : Int) then ((cellarref7_Same.f ((rd_T62 t350 x8_3).f0) ((rd_T62 t350 x8_3).f1) ((rd_T62 t350 x8_3).f2) ((rd_T62 t350 x8_3).f3) ((rd_T62 t350 x17_7).f0) ((rd_T62 t350 x17_7).f1) ((rd_T62 t350 x17_7).f2) ((rd_T62 t350 x17_7).f3)).bind fun t396 => (cellarlaw9_MemMoves.j13 kj115 y341 x4_1 t345 t349 t350 x8_3 x9_32 x17_7 t377 t378 t379 t382 t383 x23_106 0 x25_106 x26_106 t396 l0_0 l0_1 l0_2 l0_3)) else (none)) else (none)) else (none)) else (none)) = some r := by rw [if_pos rfl] at H; exact H
                        clear H
                        have H := H1
                        clear H1
                        by_cases c129 : 0 ≤ x8_3
                        rotate_left
                        ·rw [if_neg c129] at H
                         exact absurd H (by simp)
                        rw [if_pos c129] at H
                        have c129b0 : decide (0 ≤ x8_3) = true := decide_eq_true c129
                        clear c129
                        (first | rw [c129b0] | (simp only [i64_w, i32_w]; rw [c129b0]) | skip)
                        by_cases c130 : x8_3 < (t350.length : Int)
                        rotate_left
                        ·rw [if_neg c130] at H
                         exact absurd H (by simp)
                        rw [if_pos c130] at H
                        have c130b0 : decide (x8_3 < (t350.length : Int)) = true := decide_eq_true c130
                        clear c130
                        by_cases c131 : 0 ≤ x17_7
                        rotate_left
                        ·rw [if_neg c131] at H
                         exact absurd H (by simp)
                        rw [if_pos c131] at H
                        have c131b0 : decide (0 ≤ x17_7) = true := decide_eq_true c131
                        clear c131
                        by_cases c132 : x17_7 < (t350.length : Int)
                        rotate_left
                        ·rw [if_neg c132] at H
                         exact absurd H (by simp)
                        rw [if_pos c132] at H
                        have c132b0 : decide (x17_7 < (t350.length : Int)) = true := decide_eq_true c132
                        clear c132
                        replace H := Option.bind_eq_some_iff.mp H
                        obtain ⟨t396, A1330, H⟩ := H
                        replace H : (cellarlaw9_MemMoves.j13 kj115 y341 x4_1 t345 t349 t350 x8_3 x9_32 x17_7 t377 t378 t379 t382 t383 x23_106 0 x25_106 x26_106 t396 l0_0 l0_1 l0_2 l0_3) = some r := H
                        have A133 := Aside0.mk A1330
                        clear A1330
                        have H' := Aside0.mk H
                        clear H
                        try go_wp2
                        have n0_ := Aside0.mk (Kd.R_drew HO_3.out)
                        have n1_ := Aside0.mk (Kd.S_drew HO_5.out)
                        have n2_ := Aside0.mk (Kd.R_drew HO_7.out)
                        have n3_ := Aside0.mk (blk_drew BK336.out)
                        have n4_ := Aside0.mk (below_drew1 HB.out)
                        clear HO_3
                        clear HO_5
                        clear HO_7
                        clear BK336
                        clear HB
                        have HO_3 := n0_
                        have HO_5 := n1_
                        have HO_7 := n2_
                        have BK336 := n3_
                        have HB := n4_
                        clear n0_ n1_ n2_ n3_ n4_
                        have p394 : 0 ≤ (x8_3 : Int) := zdec
                        have q394 : x8_3 < (t350.length : Int) := zdec
                        obtain ⟨ad394, e394, hx394_0, hx394_1, hx394_2, hx394_3⟩ := at_T62 (Kd.R_reads' HO_7.out).2.2 x8_3 p394 q394
                        obtain rfl : ad375 = ad394 := (by injection e394)
                        replace p394 := eq_true p394
                        replace q394 := eq_true q394
                        have p395 : 0 ≤ (x17_7 : Int) := zdec
                        have q395 : x17_7 < (t350.length : Int) := zdec
                        obtain ⟨ad395, e395, hx395_0, hx395_1, hx395_2, hx395_3⟩ := at_T62 (Kd.R_reads' HO_7.out).2.2 x17_7 p395 q395
                        obtain rfl : ad375 = ad395 := (by injection e395)
                        replace p395 := eq_true p395
                        replace q395 := eq_true q395
                        refine start_ (n := 11) (S := fun w' => w'.cell? (ad375.add ((x8_3).toNat * 4)) = some (.bool ((rd_T62 t350 x8_3).f0)) ∧ w'.cell? ⟨(ad375.add ((x8_3).toNat * 4)).block, (ad375.add ((x8_3).toNat * 4)).off + 1, none⟩ = some (.int .i64 ((rd_T62 t350 x8_3).f1)) ∧ w'.cell? ⟨(ad375.add ((x8_3).toNat * 4)).block, (ad375.add ((x8_3).toNat * 4)).off + 2, none⟩ = some (.int .i64 ((rd_T62 t350 x8_3).f2)) ∧ w'.cell? ⟨(ad375.add ((x8_3).toNat * 4)).block, (ad375.add ((x8_3).toNat * 4)).off + 3, none⟩ = some (.int .i64 ((rd_T62 t350 x8_3).f3)) ∧ w'.cell? (ad375.add ((x17_7).toNat * 4)) = some (.bool ((rd_T62 t350 x17_7).f0)) ∧ w'.cell? ⟨(ad375.add ((x17_7).toNat * 4)).block, (ad375.add ((x17_7).toNat * 4)).off + 1, none⟩ = some (.int .i64 ((rd_T62 t350 x17_7).f1)) ∧ w'.cell? ⟨(ad375.add ((x17_7).toNat * 4)).block, (ad375.add ((x17_7).toNat * 4)).off + 2, none⟩ = some (.int .i64 ((rd_T62 t350 x17_7).f2)) ∧ w'.cell? ⟨(ad375.add ((x17_7).toNat * 4)).block, (ad375.add ((x17_7).toNat * 4)).off + 3, none⟩ = some (.int .i64 ((rd_T62 t350 x17_7).f3))) (ds := []) cellarlaw9_MemMoves.b73 (by kernel_rfl) rfl rfl ⟨hx394_0, hx394_1, hx394_2, hx394_3, hx395_0, hx395_1, hx395_2, hx395_3⟩ (fun hHeld => ?_); refine with_tabW cellarlaw9_MemMoves.tab34 cellarlaw9_MemMoves.bits34 (fun HT_ HW_ => ?_)
                        generalize wc.drew = w134 at HO_3 HO_5 HO_7 BK336 HB hx394_0 hx394_1 hx394_2 hx394_3 hx395_0 hx395_1 hx395_2 hx395_3 hHeld ⊢
                        refine zq 0 (some 200) HT_ ?_; refine zq 1 (some 201) HT_ ?_; refine zq 2 (some 202) HT_ ?_; refine zq 4 (some 204) HT_ ?_; refine zq 5 (some 205) HT_ ?_; refine zq 6 (some 206) HT_ ?_; refine zt 3 (some 203) HT_ HW_ hHeld ?_; refine zt 7 (some 207) HT_ HW_ hHeld ?_
                        refine one_ (i := 8) (N := some 208) cellarlaw9_MemMoves.b82 rfl rfl (one_of HT_.out (by kernel_rfl)) (by decide) (fun K hK => ?_)
                        refine goes_ Try.func50 (by kernel_rfl) rfl #[.agg #[.bool ((rd_T62 t350 x8_3).f0), .int .i64 ((rd_T62 t350 x8_3).f1), .int .i64 ((rd_T62 t350 x8_3).f2), .int .i64 ((rd_T62 t350 x8_3).f3)], .agg #[.bool ((rd_T62 t350 x17_7).f0), .int .i64 ((rd_T62 t350 x17_7).f1), .int .i64 ((rd_T62 t350 x17_7).f2), .int .i64 ((rd_T62 t350 x17_7).f3)]] (by rfl) rfl rfl (by (try simp only [List.map_toArray, List.map_cons, List.map_nil]); first | done | rfl | (simp only [List.length_drop, List.length_take]; rfl)) ?_
                        with_reducible refine (cellarref7_Same.calls ((rd_T62 t350 x8_3).f0) ((rd_T62 t350 x8_3).f1) ((rd_T62 t350 x8_3).f2) ((rd_T62 t350 x8_3).f3) ((rd_T62 t350 x17_7).f0) ((rd_T62 t350 x17_7).f1) ((rd_T62 t350 x17_7).f2) ((rd_T62 t350 x17_7).f3) t396 _ A133.out).mono ?_
                        rintro e w135 ⟨rfl, hb⟩
                        have HS0_ := (hb.cell (World.block_lt_of_cell? _ _ (hHeld.1))).trans (hHeld.1)
                        have HS1_ := (hb.cell (World.block_lt_of_cell? _ _ (hHeld.2.1))).trans (hHeld.2.1)
                        have HS2_ := (hb.cell (World.block_lt_of_cell? _ _ (hHeld.2.2.1))).trans (hHeld.2.2.1)
                        have HS3_ := (hb.cell (World.block_lt_of_cell? _ _ (hHeld.2.2.2.1))).trans (hHeld.2.2.2.1)
                        have HS4_ := (hb.cell (World.block_lt_of_cell? _ _ (hHeld.2.2.2.2.1))).trans (hHeld.2.2.2.2.1)
                        have HS5_ := (hb.cell (World.block_lt_of_cell? _ _ (hHeld.2.2.2.2.2.1))).trans (hHeld.2.2.2.2.2.1)
                        have HS6_ := (hb.cell (World.block_lt_of_cell? _ _ (hHeld.2.2.2.2.2.2.1))).trans (hHeld.2.2.2.2.2.2.1)
                        have HS7_ := (hb.cell (World.block_lt_of_cell? _ _ (hHeld.2.2.2.2.2.2.2))).trans (hHeld.2.2.2.2.2.2.2)
                        refine ⟨_, rfl, ?_⟩
                        have n0_ := Aside0.mk (Kd.R_below (by (with_reducible repeat (first | apply Kd.R_alloc | apply Kd.R_drewN | apply Kd.R_drew)); exact HO_3.out) hb)
                        have n1_ := Aside0.mk (Kd.S_below (by (with_reducible repeat (first | apply Kd.S_alloc | apply Kd.S_drewN | apply Kd.S_drew)); exact HO_5.out) hb)
                        have n2_ := Aside0.mk (Kd.R_below (by (with_reducible repeat (first | apply Kd.R_alloc | apply Kd.R_drewN | apply Kd.R_drew)); exact HO_7.out) hb)
                        have n3_ := Aside0.mk (zbb BK336.out hb)
                        have n4_ := Aside0.mk (below_step (zw1 HB.out GE336.out) hb)
                        clear HO_3
                        clear HO_5
                        clear HO_7
                        clear BK336
                        clear HB
                        have HO_3 := n0_
                        have HO_5 := n1_
                        have HO_7 := n2_
                        have BK336 := n3_
                        have HB := n4_
                        clear n0_ n1_ n2_ n3_ n4_
                        (try clear hb)
                        (try clear hb2)
                        (try clear hk)
                        (try clear hi)
                        refine hK.out _ _ ⟨HS0_, HS1_, HS2_, HS3_, HS4_, HS5_, HS6_, HS7_⟩ (fun hHeld => ?_)
                        clear hK K
                        refine norm_ (a' := ?_) ?_ ?_
                        rotate_left
                        ·show Act.put _ (some 208) _ = _
                         simp only [Act.put, List.setIfInBounds_toArray, List.set_cons_zero, List.set_cons_succ, i64_w, i32_w]
                         rfl
                        refine zq 9 (some 24) HT_ ?_; refine zq 10 (some 27) HT_ ?_
                        refine done_ (done_of HT_.out (by kernel_rfl)) ?_
                        try go_wp2
                        go_meet
                        case rel => exact ⟨_, (0), (t396), (zr), (zr), H', ⟨by have := HK1.out; have := HJ14.out; have := HK3.out; have := HJ32.out; have := HK5.out; have := HJ38.out; have := HK7.out; have := HJ98.out; have := HJ106.out; have := HJ115.out; first | omega | exact Nat.le_refl _⟩, ⟨by (with_reducible repeat (first | apply Kd.R_alloc | apply Kd.R_drewN | apply Kd.R_drew)); exact HO_3.out⟩, ⟨by (with_reducible repeat (first | apply Kd.S_alloc | apply Kd.S_drewN | apply Kd.S_drew)); exact HO_5.out⟩, ⟨by (with_reducible repeat (first | apply Kd.R_alloc | apply Kd.R_drewN | apply Kd.R_drew)); exact HO_7.out⟩, ⟨zb BK336.out⟩, ⟨zw1 HB.out GE336.out⟩⟩
                       case rest => as_aux_lemma =>
                        clear HC127
                        try clear c1; try clear p2; try clear c3; try clear p3; try clear q3; try clear c4; try clear c5; try clear c9; try clear c10; try clear c11; try clear c12; try clear c13; try clear c32; try clear p34; try clear q34; try clear p35; try clear q35; try clear p36; try clear q36; try clear p37; try clear q37; try clear p38; try clear q38; try clear p39; try clear q39; try clear c45; try clear c48; try clear c49; try clear c50; try clear c92; try clear c93; try clear c93b0; try clear c94; try clear c94b0; try clear c95; try clear c95b0; try clear c96; try clear c96b0; try clear c104; try clear c108; try clear c109; try clear c109b0; try clear c110; try clear c110b0; try clear c111; try clear c111b0; try clear c112; try clear c112b0; try clear c117; try clear c117b0; try clear c118; try clear c118b0; try clear c120; try clear c121; try clear c121b0; try clear c122; try clear c122b0; try clear c128; try clear c129; try clear c129b0; try clear c130; try clear c130b0; try clear c131; try clear c131b0; try clear c132; try clear c132b0; try clear p2; try clear p3; try clear p34; try clear p344; try clear p348; try clear p35; try clear p353; try clear p355; try clear p356; try clear p36; try clear p365; try clear p367; try clear p368; try clear p37; try clear p375; try clear p376; try clear p38; try clear p380; try clear p381; try clear p384; try clear p386; try clear p387; try clear p39; try clear p390; try clear p392; try clear p394; try clear p395; try clear q3; try clear q34; try clear q344; try clear q348; try clear q35; try clear q353; try clear q355; try clear q356; try clear q36; try clear q365; try clear q367; try clear q368; try clear q37; try clear q375; try clear q376; try clear q38; try clear q380; try clear q381; try clear q384; try clear q386; try clear q387; try clear q39; try clear q390; try clear q392; try clear q394; try clear q395
                        obtain ⟨kq, x24_126, x27_126, rfl, rfl, HA, HJ126, HO_3, HO_5, HO_7, BK336, HB⟩ := hcut
                        cases kq with
                        | zero => exact absurd HA.out (by simp [cellarlaw9_MemMoves.j13])
                        | succ kj126 =>
                         have H := HA.out
                         clear HA
                         simp only [cellarlaw9_MemMoves.j13] at H
                         have HC136 := Aside0.mk H
                         clear H
                         go_upto_region 35 with (fail)
                         go_cut [233] (fun v233 wc => ∃ (kq : Nat) (x233_135 : Bool), v233 = .bool x233_135 ∧ Aside0 (cellarlaw9_MemMoves.j14 kq y341 x4_1 t345 t349 t350 x8_3 x9_32 x17_7 x233_135 l0_0 l0_1 l0_2 l0_3 = some r) ∧ Aside0 (kq ≤ kj126) ∧ Aside0 (Kd.R (Kd.int .i64) 3 wc w.heap.size (fun _ => True) v342 y341) ∧ Aside0 (Kd.S k76 76 wc w.heap.size (fun _ => True) (.slice Ao30 t345.length co30) t345) ∧ Aside0 (Kd.R k62 62 wc w.heap.size (fun _ => True) (.slice (some ad375) t350.length co34) t350) ∧ Aside0 (wc.heap[gb336]? = some (.cells #[(.slice (some ad344) l0_0.length c0_0), (.slice A0_1 l0_1.length c0_1), (.slice A0_2 l0_2.length c0_2), (.slice A0_3 l0_3.length c0_3)] 54 (0, 0))) ∧ Aside0 (Below w.heap.size w wc))
                         case first =>
                          have H := HC136.out
                          clear HC136
                          replace H := Option.bind_eq_some_iff.mp H
                          obtain ⟨t397, A1370, H⟩ := H
                          replace H : (if t397 = x23_106 then (if t377 = x25_106 then (if t378 = x26_106 then ((cellarlaw9_num.f t383).bind fun t398 => (if t398 = x24_126 then (cellarlaw9_MemMoves.j14 kj126 y341 x4_1 t345 t349 t350 x8_3 x9_32 x17_7 (t382 != x27_126) l0_0 l0_1 l0_2 l0_3) else (cellarlaw9_MemMoves.j14 kj126 y341 x4_1 t345 t349 t350 x8_3 x9_32 x17_7 true l0_0 l0_1 l0_2 l0_3))) else (cellarlaw9_MemMoves.j14 kj126 y341 x4_1 t345 t349 t350 x8_3 x9_32 x17_7 true l0_0 l0_1 l0_2 l0_3)) else (cellarlaw9_MemMoves.j14 kj126 y341 x4_1 t345 t349 t350 x8_3 x9_32 x17_7 true l0_0 l0_1 l0_2 l0_3)) else (cellarlaw9_MemMoves.j14 kj126 y341 x4_1 t345 t349 t350 x8_3 x9_32 x17_7 true l0_0 l0_1 l0_2 l0_3)) = some r := H
                          have A137 := Aside0.mk A1370
                          clear A1370
                          by_cases c138 : t397 = x23_106
                          rotate_left
                          ·rw [if_neg c138] at H
                           have c138b0 : (t397 == x23_106) = false := beq_eq_false_iff_ne.mpr c138
                           have c138b1 : (t397 != x23_106) = true := bne_iff_ne.mpr c138
                           (first | rw [c138b0] | (simp only [i64_w, i32_w]; rw [c138b0]) | skip)
                           have H' := Aside0.mk H
                           clear H
                           go_wp2_with (first | ((with_reducible refine gate_callee (f := 35) rfl ?_); refine zgo (some 210) Try.func35 #[.int .i64 t379] ?_; (with_reducible refine (cellarlaw9_num.calls t379 t397 _ A137.out).mono ?_); rintro e w' ⟨rfl, ⟨nd, rfl⟩⟩; refine ⟨_, rfl, ?_⟩))
                           go_meet
                           case rel => exact ⟨_, (true), (zr), H', ⟨by have := HK1.out; have := HJ14.out; have := HK3.out; have := HJ32.out; have := HK5.out; have := HJ38.out; have := HK7.out; have := HJ98.out; have := HJ106.out; have := HJ115.out; have := HJ126.out; first | omega | exact Nat.le_refl _⟩, ⟨by (with_reducible repeat (first | apply Kd.R_alloc | apply Kd.R_drewN | apply Kd.R_drew)); exact HO_3.out⟩, ⟨by (with_reducible repeat (first | apply Kd.S_alloc | apply Kd.S_drewN | apply Kd.S_drew)); exact HO_5.out⟩, ⟨by (with_reducible repeat (first | apply Kd.R_alloc | apply Kd.R_drewN | apply Kd.R_drew)); exact HO_7.out⟩, ⟨zb BK336.out⟩, ⟨zw1 HB.out GE336.out⟩⟩
                          rw [if_pos c138] at H
                          have c138b0 : (t397 == x23_106) = true := beq_iff_eq.mpr c138
                          have c138b1 : (t397 != x23_106) = false := bne_eq_false_iff_eq.mpr c138
                          clear c138
                          (first | rw [c138b0] | (simp only [i64_w, i32_w]; rw [c138b0]) | skip)
                          by_cases c139 : t377 = x25_106
                          rotate_left
                          ·rw [if_neg c139] at H
                           have c139b0 : (t377 == x25_106) = false := beq_eq_false_iff_ne.mpr c139
                           have c139b1 : (t377 != x25_106) = true := bne_iff_ne.mpr c139
                           have H' := Aside0.mk H
                           clear H
                           go_wp2_with (first | ((with_reducible refine gate_callee (f := 35) rfl ?_); refine zgo (some 210) Try.func35 #[.int .i64 t379] ?_; (with_reducible refine (cellarlaw9_num.calls t379 t397 _ A137.out).mono ?_); rintro e w' ⟨rfl, ⟨nd, rfl⟩⟩; refine ⟨_, rfl, ?_⟩))
                           go_meet
                           case rel => exact ⟨_, (true), (zr), H', ⟨by have := HK1.out; have := HJ14.out; have := HK3.out; have := HJ32.out; have := HK5.out; have := HJ38.out; have := HK7.out; have := HJ98.out; have := HJ106.out; have := HJ115.out; have := HJ126.out; first | omega | exact Nat.le_refl _⟩, ⟨by (with_reducible repeat (first | apply Kd.R_alloc | apply Kd.R_drewN | apply Kd.R_drew)); exact HO_3.out⟩, ⟨by (with_reducible repeat (first | apply Kd.S_alloc | apply Kd.S_drewN | apply Kd.S_drew)); exact HO_5.out⟩, ⟨by (with_reducible repeat (first | apply Kd.R_alloc | apply Kd.R_drewN | apply Kd.R_drew)); exact HO_7.out⟩, ⟨zb BK336.out⟩, ⟨zw1 HB.out GE336.out⟩⟩
                          rw [if_pos c139] at H
                          have c139b0 : (t377 == x25_106) = true := beq_iff_eq.mpr c139
                          have c139b1 : (t377 != x25_106) = false := bne_eq_false_iff_eq.mpr c139
                          clear c139
                          by_cases c140 : t378 = x26_106
                          rotate_left
                          ·rw [if_neg c140] at H
                           have c140b0 : (t378 == x26_106) = false := beq_eq_false_iff_ne.mpr c140
                           have c140b1 : (t378 != x26_106) = true := bne_iff_ne.mpr c140
                           have H' := Aside0.mk H
                           clear H
                           go_wp2_with (first | ((with_reducible refine gate_callee (f := 35) rfl ?_); refine zgo (some 210) Try.func35 #[.int .i64 t379] ?_; (with_reducible refine (cellarlaw9_num.calls t379 t397 _ A137.out).mono ?_); rintro e w' ⟨rfl, ⟨nd, rfl⟩⟩; refine ⟨_, rfl, ?_⟩))
                           go_meet
                           case rel => exact ⟨_, (true), (zr), H', ⟨by have := HK1.out; have := HJ14.out; have := HK3.out; have := HJ32.out; have := HK5.out; have := HJ38.out; have := HK7.out; have := HJ98.out; have := HJ106.out; have := HJ115.out; have := HJ126.out; first | omega | exact Nat.le_refl _⟩, ⟨by (with_reducible repeat (first | apply Kd.R_alloc | apply Kd.R_drewN | apply Kd.R_drew)); exact HO_3.out⟩, ⟨by (with_reducible repeat (first | apply Kd.S_alloc | apply Kd.S_drewN | apply Kd.S_drew)); exact HO_5.out⟩, ⟨by (with_reducible repeat (first | apply Kd.R_alloc | apply Kd.R_drewN | apply Kd.R_drew)); exact HO_7.out⟩, ⟨zb BK336.out⟩, ⟨zw1 HB.out GE336.out⟩⟩
                          rw [if_pos c140] at H
                          have c140b0 : (t378 == x26_106) = true := beq_iff_eq.mpr c140
                          have c140b1 : (t378 != x26_106) = false := bne_eq_false_iff_eq.mpr c140
                          clear c140
                          replace H := Option.bind_eq_some_iff.mp H
                          obtain ⟨t398, A1410, H⟩ := H
                          replace H : (if t398 = x24_126 then (cellarlaw9_MemMoves.j14 kj126 y341 x4_1 t345 t349 t350 x8_3 x9_32 x17_7 (t382 != x27_126) l0_0 l0_1 l0_2 l0_3) else (cellarlaw9_MemMoves.j14 kj126 y341 x4_1 t345 t349 t350 x8_3 x9_32 x17_7 true l0_0 l0_1 l0_2 l0_3)) = some r := H
                          have A141 := Aside0.mk A1410
                          clear A1410
                          by_cases c142 : t398 = x24_126
                          rotate_left
                          ·rw [if_neg c142] at H
                           have c142b0 : (t398 == x24_126) = false := beq_eq_false_iff_ne.mpr c142
                           have c142b1 : (t398 != x24_126) = true := bne_iff_ne.mpr c142
                           have H' := Aside0.mk H
                           clear H
                           go_wp2_with (first | ((with_reducible refine gate_callee (f := 35) rfl ?_); refine zgo (some 210) Try.func35 #[.int .i64 t379] ?_; (with_reducible refine (cellarlaw9_num.calls t379 t397 _ A137.out).mono ?_); rintro e w' ⟨rfl, ⟨nd, rfl⟩⟩; refine ⟨_, rfl, ?_⟩) | (go_at_call 35; (with_reducible refine (cellarlaw9_num.calls t383 t398 _ A141.out).mono ?_); rintro e w' ⟨rfl, ⟨nd, rfl⟩⟩))
                           go_meet
                           case rel => exact ⟨_, (true), (zr), H', ⟨by have := HK1.out; have := HJ14.out; have := HK3.out; have := HJ32.out; have := HK5.out; have := HJ38.out; have := HK7.out; have := HJ98.out; have := HJ106.out; have := HJ115.out; have := HJ126.out; first | omega | exact Nat.le_refl _⟩, ⟨by (with_reducible repeat (first | apply Kd.R_alloc | apply Kd.R_drewN | apply Kd.R_drew)); exact HO_3.out⟩, ⟨by (with_reducible repeat (first | apply Kd.S_alloc | apply Kd.S_drewN | apply Kd.S_drew)); exact HO_5.out⟩, ⟨by (with_reducible repeat (first | apply Kd.R_alloc | apply Kd.R_drewN | apply Kd.R_drew)); exact HO_7.out⟩, ⟨zb BK336.out⟩, ⟨zw1 HB.out GE336.out⟩⟩
                          rw [if_pos c142] at H
                          have c142b0 : (t398 == x24_126) = true := beq_iff_eq.mpr c142
                          have c142b1 : (t398 != x24_126) = false := bne_eq_false_iff_eq.mpr c142
                          clear c142
                          have H' := Aside0.mk H
                          clear H
                          go_wp2_with (first | ((with_reducible refine gate_callee (f := 35) rfl ?_); refine zgo (some 210) Try.func35 #[.int .i64 t379] ?_; (with_reducible refine (cellarlaw9_num.calls t379 t397 _ A137.out).mono ?_); rintro e w' ⟨rfl, ⟨nd, rfl⟩⟩; refine ⟨_, rfl, ?_⟩) | (go_at_call 35; (with_reducible refine (cellarlaw9_num.calls t383 t398 _ A141.out).mono ?_); rintro e w' ⟨rfl, ⟨nd, rfl⟩⟩))
                          go_meet
                          case rel => exact ⟨_, ((t382 != x27_126)), (zr), H', ⟨by have := HK1.out; have := HJ14.out; have := HK3.out; have := HJ32.out; have := HK5.out; have := HJ38.out; have := HK7.out; have := HJ98.out; have := HJ106.out; have := HJ115.out; have := HJ126.out; first | omega | exact Nat.le_refl _⟩, ⟨by (with_reducible repeat (first | apply Kd.R_alloc | apply Kd.R_drewN | apply Kd.R_drew)); exact HO_3.out⟩, ⟨by (with_reducible repeat (first | apply Kd.S_alloc | apply Kd.S_drewN | apply Kd.S_drew)); exact HO_5.out⟩, ⟨by (with_reducible repeat (first | apply Kd.R_alloc | apply Kd.R_drewN | apply Kd.R_drew)); exact HO_7.out⟩, ⟨zb BK336.out⟩, ⟨zw1 HB.out GE336.out⟩⟩
                         case rest => as_aux_lemma =>
                          clear HC136
                          try clear c1; try clear p2; try clear c3; try clear p3; try clear q3; try clear c4; try clear c5; try clear c9; try clear c10; try clear c11; try clear c12; try clear c13; try clear c14; try clear c32; try clear p34; try clear q34; try clear c35; try clear p35; try clear q35; try clear p36; try clear q36; try clear p37; try clear q37; try clear p38; try clear q38; try clear p39; try clear q39; try clear c45; try clear c48; try clear c49; try clear c50; try clear c92; try clear c93; try clear c93b0; try clear c94; try clear c94b0; try clear c95; try clear c95b0; try clear c96; try clear c96b0; try clear c104; try clear c108; try clear c109; try clear c109b0; try clear c110; try clear c110b0; try clear c111; try clear c111b0; try clear c112; try clear c112b0; try clear c117; try clear c117b0; try clear c118; try clear c118b0; try clear c120; try clear c121; try clear c121b0; try clear c122; try clear c122b0; try clear c128; try clear c129; try clear c129b0; try clear c130; try clear c130b0; try clear c131; try clear c131b0; try clear c132; try clear c132b0; try clear c138; try clear c138b0; try clear c138b1; try clear c139; try clear c139b0; try clear c139b1; try clear c140; try clear c140b0; try clear c140b1; try clear c142; try clear c142b0; try clear c142b1; try clear p2; try clear p3; try clear p34; try clear p344; try clear p348; try clear p35; try clear p353; try clear p355; try clear p356; try clear p36; try clear p365; try clear p367; try clear p368; try clear p37; try clear p375; try clear p376; try clear p38; try clear p380; try clear p381; try clear p384; try clear p386; try clear p387; try clear p39; try clear p390; try clear p392; try clear p394; try clear p395; try clear q3; try clear q34; try clear q344; try clear q348; try clear q35; try clear q353; try clear q355; try clear q356; try clear q36; try clear q365; try clear q367; try clear q368; try clear q37; try clear q375; try clear q376; try clear q38; try clear q380; try clear q381; try clear q384; try clear q386; try clear q387; try clear q39; try clear q390; try clear q392; try clear q394; try clear q395
                          obtain ⟨kq, x233_135, rfl, HA, HJ135, HO_3, HO_5, HO_7, BK336, HB⟩ := hcut
                          cases kq with
                          | zero => exact absurd HA.out (by simp [cellarlaw9_MemMoves.j14])
                          | succ kj135 =>
                           have H := HA.out
                           clear HA
                           simp only [cellarlaw9_MemMoves.j14] at H
                           by_cases c143 : x233_135 = true
                           ·subst c143
                            have H1 : (some false) = some r := by rw [if_pos rfl] at H; exact H
                            clear H
                            have H := H1
                            clear H1
                            obtain rfl := Option.some.inj H
                            go_wp2
                            go_ret
                            exact ⟨ze, zw1 HB.out GE336.out⟩
                           replace c143 := Bool.eq_false_iff.mpr c143
                           subst c143
                           have H1 : (cellarlaw9_MemMoves.l3 kj135 y341 x4_1 t345 t349 t350 x8_3 x9_32 (wrap64 (x17_7 + 1)) l0_0 l0_1 l0_2 l0_3) = some r := by rw [if_neg (show ¬ (false = true) by decide)] at H; exact H
                           clear H
                           have H := H1
                           clear H1
                           have H' := Aside0.mk H
                           clear H
                           go_wp2
                           go_roundg kj135
                           case measure => have := HK1.out; have := HJ14.out; have := HK3.out; have := HJ32.out; have := HK5.out; have := HJ38.out; have := HK7.out; have := HJ98.out; have := HJ106.out; have := HJ115.out; have := HJ126.out; have := HJ135.out; omega
                           case rel => exact ⟨(wrap64 (x17_7 + 1)), (zr), H', ⟨by have := HK1.out; have := HJ14.out; have := HK3.out; have := HJ32.out; have := HK5.out; have := HJ38.out; have := HK7.out; have := HJ98.out; have := HJ106.out; have := HJ115.out; have := HJ126.out; have := HJ135.out; omega⟩, ⟨by (with_reducible repeat (first | apply Kd.R_alloc | apply Kd.R_drewN | apply Kd.R_drew)); exact HO_3.out⟩, ⟨by (with_reducible repeat (first | apply Kd.S_alloc | apply Kd.S_drewN | apply Kd.S_drew)); exact HO_5.out⟩, ⟨by (with_reducible repeat (first | apply Kd.R_alloc | apply Kd.R_drewN | apply Kd.R_drew)); exact HO_7.out⟩, ⟨zb BK336.out⟩, ⟨zw1 HB.out GE336.out⟩⟩
  ·rw [if_neg c7] at H
   exact absurd H (by simp)

end Go.Proofs.Ytjoplkillkhiaaa.M
