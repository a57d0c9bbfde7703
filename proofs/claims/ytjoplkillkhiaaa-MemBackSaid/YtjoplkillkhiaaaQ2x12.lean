-- Written by this session's own edition of the print.
import Derived.Test.YtjoplkillkhiaaaQ2x0
import Derived.Test.YtjoplkillkhiaaaQ2x1
import Derived.Test.YtjoplkillkhiaaaQ2x2
import Derived.Test.YtjoplkillkhiaaaQ2x3
import Derived.Test.YtjoplkillkhiaaaQ2x6
import Derived.Test.YtjoplkillkhiaaaQ2x7
import Derived.Test.YtjoplkillkhiaaaQ2x10
import Derived.Test.YtjoplkillkhiaaaQ2x11
import Derived.Test.YtjoplkillkhiaaaYSq
import Derived.Test.YtjoplkillkhiaaaYSq2
import Derived.Test.YtjoplkillkhiaaaYSq3
namespace Go.Proofs.Ytjoplkillkhiaaa.Q2
open Go.RowKit Go.Proofs.Ytjoplkillkhiaaa.Fn Go.Proofs.YtjoplkillkhiaaaW.PrintWords Go.Proofs.YtjoplkillkhiaaaW.PrintLast Go.Proofs.YtjoplkillkhiaaaW.PrintMore
attribute [local go_sem] max2_int min2_int max_two min_two max_three min_three max_four min_four   -- for this text's walks alone
set_option linter.unusedVariables false
set_option linter.unusedSimpArgs false

attribute [local go_sem high] eqA62 eqA74
/-! cellarlaw9_MemBack -/
mutual
def cellarlaw9_MemBack.l0 : Nat → Int → List (List (S76)) → List (S62) → List Int → List (S29) → Option (Bool)
 | 0, _, _, _, _, _ => none
 | k + 1, x3, x280000, x280001, x280002, x280003 => if x3 < (x280000.length : Int) then (cellarlaw9_MemBack.j1 k x3 (decide (x3 < 5)) x280000 x280001 x280002 x280003) else (cellarlaw9_MemBack.j1 k x3 false x280000 x280001 x280002 x280003)
def cellarlaw9_MemBack.j1 : Nat → Int → Bool → List (List (S76)) → List (S62) → List Int → List (S29) → Option (Bool)
 | 0, _, _, _, _, _, _ => none
 | k + 1, x3, x38, x280000, x280001, x280002, x280003 => if x38 = true then (if 0 ≤ x3 then (if x3 < (x280000.length : Int) then ((mem_Check.f (rd_L4 x280000 x3)).bind fun t283 => ((cellarlaw9_num.f t283).bind fun t284 => (if t284 = 0 then ((cellarlaw9_pointers.f k x280000 x280001 x280002 x280003 (rd_L4 x280000 x3)).bind fun t286 => (cellarlaw9_MemBack.l1 k x3 t286 0 x280000 x280001 x280002 x280003)) else (cellarlaw9_MemBack.l0 k (wrap64 (x3 + 1)) x280000 x280001 x280002 x280003)))) else (none)) else (none)) else ((cellarlaw9_wakes.f k).bind fun t281 => (some t281))
def cellarlaw9_MemBack.l1 : Nat → Int → List (S62) → Int → List (List (S76)) → List (S62) → List Int → List (S29) → Option (Bool)
 | 0, _, _, _, _, _, _, _ => none
 | k + 1, x3, x4, x5, x280000, x280001, x280002, x280003 => if x5 < (x4.length : Int) then (cellarlaw9_MemBack.l2 k x3 x4 x5 1 x280000 x280001 x280002 x280003 ((Int.tmod x5 2) == 0) (wrap64 (2 + (wrap64 (2 * (Int.tmod x3 2)))))) else (cellarlaw9_MemBack.l0 k (wrap64 (x3 + 1)) x280000 x280001 x280002 x280003)
def cellarlaw9_MemBack.l2 : Nat → Int → List (S62) → Int → Int → List (List (S76)) → List (S62) → List Int → List (S29) → Bool → Int → Option (Bool)
 | 0, _, _, _, _, _, _, _, _, _, _ => none
 | k + 1, x3, x4, x5, x7, x280000, x280001, x280002, x280003, x290000, x290001 => if x7 ≤ 7 then (if x7 = 7 then (cellarlaw9_MemBack.j4 k x3 x4 x5 x7 x280000 x280001 x280002 x280003 x290000 x290001 true 0 1 (Int.tmod x7 3)) else (cellarlaw9_MemBack.j4 k x3 x4 x5 x7 x280000 x280001 x280002 x280003 x290000 x290001 false (wrap64 (93 + x7)) 0 0)) else (if 0 ≤ x3 then (if x3 < (x280000.length : Int) then (if 0 ≤ x5 then (if x5 < (x4.length : Int) then ((mem_Move.f k (rd_L4 x280000 x3) ((rd_T62 x4 x5).f0) ((rd_T62 x4 x5).f1) ((rd_T62 x4 x5).f2) ((rd_T62 x4 x5).f3) 1).bind fun bt330 => ((cellarlaw9_num.f bt330.2.2.2.2.2).bind fun t337 => (if t337 = 0 then (cellarlaw9_MemBack.j11 k x3 x4 x5 (bt330.2.2.2.2.1 == 0) x280000 x280001 x280002 x280003 bt330.1 bt330.2.1 bt330.2.2.1 bt330.2.2.2.1) else (cellarlaw9_MemBack.j11 k x3 x4 x5 false x280000 x280001 x280002 x280003 bt330.1 bt330.2.1 bt330.2.2.1 bt330.2.2.2.1)))) else (none)) else (none)) else (none)) else (none))
def cellarlaw9_MemBack.j4 : Nat → Int → List (S62) → Int → Int → List (List (S76)) → List (S62) → List Int → List (S29) → Bool → Int → Bool → Int → Int → Int → Option (Bool)
 | 0, _, _, _, _, _, _, _, _, _, _, _, _, _, _ => none
 | k + 1, x3, x4, x5, x7, x280000, x280001, x280002, x280003, x290000, x290001, x291000, x291001, x291002, x291003 => if 0 ≤ x3 then (if x3 < (x280000.length : Int) then (if 0 ≤ x5 then (if x5 < (x4.length : Int) then ((mem_Store.f k x290000 x290001 (rd_L4 x280000 x3) ((rd_T62 x4 x5).f0) ((rd_T62 x4 x5).f1) ((rd_T62 x4 x5).f2) ((rd_T62 x4 x5).f3) x7 x291000 x291001 x291002 x291003).bind fun bt293 => ((cellarlaw9_num.f bt293.2.2).bind fun t298 => (if t298 = 0 then (cellarlaw9_MemBack.j5 k x3 x4 x5 x7 bt293.1 bt293.2.2 (bt293.2.1 != 0) x280000 x280001 x280002 x280003 x290000 x290001 x291000 x291001 x291002 x291003) else (cellarlaw9_MemBack.j5 k x3 x4 x5 x7 bt293.1 bt293.2.2 true x280000 x280001 x280002 x280003 x290000 x290001 x291000 x291001 x291002 x291003)))) else (none)) else (none)) else (none)) else (none)
def cellarlaw9_MemBack.j5 : Nat → Int → List (S62) → Int → Int → List (S76) → Int → Bool → List (List (S76)) → List (S62) → List Int → List (S29) → Bool → Int → Bool → Int → Int → Int → Option (Bool)
 | 0, _, _, _, _, _, _, _, _, _, _, _, _, _, _, _, _, _ => none
 | k + 1, x3, x4, x5, x7, x9, x11, x105, x280000, x280001, x280002, x280003, x290000, x290001, x291000, x291001, x291002, x291003 => if x105 = true then ((cellarlaw9_num.f x11).bind fun t299 => (if t299 = 0 then (if 0 ≤ x3 then (if x3 < (x280000.length : Int) then ((cellarref0_EqBlocks.f k x9 (rd_L4 x280000 x3)).bind fun t301 => (if t301 = true then (cellarlaw9_MemBack.l2 k x3 x4 x5 (wrap64 (x7 + 1)) x280000 x280001 x280002 x280003 x290000 x290001) else (some false))) else (none)) else (none)) else (cellarlaw9_MemBack.l2 k x3 x4 x5 (wrap64 (x7 + 1)) x280000 x280001 x280002 x280003 x290000 x290001))) else (if 0 ≤ x5 then (if x5 < (x4.length : Int) then ((mem_Load.f k x290000 x290001 x9 ((rd_T62 x4 x5).f0) ((rd_T62 x4 x5).f1) ((rd_T62 x4 x5).f2) ((rd_T62 x4 x5).f3) x7).bind fun bt303 => ((cellarlaw9_num.f bt303.2.2.2.2.2).bind fun t310 => (if t310 = 0 then (if bt303.2.2.2.2.1 = 0 then (if (!(bt303.1 == x291000) || (!(bt303.2.1 == x291001) || (!(bt303.2.2.1 == x291002) || (!(bt303.2.2.2.1 == x291003))))) = true then (cellarlaw9_MemBack.j6 k x3 x4 x5 x7 x9 true x280000 x280001 x280002 x280003 x290000 x290001) else (if 0 ≤ x3 then (if x3 < (x280000.length : Int) then (cellarlaw9_MemBack.j6 k x3 x4 x5 x7 x9 ((x9.length : Int) != ((rd_L4 x280000 x3).length : Int)) x280000 x280001 x280002 x280003 x290000 x290001) else (none)) else (none))) else (cellarlaw9_MemBack.j6 k x3 x4 x5 x7 x9 true x280000 x280001 x280002 x280003 x290000 x290001)) else (cellarlaw9_MemBack.j6 k x3 x4 x5 x7 x9 true x280000 x280001 x280002 x280003 x290000 x290001)))) else (none)) else (none))
def cellarlaw9_MemBack.j6 : Nat → Int → List (S62) → Int → Int → List (S76) → Bool → List (List (S76)) → List (S62) → List Int → List (S29) → Bool → Int → Option (Bool)
 | 0, _, _, _, _, _, _, _, _, _, _, _, _ => none
 | k + 1, x3, x4, x5, x7, x9, x153, x280000, x280001, x280002, x280003, x290000, x290001 => if x153 = true then (some false) else ((cellarref1_Size.f k x290000 x290001 x7).bind fun t312 => (cellarlaw9_MemBack.l3 k x3 x4 x5 x7 x9 t312 0 x280000 x280001 x280002 x280003 x290000 x290001))
def cellarlaw9_MemBack.l3 : Nat → Int → List (S62) → Int → Int → List (S76) → Int → Int → List (List (S76)) → List (S62) → List Int → List (S29) → Bool → Int → Option (Bool)
 | 0, _, _, _, _, _, _, _, _, _, _, _, _, _ => none
 | k + 1, x3, x4, x5, x7, x9, x15, x16, x280000, x280001, x280002, x280003, x290000, x290001 => if x16 < (x9.length : Int) then (if 0 ≤ x16 then (if 0 ≤ x3 then (if x3 < (x280000.length : Int) then (if x16 < ((rd_L4 x280000 x3).length : Int) then (if (((rd_T76 x9 x16).f1).length : Int) = (((rd_T76 (rd_L4 x280000 x3) x16).f1).length : Int) then (cellarlaw9_MemBack.j8 k x3 x4 x5 x7 x9 x15 x16 (((rd_T76 x9 x16).f0) != ((rd_T76 (rd_L4 x280000 x3) x16).f0)) x280000 x280001 x280002 x280003 x290000 x290001) else (cellarlaw9_MemBack.j8 k x3 x4 x5 x7 x9 x15 x16 true x280000 x280001 x280002 x280003 x290000 x290001)) else (none)) else (none)) else (none)) else (none)) else (cellarlaw9_MemBack.l2 k x3 x4 x5 (wrap64 (x7 + 1)) x280000 x280001 x280002 x280003 x290000 x290001)
def cellarlaw9_MemBack.j8 : Nat → Int → List (S62) → Int → Int → List (S76) → Int → Int → Bool → List (List (S76)) → List (S62) → List Int → List (S29) → Bool → Int → Option (Bool)
 | 0, _, _, _, _, _, _, _, _, _, _, _, _, _, _ => none
 | k + 1, x3, x4, x5, x7, x9, x15, x16, x196, x280000, x280001, x280002, x280003, x290000, x290001 => if x196 = true then (some false) else (cellarlaw9_MemBack.l4 k x3 x4 x5 x7 x9 x15 x16 0 x280000 x280001 x280002 x280003 x290000 x290001)
def cellarlaw9_MemBack.l4 : Nat → Int → List (S62) → Int → Int → List (S76) → Int → Int → Int → List (List (S76)) → List (S62) → List Int → List (S29) → Bool → Int → Option (Bool)
 | 0, _, _, _, _, _, _, _, _, _, _, _, _, _, _ => none
 | k + 1, x3, x4, x5, x7, x9, x15, x16, x17, x280000, x280001, x280002, x280003, x290000, x290001 => if 0 ≤ x16 then (if x16 < (x9.length : Int) then (if x17 < (((rd_T76 x9 x16).f1).length : Int) then (if 0 ≤ x5 then (if x5 < (x4.length : Int) then (if x16 = ((rd_T62 x4 x5).f2) then (if x17 ≥ ((rd_T62 x4 x5).f3) then (cellarlaw9_MemBack.j10 k x3 x4 x5 x7 x9 x15 x16 x17 (decide (x17 < (wrap64 (((rd_T62 x4 x5).f3) + x15)))) x280000 x280001 x280002 x280003 x290000 x290001) else (cellarlaw9_MemBack.j10 k x3 x4 x5 x7 x9 x15 x16 x17 false x280000 x280001 x280002 x280003 x290000 x290001)) else (cellarlaw9_MemBack.j10 k x3 x4 x5 x7 x9 x15 x16 x17 false x280000 x280001 x280002 x280003 x290000 x290001)) else (none)) else (none)) else (cellarlaw9_MemBack.l3 k x3 x4 x5 x7 x9 x15 (wrap64 (x16 + 1)) x280000 x280001 x280002 x280003 x290000 x290001)) else (none)) else (none)
def cellarlaw9_MemBack.j10 : Nat → Int → List (S62) → Int → Int → List (S76) → Int → Int → Int → Bool → List (List (S76)) → List (S62) → List Int → List (S29) → Bool → Int → Option (Bool)
 | 0, _, _, _, _, _, _, _, _, _, _, _, _, _, _, _ => none
 | k + 1, x3, x4, x5, x7, x9, x15, x16, x17, x18, x280000, x280001, x280002, x280003, x290000, x290001 => if x18 = true then (cellarlaw9_MemBack.l4 k x3 x4 x5 x7 x9 x15 x16 (wrap64 (x17 + 1)) x280000 x280001 x280002 x280003 x290000 x290001) else (if 0 ≤ x16 then (if x16 < (x9.length : Int) then (if 0 ≤ x17 then (if x17 < (((rd_T76 x9 x16).f1).length : Int) then (if 0 ≤ x3 then (if x3 < (x280000.length : Int) then (if x16 < ((rd_L4 x280000 x3).length : Int) then (if x17 < (((rd_T76 (rd_L4 x280000 x3) x16).f1).length : Int) then (if (!(((rd_T74 ((rd_T76 x9 x16).f1) x17).f0) == ((rd_T74 ((rd_T76 (rd_L4 x280000 x3) x16).f1) x17).f0)) || (!(((rd_T74 ((rd_T76 x9 x16).f1) x17).f1) == ((rd_T74 ((rd_T76 (rd_L4 x280000 x3) x16).f1) x17).f1)) || (!(((rd_T74 ((rd_T76 x9 x16).f1) x17).f2) == ((rd_T74 ((rd_T76 (rd_L4 x280000 x3) x16).f1) x17).f2)) || (!(((rd_T74 ((rd_T76 x9 x16).f1) x17).f3) == ((rd_T74 ((rd_T76 (rd_L4 x280000 x3) x16).f1) x17).f3)) || (!(((rd_T74 ((rd_T76 x9 x16).f1) x17).f4) == ((rd_T74 ((rd_T76 (rd_L4 x280000 x3) x16).f1) x17).f4))))))) = true then (some false) else (cellarlaw9_MemBack.l4 k x3 x4 x5 x7 x9 x15 x16 (wrap64 (x17 + 1)) x280000 x280001 x280002 x280003 x290000 x290001)) else (none)) else (none)) else (none)) else (none)) else (none)) else (none)) else (none)) else (none))
def cellarlaw9_MemBack.j11 : Nat → Int → List (S62) → Int → Bool → List (List (S76)) → List (S62) → List Int → List (S29) → Bool → Int → Int → Int → Option (Bool)
 | 0, _, _, _, _, _, _, _, _, _, _, _, _ => none
 | k + 1, x3, x4, x5, x279, x280000, x280001, x280002, x280003, x337000, x337001, x337002, x337003 => if x279 = true then (if 0 ≤ x3 then (if x3 < (x280000.length : Int) then ((mem_Move.f k (rd_L4 x280000 x3) x337000 x337001 x337002 x337003 4294967295).bind fun bt339 => (if 0 ≤ x5 then (if x5 < (x4.length : Int) then ((mem_Apart.f (rd_L4 x280000 x3) x337000 x337001 x337002 x337003 ((rd_T62 x4 x5).f0) ((rd_T62 x4 x5).f1) ((rd_T62 x4 x5).f2) ((rd_T62 x4 x5).f3)).bind fun bt348 => ((cellarlaw9_num.f bt339.2.2.2.2.2).bind fun t351 => (if t351 = 0 then ((cellarlaw9_num.f bt348.2.2).bind fun t352 => (if t352 = 0 then (if bt339.2.2.2.2.1 = 0 then (if bt348.2.1 = 0 then (if (!(bt339.1 == ((rd_T62 x4 x5).f0)) || (!(bt339.2.1 == ((rd_T62 x4 x5).f1)) || (!(bt339.2.2.1 == ((rd_T62 x4 x5).f2)) || (!(bt339.2.2.2.1 == ((rd_T62 x4 x5).f3)))))) = true then (cellarlaw9_MemBack.j12 k x3 x4 x5 true x280000 x280001 x280002 x280003) else (cellarlaw9_MemBack.j12 k x3 x4 x5 (bt348.1 != 1) x280000 x280001 x280002 x280003)) else (cellarlaw9_MemBack.j12 k x3 x4 x5 true x280000 x280001 x280002 x280003)) else (cellarlaw9_MemBack.j12 k x3 x4 x5 true x280000 x280001 x280002 x280003)) else (cellarlaw9_MemBack.j12 k x3 x4 x5 true x280000 x280001 x280002 x280003))) else (cellarlaw9_MemBack.j12 k x3 x4 x5 true x280000 x280001 x280002 x280003)))) else (none)) else (none))) else (none)) else (none)) else (cellarlaw9_MemBack.l1 k x3 x4 (wrap64 (x5 + 1)) x280000 x280001 x280002 x280003)
def cellarlaw9_MemBack.j12 : Nat → Int → List (S62) → Int → Bool → List (List (S76)) → List (S62) → List Int → List (S29) → Option (Bool)
 | 0, _, _, _, _, _, _, _, _ => none
 | k + 1, x3, x4, x5, x333, x280000, x280001, x280002, x280003 => if x333 = true then (some false) else (cellarlaw9_MemBack.l1 k x3 x4 (wrap64 (x5 + 1)) x280000 x280001 x280002 x280003)
end
def cellarlaw9_MemBack.f (k : Nat) (l0_0 : List (List (S76))) (l0_1 : List (S62)) (l0_2 : List Int) (l0_3 : List (S29)) : Option (Bool) := (cellarlaw9_Heavy.f k l0_0 l0_1 l0_2 l0_3).bind fun t280 => (if t280 = true then (some true) else (cellarlaw9_MemBack.l0 k 0 l0_0 l0_1 l0_2 l0_3))
theorem cellarlaw9_MemBack.mono_l : ∀ k, (∀ y0 y1 y2 y3 y4, LeO (cellarlaw9_MemBack.l0 k y0 y1 y2 y3 y4) (cellarlaw9_MemBack.l0 (k + 1) y0 y1 y2 y3 y4)) ∧ (∀ y0 y1 y2 y3 y4 y5, LeO (cellarlaw9_MemBack.j1 k y0 y1 y2 y3 y4 y5) (cellarlaw9_MemBack.j1 (k + 1) y0 y1 y2 y3 y4 y5)) ∧ (∀ y0 y1 y2 y3 y4 y5 y6, LeO (cellarlaw9_MemBack.l1 k y0 y1 y2 y3 y4 y5 y6) (cellarlaw9_MemBack.l1 (k + 1) y0 y1 y2 y3 y4 y5 y6)) ∧ (∀ y0 y1 y2 y3 y4 y5 y6 y7 y8 y9, LeO (cellarlaw9_MemBack.l2 k y0 y1 y2 y3 y4 y5 y6 y7 y8 y9) (cellarlaw9_MemBack.l2 (k + 1) y0 y1 y2 y3 y4 y5 y6 y7 y8 y9)) ∧ (∀ y0 y1 y2 y3 y4 y5 y6 y7 y8 y9 y10 y11 y12 y13, LeO (cellarlaw9_MemBack.j4 k y0 y1 y2 y3 y4 y5 y6 y7 y8 y9 y10 y11 y12 y13) (cellarlaw9_MemBack.j4 (k + 1) y0 y1 y2 y3 y4 y5 y6 y7 y8 y9 y10 y11 y12 y13)) ∧ (∀ y0 y1 y2 y3 y4 y5 y6 y7 y8 y9 y10 y11 y12 y13 y14 y15 y16, LeO (cellarlaw9_MemBack.j5 k y0 y1 y2 y3 y4 y5 y6 y7 y8 y9 y10 y11 y12 y13 y14 y15 y16) (cellarlaw9_MemBack.j5 (k + 1) y0 y1 y2 y3 y4 y5 y6 y7 y8 y9 y10 y11 y12 y13 y14 y15 y16)) ∧ (∀ y0 y1 y2 y3 y4 y5 y6 y7 y8 y9 y10 y11, LeO (cellarlaw9_MemBack.j6 k y0 y1 y2 y3 y4 y5 y6 y7 y8 y9 y10 y11) (cellarlaw9_MemBack.j6 (k + 1) y0 y1 y2 y3 y4 y5 y6 y7 y8 y9 y10 y11)) ∧ (∀ y0 y1 y2 y3 y4 y5 y6 y7 y8 y9 y10 y11 y12, LeO (cellarlaw9_MemBack.l3 k y0 y1 y2 y3 y4 y5 y6 y7 y8 y9 y10 y11 y12) (cellarlaw9_MemBack.l3 (k + 1) y0 y1 y2 y3 y4 y5 y6 y7 y8 y9 y10 y11 y12)) ∧ (∀ y0 y1 y2 y3 y4 y5 y6 y7 y8 y9 y10 y11 y12 y13, LeO (cellarlaw9_MemBack.j8 k y0 y1 y2 y3 y4 y5 y6 y7 y8 y9 y10 y11 y12 y13) (cellarlaw9_MemBack.j8 (k + 1) y0 y1 y2 y3 y4 y5 y6 y7 y8 y9 y10 y11 y12 y13)) ∧ (∀ y0 y1 y2 y3 y4 y5 y6 y7 y8 y9 y10 y11 y12 y13, LeO (cellarlaw9_MemBack.l4 k y0 y1 y2 y3 y4 y5 y6 y7 y8 y9 y10 y11 y12 y13) (cellarlaw9_MemBack.l4 (k + 1) y0 y1 y2 y3 y4 y5 y6 y7 y8 y9 y10 y11 y12 y13)) ∧ (∀ y0 y1 y2 y3 y4 y5 y6 y7 y8 y9 y10 y11 y12 y13 y14, LeO (cellarlaw9_MemBack.j10 k y0 y1 y2 y3 y4 y5 y6 y7 y8 y9 y10 y11 y12 y13 y14) (cellarlaw9_MemBack.j10 (k + 1) y0 y1 y2 y3 y4 y5 y6 y7 y8 y9 y10 y11 y12 y13 y14)) ∧ (∀ y0 y1 y2 y3 y4 y5 y6 y7 y8 y9 y10 y11, LeO (cellarlaw9_MemBack.j11 k y0 y1 y2 y3 y4 y5 y6 y7 y8 y9 y10 y11) (cellarlaw9_MemBack.j11 (k + 1) y0 y1 y2 y3 y4 y5 y6 y7 y8 y9 y10 y11)) ∧ (∀ y0 y1 y2 y3 y4 y5 y6 y7, LeO (cellarlaw9_MemBack.j12 k y0 y1 y2 y3 y4 y5 y6 y7) (cellarlaw9_MemBack.j12 (k + 1) y0 y1 y2 y3 y4 y5 y6 y7))
 | 0 => ⟨fun _ _ _ _ _ r h => by simp [cellarlaw9_MemBack.l0] at h, fun _ _ _ _ _ _ r h => by simp [cellarlaw9_MemBack.j1] at h, fun _ _ _ _ _ _ _ r h => by simp [cellarlaw9_MemBack.l1] at h, fun _ _ _ _ _ _ _ _ _ _ r h => by simp [cellarlaw9_MemBack.l2] at h, fun _ _ _ _ _ _ _ _ _ _ _ _ _ _ r h => by simp [cellarlaw9_MemBack.j4] at h, fun _ _ _ _ _ _ _ _ _ _ _ _ _ _ _ _ _ r h => by simp [cellarlaw9_MemBack.j5] at h, fun _ _ _ _ _ _ _ _ _ _ _ _ r h => by simp [cellarlaw9_MemBack.j6] at h, fun _ _ _ _ _ _ _ _ _ _ _ _ _ r h => by simp [cellarlaw9_MemBack.l3] at h, fun _ _ _ _ _ _ _ _ _ _ _ _ _ _ r h => by simp [cellarlaw9_MemBack.j8] at h, fun _ _ _ _ _ _ _ _ _ _ _ _ _ _ r h => by simp [cellarlaw9_MemBack.l4] at h, fun _ _ _ _ _ _ _ _ _ _ _ _ _ _ _ r h => by simp [cellarlaw9_MemBack.j10] at h, fun _ _ _ _ _ _ _ _ _ _ _ _ r h => by simp [cellarlaw9_MemBack.j11] at h, fun _ _ _ _ _ _ _ _ r h => by simp [cellarlaw9_MemBack.j12] at h⟩
 | k + 1 => by
  obtain ⟨ih0, ih1, ih2, ih3, ih4, ih5, ih6, ih7, ih8, ih9, ih10, ih11, ih12⟩ := cellarlaw9_MemBack.mono_l k
  refine ⟨?_, ?_, ?_, ?_, ?_, ?_, ?_, ?_, ?_, ?_, ?_, ?_, ?_⟩
  ·intro y0 y1 y2 y3 y4
   unfold cellarlaw9_MemBack.l0
   repeat' first
   | (with_reducible apply ih0)
   | (with_reducible apply ih1)
   | (with_reducible apply ih2)
   | (with_reducible apply ih3)
   | (with_reducible apply ih4)
   | (with_reducible apply ih5)
   | (with_reducible apply ih6)
   | (with_reducible apply ih7)
   | (with_reducible apply ih8)
   | (with_reducible apply ih9)
   | (with_reducible apply ih10)
   | (with_reducible apply ih11)
   | (with_reducible apply ih12)
   | (with_reducible apply cellarlaw9_Heavy.mono)
   | (with_reducible apply cellarlaw9_pointers.mono)
   | (with_reducible apply cellarlaw9_wakes.mono)
   | (with_reducible apply cellarref0_EqBlocks.mono)
   | (with_reducible apply cellarref1_Size.mono)
   | (with_reducible apply mem_Load.mono)
   | (with_reducible apply mem_Move.mono)
   | (with_reducible apply mem_Store.mono)
   | (with_reducible apply LeO.refl)
   | (with_reducible apply LeO.none)
   | (with_reducible refine LeO.ite ?_ ?_)
   | (with_reducible refine LeO.bind ?_ (fun _ => ?_))
  ·intro y0 y1 y2 y3 y4 y5
   unfold cellarlaw9_MemBack.j1
   repeat' first
   | (with_reducible apply ih0)
   | (with_reducible apply ih1)
   | (with_reducible apply ih2)
   | (with_reducible apply ih3)
   | (with_reducible apply ih4)
   | (with_reducible apply ih5)
   | (with_reducible apply ih6)
   | (with_reducible apply ih7)
   | (with_reducible apply ih8)
   | (with_reducible apply ih9)
   | (with_reducible apply ih10)
   | (with_reducible apply ih11)
   | (with_reducible apply ih12)
   | (with_reducible apply cellarlaw9_Heavy.mono)
   | (with_reducible apply cellarlaw9_pointers.mono)
   | (with_reducible apply cellarlaw9_wakes.mono)
   | (with_reducible apply cellarref0_EqBlocks.mono)
   | (with_reducible apply cellarref1_Size.mono)
   | (with_reducible apply mem_Load.mono)
   | (with_reducible apply mem_Move.mono)
   | (with_reducible apply mem_Store.mono)
   | (with_reducible apply LeO.refl)
   | (with_reducible apply LeO.none)
   | (with_reducible refine LeO.ite ?_ ?_)
   | (with_reducible refine LeO.bind ?_ (fun _ => ?_))
  ·intro y0 y1 y2 y3 y4 y5 y6
   unfold cellarlaw9_MemBack.l1
   repeat' first
   | (with_reducible apply ih0)
   | (with_reducible apply ih1)
   | (with_reducible apply ih2)
   | (with_reducible apply ih3)
   | (with_reducible apply ih4)
   | (with_reducible apply ih5)
   | (with_reducible apply ih6)
   | (with_reducible apply ih7)
   | (with_reducible apply ih8)
   | (with_reducible apply ih9)
   | (with_reducible apply ih10)
   | (with_reducible apply ih11)
   | (with_reducible apply ih12)
   | (with_reducible apply cellarlaw9_Heavy.mono)
   | (with_reducible apply cellarlaw9_pointers.mono)
   | (with_reducible apply cellarlaw9_wakes.mono)
   | (with_reducible apply cellarref0_EqBlocks.mono)
   | (with_reducible apply cellarref1_Size.mono)
   | (with_reducible apply mem_Load.mono)
   | (with_reducible apply mem_Move.mono)
   | (with_reducible apply mem_Store.mono)
   | (with_reducible apply LeO.refl)
   | (with_reducible apply LeO.none)
   | (with_reducible refine LeO.ite ?_ ?_)
   | (with_reducible refine LeO.bind ?_ (fun _ => ?_))
  ·intro y0 y1 y2 y3 y4 y5 y6 y7 y8 y9
   unfold cellarlaw9_MemBack.l2
   repeat' first
   | (with_reducible apply ih0)
   | (with_reducible apply ih1)
   | (with_reducible apply ih2)
   | (with_reducible apply ih3)
   | (with_reducible apply ih4)
   | (with_reducible apply ih5)
   | (with_reducible apply ih6)
   | (with_reducible apply ih7)
   | (with_reducible apply ih8)
   | (with_reducible apply ih9)
   | (with_reducible apply ih10)
   | (with_reducible apply ih11)
   | (with_reducible apply ih12)
   | (with_reducible apply cellarlaw9_Heavy.mono)
   | (with_reducible apply cellarlaw9_pointers.mono)
   | (with_reducible apply cellarlaw9_wakes.mono)
   | (with_reducible apply cellarref0_EqBlocks.mono)
   | (with_reducible apply cellarref1_Size.mono)
   | (with_reducible apply mem_Load.mono)
   | (with_reducible apply mem_Move.mono)
   | (with_reducible apply mem_Store.mono)
   | (with_reducible apply LeO.refl)
   | (with_reducible apply LeO.none)
   | (with_reducible refine LeO.ite ?_ ?_)
   | (with_reducible refine LeO.bind ?_ (fun _ => ?_))
  ·intro y0 y1 y2 y3 y4 y5 y6 y7 y8 y9 y10 y11 y12 y13
   unfold cellarlaw9_MemBack.j4
   repeat' first
   | (with_reducible apply ih0)
   | (with_reducible apply ih1)
   | (with_reducible apply ih2)
   | (with_reducible apply ih3)
   | (with_reducible apply ih4)
   | (with_reducible apply ih5)
   | (with_reducible apply ih6)
   | (with_reducible apply ih7)
   | (with_reducible apply ih8)
   | (with_reducible apply ih9)
   | (with_reducible apply ih10)
   | (with_reducible apply ih11)
   | (with_reducible apply ih12)
   | (with_reducible apply cellarlaw9_Heavy.mono)
   | (with_reducible apply cellarlaw9_pointers.mono)
   | (with_reducible apply cellarlaw9_wakes.mono)
   | (with_reducible apply cellarref0_EqBlocks.mono)
   | (with_reducible apply cellarref1_Size.mono)
   | (with_reducible apply mem_Load.mono)
   | (with_reducible apply mem_Move.mono)
   | (with_reducible apply mem_Store.mono)
   | (with_reducible apply LeO.refl)
   | (with_reducible apply LeO.none)
   | (with_reducible refine LeO.ite ?_ ?_)
   | (with_reducible refine LeO.bind ?_ (fun _ => ?_))
  ·intro y0 y1 y2 y3 y4 y5 y6 y7 y8 y9 y10 y11 y12 y13 y14 y15 y16
   unfold cellarlaw9_MemBack.j5
   repeat' first
   | (with_reducible apply ih0)
   | (with_reducible apply ih1)
   | (with_reducible apply ih2)
   | (with_reducible apply ih3)
   | (with_reducible apply ih4)
   | (with_reducible apply ih5)
   | (with_reducible apply ih6)
   | (with_reducible apply ih7)
   | (with_reducible apply ih8)
   | (with_reducible apply ih9)
   | (with_reducible apply ih10)
   | (with_reducible apply ih11)
   | (with_reducible apply ih12)
   | (with_reducible apply cellarlaw9_Heavy.mono)
   | (with_reducible apply cellarlaw9_pointers.mono)
   | (with_reducible apply cellarlaw9_wakes.mono)
   | (with_reducible apply cellarref0_EqBlocks.mono)
   | (with_reducible apply cellarref1_Size.mono)
   | (with_reducible apply mem_Load.mono)
   | (with_reducible apply mem_Move.mono)
   | (with_reducible apply mem_Store.mono)
   | (with_reducible apply LeO.refl)
   | (with_reducible apply LeO.none)
   | (with_reducible refine LeO.ite ?_ ?_)
   | (with_reducible refine LeO.bind ?_ (fun _ => ?_))
  ·intro y0 y1 y2 y3 y4 y5 y6 y7 y8 y9 y10 y11
   unfold cellarlaw9_MemBack.j6
   repeat' first
   | (with_reducible apply ih0)
   | (with_reducible apply ih1)
   | (with_reducible apply ih2)
   | (with_reducible apply ih3)
   | (with_reducible apply ih4)
   | (with_reducible apply ih5)
   | (with_reducible apply ih6)
   | (with_reducible apply ih7)
   | (with_reducible apply ih8)
   | (with_reducible apply ih9)
   | (with_reducible apply ih10)
   | (with_reducible apply ih11)
   | (with_reducible apply ih12)
   | (with_reducible apply cellarlaw9_Heavy.mono)
   | (with_reducible apply cellarlaw9_pointers.mono)
   | (with_reducible apply cellarlaw9_wakes.mono)
   | (with_reducible apply cellarref0_EqBlocks.mono)
   | (with_reducible apply cellarref1_Size.mono)
   | (with_reducible apply mem_Load.mono)
   | (with_reducible apply mem_Move.mono)
   | (with_reducible apply mem_Store.mono)
   | (with_reducible apply LeO.refl)
   | (with_reducible apply LeO.none)
   | (with_reducible refine LeO.ite ?_ ?_)
   | (with_reducible refine LeO.bind ?_ (fun _ => ?_))
  ·intro y0 y1 y2 y3 y4 y5 y6 y7 y8 y9 y10 y11 y12
   unfold cellarlaw9_MemBack.l3
   repeat' first
   | (with_reducible apply ih0)
   | (with_reducible apply ih1)
   | (with_reducible apply ih2)
   | (with_reducible apply ih3)
   | (with_reducible apply ih4)
   | (with_reducible apply ih5)
   | (with_reducible apply ih6)
   | (with_reducible apply ih7)
   | (with_reducible apply ih8)
   | (with_reducible apply ih9)
   | (with_reducible apply ih10)
   | (with_reducible apply ih11)
   | (with_reducible apply ih12)
   | (with_reducible apply cellarlaw9_Heavy.mono)
   | (with_reducible apply cellarlaw9_pointers.mono)
   | (with_reducible apply cellarlaw9_wakes.mono)
   | (with_reducible apply cellarref0_EqBlocks.mono)
   | (with_reducible apply cellarref1_Size.mono)
   | (with_reducible apply mem_Load.mono)
   | (with_reducible apply mem_Move.mono)
   | (with_reducible apply mem_Store.mono)
   | (with_reducible apply LeO.refl)
   | (with_reducible apply LeO.none)
   | (with_reducible refine LeO.ite ?_ ?_)
   | (with_reducible refine LeO.bind ?_ (fun _ => ?_))
  ·intro y0 y1 y2 y3 y4 y5 y6 y7 y8 y9 y10 y11 y12 y13
   unfold cellarlaw9_MemBack.j8
   repeat' first
   | (with_reducible apply ih0)
   | (with_reducible apply ih1)
   | (with_reducible apply ih2)
   | (with_reducible apply ih3)
   | (with_reducible apply ih4)
   | (with_reducible apply ih5)
   | (with_reducible apply ih6)
   | (with_reducible apply ih7)
   | (with_reducible apply ih8)
   | (with_reducible apply ih9)
   | (with_reducible apply ih10)
   | (with_reducible apply ih11)
   | (with_reducible apply ih12)
   | (with_reducible apply cellarlaw9_Heavy.mono)
   | (with_reducible apply cellarlaw9_pointers.mono)
   | (with_reducible apply cellarlaw9_wakes.mono)
   | (with_reducible apply cellarref0_EqBlocks.mono)
   | (with_reducible apply cellarref1_Size.mono)
   | (with_reducible apply mem_Load.mono)
   | (with_reducible apply mem_Move.mono)
   | (with_reducible apply mem_Store.mono)
   | (with_reducible apply LeO.refl)
   | (with_reducible apply LeO.none)
   | (with_reducible refine LeO.ite ?_ ?_)
   | (with_reducible refine LeO.bind ?_ (fun _ => ?_))
  ·intro y0 y1 y2 y3 y4 y5 y6 y7 y8 y9 y10 y11 y12 y13
   unfold cellarlaw9_MemBack.l4
   repeat' first
   | (with_reducible apply ih0)
   | (with_reducible apply ih1)
   | (with_reducible apply ih2)
   | (with_reducible apply ih3)
   | (with_reducible apply ih4)
   | (with_reducible apply ih5)
   | (with_reducible apply ih6)
   | (with_reducible apply ih7)
   | (with_reducible apply ih8)
   | (with_reducible apply ih9)
   | (with_reducible apply ih10)
   | (with_reducible apply ih11)
   | (with_reducible apply ih12)
   | (with_reducible apply cellarlaw9_Heavy.mono)
   | (with_reducible apply cellarlaw9_pointers.mono)
   | (with_reducible apply cellarlaw9_wakes.mono)
   | (with_reducible apply cellarref0_EqBlocks.mono)
   | (with_reducible apply cellarref1_Size.mono)
   | (with_reducible apply mem_Load.mono)
   | (with_reducible apply mem_Move.mono)
   | (with_reducible apply mem_Store.mono)
   | (with_reducible apply LeO.refl)
   | (with_reducible apply LeO.none)
   | (with_reducible refine LeO.ite ?_ ?_)
   | (with_reducible refine LeO.bind ?_ (fun _ => ?_))
  ·intro y0 y1 y2 y3 y4 y5 y6 y7 y8 y9 y10 y11 y12 y13 y14
   unfold cellarlaw9_MemBack.j10
   repeat' first
   | (with_reducible apply ih0)
   | (with_reducible apply ih1)
   | (with_reducible apply ih2)
   | (with_reducible apply ih3)
   | (with_reducible apply ih4)
   | (with_reducible apply ih5)
   | (with_reducible apply ih6)
   | (with_reducible apply ih7)
   | (with_reducible apply ih8)
   | (with_reducible apply ih9)
   | (with_reducible apply ih10)
   | (with_reducible apply ih11)
   | (with_reducible apply ih12)
   | (with_reducible apply cellarlaw9_Heavy.mono)
   | (with_reducible apply cellarlaw9_pointers.mono)
   | (with_reducible apply cellarlaw9_wakes.mono)
   | (with_reducible apply cellarref0_EqBlocks.mono)
   | (with_reducible apply cellarref1_Size.mono)
   | (with_reducible apply mem_Load.mono)
   | (with_reducible apply mem_Move.mono)
   | (with_reducible apply mem_Store.mono)
   | (with_reducible apply LeO.refl)
   | (with_reducible apply LeO.none)
   | (with_reducible refine LeO.ite ?_ ?_)
   | (with_reducible refine LeO.bind ?_ (fun _ => ?_))
  ·intro y0 y1 y2 y3 y4 y5 y6 y7 y8 y9 y10 y11
   unfold cellarlaw9_MemBack.j11
   repeat' first
   | (with_reducible apply ih0)
   | (with_reducible apply ih1)
   | (with_reducible apply ih2)
   | (with_reducible apply ih3)
   | (with_reducible apply ih4)
   | (with_reducible apply ih5)
   | (with_reducible apply ih6)
   | (with_reducible apply ih7)
   | (with_reducible apply ih8)
   | (with_reducible apply ih9)
   | (with_reducible apply ih10)
   | (with_reducible apply ih11)
   | (with_reducible apply ih12)
   | (with_reducible apply cellarlaw9_Heavy.mono)
   | (with_reducible apply cellarlaw9_pointers.mono)
   | (with_reducible apply cellarlaw9_wakes.mono)
   | (with_reducible apply cellarref0_EqBlocks.mono)
   | (with_reducible apply cellarref1_Size.mono)
   | (with_reducible apply mem_Load.mono)
   | (with_reducible apply mem_Move.mono)
   | (with_reducible apply mem_Store.mono)
   | (with_reducible apply LeO.refl)
   | (with_reducible apply LeO.none)
   | (with_reducible refine LeO.ite ?_ ?_)
   | (with_reducible refine LeO.bind ?_ (fun _ => ?_))
  ·intro y0 y1 y2 y3 y4 y5 y6 y7
   unfold cellarlaw9_MemBack.j12
   repeat' first
   | (with_reducible apply ih0)
   | (with_reducible apply ih1)
   | (with_reducible apply ih2)
   | (with_reducible apply ih3)
   | (with_reducible apply ih4)
   | (with_reducible apply ih5)
   | (with_reducible apply ih6)
   | (with_reducible apply ih7)
   | (with_reducible apply ih8)
   | (with_reducible apply ih9)
   | (with_reducible apply ih10)
   | (with_reducible apply ih11)
   | (with_reducible apply ih12)
   | (with_reducible apply cellarlaw9_Heavy.mono)
   | (with_reducible apply cellarlaw9_pointers.mono)
   | (with_reducible apply cellarlaw9_wakes.mono)
   | (with_reducible apply cellarref0_EqBlocks.mono)
   | (with_reducible apply cellarref1_Size.mono)
   | (with_reducible apply mem_Load.mono)
   | (with_reducible apply mem_Move.mono)
   | (with_reducible apply mem_Store.mono)
   | (with_reducible apply LeO.refl)
   | (with_reducible apply LeO.none)
   | (with_reducible refine LeO.ite ?_ ?_)
   | (with_reducible refine LeO.bind ?_ (fun _ => ?_))
theorem cellarlaw9_MemBack.mono : ∀ a0 a1 a2 a3 k, LeO (cellarlaw9_MemBack.f k a0 a1 a2 a3) (cellarlaw9_MemBack.f (k + 1) a0 a1 a2 a3) := by
 intro a0 a1 a2 a3 k
 obtain ⟨ih0, ih1, ih2, ih3, ih4, ih5, ih6, ih7, ih8, ih9, ih10, ih11, ih12⟩ := cellarlaw9_MemBack.mono_l k
 unfold cellarlaw9_MemBack.f
 repeat' first
   | (with_reducible apply ih0)
   | (with_reducible apply ih1)
   | (with_reducible apply ih2)
   | (with_reducible apply ih3)
   | (with_reducible apply ih4)
   | (with_reducible apply ih5)
   | (with_reducible apply ih6)
   | (with_reducible apply ih7)
   | (with_reducible apply ih8)
   | (with_reducible apply ih9)
   | (with_reducible apply ih10)
   | (with_reducible apply ih11)
   | (with_reducible apply ih12)
   | (with_reducible apply cellarlaw9_Heavy.mono)
   | (with_reducible apply cellarlaw9_pointers.mono)
   | (with_reducible apply cellarlaw9_wakes.mono)
   | (with_reducible apply cellarref0_EqBlocks.mono)
   | (with_reducible apply cellarref1_Size.mono)
   | (with_reducible apply mem_Load.mono)
   | (with_reducible apply mem_Move.mono)
   | (with_reducible apply mem_Store.mono)
   | (with_reducible apply LeO.refl)
   | (with_reducible apply LeO.none)
   | (with_reducible refine LeO.ite ?_ ?_)
   | (with_reducible refine LeO.bind ?_ (fun _ => ?_))
def cellarlaw9_MemBack.T7 : Bool × List (List Nat × List Nat) := (true, [([], []), ([], []), ([1], [1]), ([], []), ([2, 3], [2, 3]), ([4], [4]), ([0, 5], [0, 5]), ([6, 6, 0, 1, 2, 3, 4, 5, 6], [6])])
def cellarlaw9_MemBack.B7 : List Nat := [0, 0, 2, 0, 14, 30, 63, 127]
theorem cellarlaw9_MemBack.tab7 : rtab .any (opsOf Try.f9 7) = cellarlaw9_MemBack.T7 := by kernel_rfl
theorem cellarlaw9_MemBack.bits7 : waitsOk cellarlaw9_MemBack.T7.2 cellarlaw9_MemBack.B7 = true := by kernel_rfl
def cellarlaw9_MemBack.T18 : Bool × List (List Nat × List Nat) := (true, [([], []), ([], []), ([1], [1]), ([], []), ([2, 3], [2, 3]), ([4], [4]), ([], []), ([], []), ([6, 7], [6, 7]), ([8], [8]), ([], []), ([], []), ([0, 5, 9, 10, 11], [0, 5, 9, 10, 11]), ([12], [12]), ([13], [13]), ([13], [13]), ([13], [13]), ([14, 12, 0, 1, 2, 3, 4, 5, 6, 7, 8, 9, 10, 11, 12, 13, 14], [14]), ([15, 17, 0, 1, 2, 3, 4, 5, 6, 7, 8, 9, 10, 11, 12, 13, 14, 15, 17], [15]), ([16, 18, 0, 1, 2, 3, 4, 5, 6, 7, 8, 9, 10, 11, 12, 13, 14, 15, 16, 17, 18], [16])])
def cellarlaw9_MemBack.B18 : List Nat := [0, 0, 2, 0, 14, 30, 0, 0, 192, 448, 0, 0, 4095, 8191, 16383, 16383, 16383, 32767, 196607, 524287]
theorem cellarlaw9_MemBack.tab18 : rtab .any (opsOf Try.f9 18) = cellarlaw9_MemBack.T18 := by kernel_rfl
theorem cellarlaw9_MemBack.bits18 : waitsOk cellarlaw9_MemBack.T18.2 cellarlaw9_MemBack.B18 = true := by kernel_rfl
def cellarlaw9_MemBack.T22 : Bool × List (List Nat × List Nat) := (true, [([], []), ([], []), ([], []), ([], []), ([2, 3], [2, 3]), ([4], [4]), ([], []), ([0, 1, 5, 6], [0, 1, 5, 6]), ([7], [7]), ([8], [8]), ([8], [8]), ([8], [8]), ([], []), ([12, 9, 7, 0, 1, 2, 3, 4, 5, 6, 7, 8, 9, 12], [9, 12]), ([10, 13, 0, 1, 2, 3, 4, 5, 6, 7, 8, 9, 10, 12, 13], [10]), ([11, 14, 0, 1, 2, 3, 4, 5, 6, 7, 8, 9, 10, 11, 12, 13, 14], [11])])
def cellarlaw9_MemBack.B22 : List Nat := [0, 0, 0, 0, 12, 28, 0, 127, 255, 511, 511, 511, 0, 5119, 14335, 32767]
theorem cellarlaw9_MemBack.tab22 : rtab .any (opsOf Try.f9 22) = cellarlaw9_MemBack.T22 := by kernel_rfl
theorem cellarlaw9_MemBack.bits22 : waitsOk cellarlaw9_MemBack.T22.2 cellarlaw9_MemBack.B22 = true := by kernel_rfl
def cellarlaw9_MemBack.T29 : Bool × List (List Nat × List Nat) := (true, [([], []), ([], []), ([0, 1], [0, 1]), ([2], [2]), ([3], [3]), ([4], [4]), ([], []), ([6], [6]), ([], []), ([7, 8], [7, 8]), ([9], [9]), ([], []), ([10, 11], [10, 11]), ([12], [12]), ([13], [13]), ([14], [14]), ([5, 15], [5, 15]), ([16], [16]), ([17], [17]), ([17], [17]), ([18, 19, 17], [17, 18, 19]), ([20, 17], [17, 20]), ([21, 17], [17, 21]), ([17], [17]), ([23, 17], [17, 23]), ([17], [17]), ([24, 25, 17], [17, 24, 25]), ([26, 17], [17, 26]), ([17], [17]), ([27, 28, 17], [17, 27, 28]), ([29, 17], [17, 29]), ([30, 17], [17, 30]), ([22, 31, 17], [17, 22, 31]), ([17, 32], [17, 32])])
def cellarlaw9_MemBack.B29 : List Nat := [0, 0, 3, 7, 15, 31, 0, 64, 0, 448, 960, 0, 4032, 8128, 16320, 32704, 65535, 131071, 262143, 262143, 1048575, 2097151, 4194303, 262143, 8650751, 262143, 58982399, 126091263, 262143, 528744447, 1065615359, 2139357183, 4294967295, 8589934591]
theorem cellarlaw9_MemBack.tab29 : rtab .any (opsOf Try.f9 29) = cellarlaw9_MemBack.T29 := by kernel_rfl
theorem cellarlaw9_MemBack.bits29 : waitsOk cellarlaw9_MemBack.T29.2 cellarlaw9_MemBack.B29 = true := by kernel_rfl
def cellarlaw9_MemBack.T35 : Bool × List (List Nat × List Nat) := (true, [([], []), ([0], [0]), ([1], [1]), ([2], [2]), ([2], [2]), ([3, 4, 2], [2, 3, 4]), ([5, 2], [2, 5]), ([6, 2], [2, 6]), ([2], [2]), ([7, 8, 2], [2, 7, 8]), ([9, 2], [2, 9]), ([2], [2]), ([11, 2], [2, 11]), ([2], [2]), ([12, 13, 2], [2, 12, 13]), ([14, 2], [2, 14]), ([2], [2]), ([15, 16, 2], [2, 15, 16]), ([17, 2], [2, 17]), ([18, 2], [2, 18]), ([2], [2]), ([19, 20, 2], [2, 19, 20]), ([21, 2], [2, 21]), ([10, 22, 2], [2, 10, 22]), ([2, 23], [2, 23])])
def cellarlaw9_MemBack.B35 : List Nat := [0, 1, 3, 7, 7, 31, 63, 127, 7, 511, 1023, 7, 2055, 7, 14343, 30727, 7, 129031, 260103, 522247, 7, 2095111, 4192263, 8388607, 16777215]
theorem cellarlaw9_MemBack.tab35 : rtab .any (opsOf Try.f9 35) = cellarlaw9_MemBack.T35 := by kernel_rfl
theorem cellarlaw9_MemBack.bits35 : waitsOk cellarlaw9_MemBack.T35.2 cellarlaw9_MemBack.B35 = true := by kernel_rfl
def cellarlaw9_MemBack.T37 : Bool × List (List Nat × List Nat) := (true, [([], []), ([0], [0]), ([], []), ([1, 2], [1, 2]), ([3], [3]), ([], []), ([], []), ([5, 6], [5, 6]), ([7], [7]), ([4, 8], [4, 8]), ([9], [9]), ([10], [10]), ([10], [10]), ([10], [10]), ([], []), ([14, 11, 9, 0, 1, 2, 3, 4, 5, 6, 7, 8, 9, 10, 11, 14], [11, 14]), ([12, 15, 0, 1, 2, 3, 4, 5, 6, 7, 8, 9, 10, 11, 12, 14, 15], [12]), ([13, 16, 0, 1, 2, 3, 4, 5, 6, 7, 8, 9, 10, 11, 12, 13, 14, 15, 16], [13])])
def cellarlaw9_MemBack.B37 : List Nat := [0, 1, 0, 7, 15, 0, 0, 96, 224, 511, 1023, 2047, 2047, 2047, 0, 20479, 57343, 131071]
theorem cellarlaw9_MemBack.tab37 : rtab .any (opsOf Try.f9 37) = cellarlaw9_MemBack.T37 := by kernel_rfl
theorem cellarlaw9_MemBack.bits37 : waitsOk cellarlaw9_MemBack.T37.2 cellarlaw9_MemBack.B37 = true := by kernel_rfl
def cellarlaw9_MemBack.T39 : Bool × List (List Nat × List Nat) := (true, [([], []), ([0], [0]), ([], []), ([1, 2], [1, 2]), ([3], [3]), ([], []), ([4, 5], [4, 5]), ([6], [6]), ([7], [7]), ([7], [7]), ([7], [7]), ([], []), ([11, 8, 6, 0, 1, 2, 3, 4, 5, 6, 7, 8, 11], [8, 11]), ([9, 12, 0, 1, 2, 3, 4, 5, 6, 7, 8, 9, 11, 12], [9]), ([10, 13, 0, 1, 2, 3, 4, 5, 6, 7, 8, 9, 10, 11, 12, 13], [10])])
def cellarlaw9_MemBack.B39 : List Nat := [0, 1, 0, 7, 15, 0, 63, 127, 255, 255, 255, 0, 2559, 7167, 16383]
theorem cellarlaw9_MemBack.tab39 : rtab .any (opsOf Try.f9 39) = cellarlaw9_MemBack.T39 := by kernel_rfl
theorem cellarlaw9_MemBack.bits39 : waitsOk cellarlaw9_MemBack.T39.2 cellarlaw9_MemBack.B39 = true := by kernel_rfl
def cellarlaw9_MemBack.T40 : Bool × List (List Nat × List Nat) := (true, [([], []), ([0], [0]), ([], []), ([1, 2], [1, 2]), ([3], [3]), ([], []), ([], []), ([], []), ([6, 7], [6, 7]), ([8], [8]), ([4, 5, 9], [4, 5, 9]), ([10], [10]), ([11], [11]), ([11], [11]), ([11], [11]), ([12, 10, 0, 1, 2, 3, 4, 5, 6, 7, 8, 9, 10, 11, 12], [12]), ([13, 15, 0, 1, 2, 3, 4, 5, 6, 7, 8, 9, 10, 11, 12, 13, 15], [13]), ([14, 16, 0, 1, 2, 3, 4, 5, 6, 7, 8, 9, 10, 11, 12, 13, 14, 15, 16], [14])])
def cellarlaw9_MemBack.B40 : List Nat := [0, 1, 0, 7, 15, 0, 0, 0, 192, 448, 1023, 2047, 4095, 4095, 4095, 8191, 49151, 131071]
theorem cellarlaw9_MemBack.tab40 : rtab .any (opsOf Try.f9 40) = cellarlaw9_MemBack.T40 := by kernel_rfl
theorem cellarlaw9_MemBack.bits40 : waitsOk cellarlaw9_MemBack.T40.2 cellarlaw9_MemBack.B40 = true := by kernel_rfl
def cellarlaw9_MemBack.T41 : Bool × List (List Nat × List Nat) := (true, [([], []), ([0], [0]), ([1], [1]), ([2, 1], [2]), ([3], [3]), ([4, 3, 3], [3, 4]), ([5, 3], [3, 5]), ([3, 6], [3, 6]), ([7, 5], [7]), ([8], [8]), ([9, 8], [8, 9]), ([8, 10], [8, 10]), ([11, 8], [11]), ([12], [12]), ([13, 12], [12, 13]), ([12, 14], [12, 14]), ([15, 12], [15]), ([16], [16]), ([16], [16]), ([16], [16]), ([18, 19, 16], [16, 18, 19]), ([20, 16], [16, 20]), ([17, 21, 16], [16, 17, 21]), ([16, 22], [16, 22]), ([23, 16], [23]), ([24], [24]), ([25, 24], [24, 25]), ([24, 26], [24, 26])])
def cellarlaw9_MemBack.B41 : List Nat := [0, 1, 3, 7, 15, 31, 63, 127, 255, 511, 1023, 2047, 4095, 8191, 16383, 32767, 65535, 131071, 131071, 131071, 917503, 1966079, 4194303, 8388607, 16777215, 33554431, 67108863, 134217727]
theorem cellarlaw9_MemBack.tab41 : rtab .any (opsOf Try.f9 41) = cellarlaw9_MemBack.T41 := by kernel_rfl
theorem cellarlaw9_MemBack.bits41 : waitsOk cellarlaw9_MemBack.T41.2 cellarlaw9_MemBack.B41 = true := by kernel_rfl
abbrev cellarlaw9_MemBack.b0 : Array Bool := #[false,false,false,false,false,false,false,false,false,false,false,false,false,false,false,false,false,false,false,false]
abbrev cellarlaw9_MemBack.b13 : Array Bool := #[true,true,true,true,true,true,true,true,true,true,true,true,true,false,false,false,false,false,false,false]
abbrev cellarlaw9_MemBack.b21 : Array Bool := #[false,false,false,false,false,false,false,false,false,false,false,false,false,false,false,false]
abbrev cellarlaw9_MemBack.b29 : Array Bool := #[true,true,true,true,true,true,true,true,true,true,true,true,true,false,false,false]
abbrev cellarlaw9_MemBack.b30 : Array Bool := #[true,true,true,true,true,true,true,true,false,false,false,false,false,false,false,false]
abbrev cellarlaw9_MemBack.b31 : Array Bool := #[true,true,true,true,true,true,true,false,false,false,false,false,true,false,false,false]
abbrev cellarlaw9_MemBack.b36 : Array Bool := #[true,true,true,true,true,true,true,true,false,false,false,false,true,false,false,false]
abbrev cellarlaw9_MemBack.b40 : Array Bool := #[true,true,true,true,true,true,true,true,true,true,true,true,true,true,false,false]
abbrev cellarlaw9_MemBack.b43 : Array Bool := #[false,false,false,false,false,false,false,false,false,false,false,false,false,false,false,false,false,false,false,false,false,false,false,false,false,false,false,false,false,false,false,false,false,false]
abbrev cellarlaw9_MemBack.b84 : Array Bool := #[false,false,false,false,false,false,false,false,false,false,false,false,false,false,false,false,false,false,false,false,false,false,false,false,false]
abbrev cellarlaw9_MemBack.b123 : Array Bool := #[false,false,false,false,false,false,false,false,false,false,false,false,false,false,false,false,false,false]
abbrev cellarlaw9_MemBack.b133 : Array Bool := #[true,true,true,true,true,true,true,true,true,true,true,true,true,true,true,false,false,false]
abbrev cellarlaw9_MemBack.b134 : Array Bool := #[true,true,true,true,true,true,true,true,true,true,false,false,false,false,false,false,false,false]
abbrev cellarlaw9_MemBack.b135 : Array Bool := #[true,true,true,true,true,true,true,true,true,false,false,false,false,false,true,false,false,false]
abbrev cellarlaw9_MemBack.b136 : Array Bool := #[true,true,true,true,true,true,true,true,true,true,true,false,false,false,false,false,false,false]
abbrev cellarlaw9_MemBack.b140 : Array Bool := #[true,true,true,true,true,true,true,true,true,true,false,false,false,false,true,false,false,false]
abbrev cellarlaw9_MemBack.b144 : Array Bool := #[true,true,true,true,true,true,true,true,true,true,true,true,true,true,true,true,false,false]
abbrev cellarlaw9_MemBack.b147 : Array Bool := #[false,false,false,false,false,false,false,false,false,false,false,false,false,false,false]
abbrev cellarlaw9_MemBack.b154 : Array Bool := #[true,true,true,true,true,true,true,true,true,true,true,true,false,false,false]
abbrev cellarlaw9_MemBack.b155 : Array Bool := #[true,true,true,true,true,true,true,false,false,false,false,false,false,false,false]
abbrev cellarlaw9_MemBack.b156 : Array Bool := #[true,true,true,true,true,true,false,false,false,false,false,true,false,false,false]
abbrev cellarlaw9_MemBack.b161 : Array Bool := #[true,true,true,true,true,true,true,false,false,false,false,true,false,false,false]
abbrev cellarlaw9_MemBack.b165 : Array Bool := #[true,true,true,true,true,true,true,true,true,true,true,true,true,false,false]
abbrev cellarlaw9_MemBack.b174 : Array Bool := #[false,false,false,false,false,false,false,false,false,false,false,false,false,false,false,false,false,false,false,false,false,false,false,false,false,false,false,false]
abbrev cellarlaw9_MemBack.b176 : Array Bool := #[true,true,false,false,false,false,false,false,false,false,false,false,false,false,false,false,false,false,false,false,false,false,false,false,false,false,false,false]
abbrev cellarlaw9_MemBack.b180 : Array Bool := #[true,true,true,true,true,true,false,false,false,false,false,false,false,false,false,false,false,false,false,false,false,false,false,false,false,false,false,false]
end Go.Proofs.Ytjoplkillkhiaaa.Q2
