-- Written by this session's own edition of the print.
import Derived.Test.YtjhgpankffdnaaaAx0
import Derived.Test.YtjhgpankffdnaaaAx1
import Derived.Test.YtjhgpankffdnaaaAx2
namespace Go.Proofs.Ytjhgpankffdnaaa.A
open Go.RowKit Go.Proofs.YtjhgpankffdnaaaW.PrintWords Go.Proofs.YtjhgpankffdnaaaW.PrintLast Go.Proofs.YtjhgpankffdnaaaW.PrintMore
attribute [local go_sem] max2_int min2_int max_two min_two max_three min_three max_four min_four   -- for this text's walks alone
set_option linter.unusedVariables false
set_option linter.unusedSimpArgs false

/-! ### cellarlaw1_WordExact: function 4 -/
mutual
def cellarlaw1_WordExact.l0 : Nat → List (S34) → Int → List Int → List ByteArray → List (S34) → Option (Bool)
 | 0, _, _, _, _, _ => none
 | k + 1, x3, x4, x134000, x134001, x134002 => if x4 ≤ 11 then ((word_Width.f x4).bind fun bt141 => ((word_Signed.f x4).bind fun bt143 => ((cellarref1_Width.f k x4).bind fun t145 => (if t145 > 0 then ((cellarref1_Signed.f x4).bind fun t146 => (cellarlaw1_WordExact.j1 k x3 x4 bt141.1 bt141.2 bt143.1 bt143.2 0 t146 x134000 x134001 x134002)) else (cellarlaw1_WordExact.j1 k x3 x4 bt141.1 bt141.2 bt143.1 bt143.2 1 false x134000 x134001 x134002))))) else ((some (([0, 127, 128, 255, 256, (-1), 65535, 2147483648, 4294967295, 4294967296, (-9223372036854775808)] : List Int) : List Int)).bind fun y160 => (if y160.length + x134000.length < 17592186044416 then (cellarlaw1_WordExact.l2 k (y160 ++ x134000) 0) else (none)))
def cellarlaw1_WordExact.j1 : Nat → List (S34) → Int → Int → Int → Bool → Int → Int → Bool → List Int → List ByteArray → List (S34) → Option (Bool)
 | 0, _, _, _, _, _, _, _, _, _, _, _ => none
 | k + 1, x3, x4, x5, x6, x7, x8, x9, x10, x134000, x134001, x134002 => (cellarlaw1_num.f x6).bind fun t147 => (if t147 = x9 then ((cellarref1_Width.f k x4).bind fun t148 => (if x5 = t148 then ((cellarlaw1_num.f x8).bind fun t149 => (if t149 = x9 then (cellarlaw1_WordExact.j2 k x3 x4 (x7 != x10) x134000 x134001 x134002) else (cellarlaw1_WordExact.j2 k x3 x4 true x134000 x134001 x134002))) else (cellarlaw1_WordExact.j2 k x3 x4 true x134000 x134001 x134002))) else (cellarlaw1_WordExact.j2 k x3 x4 true x134000 x134001 x134002))
def cellarlaw1_WordExact.j2 : Nat → List (S34) → Int → Bool → List Int → List ByteArray → List (S34) → Option (Bool)
 | 0, _, _, _, _, _, _ => none
 | k + 1, x3, x4, x76, x134000, x134001, x134002 => if x76 = true then (some false) else (cellarlaw1_WordExact.l1 k x3 x4 0 x134000 x134001 x134002)
def cellarlaw1_WordExact.l1 : Nat → List (S34) → Int → Int → List Int → List ByteArray → List (S34) → Option (Bool)
 | 0, _, _, _, _, _, _ => none
 | k + 1, x3, x4, x11, x134000, x134001, x134002 => if x11 < (x3.length : Int) then (cellarlaw1_WordExact.j4 k x3 x4 x11 (decide (x11 < 8)) x134000 x134001 x134002) else (cellarlaw1_WordExact.j4 k x3 x4 x11 false x134000 x134001 x134002)
def cellarlaw1_WordExact.j4 : Nat → List (S34) → Int → Int → Bool → List Int → List ByteArray → List (S34) → Option (Bool)
 | 0, _, _, _, _, _, _, _ => none
 | k + 1, x3, x4, x11, x84, x134000, x134001, x134002 => if x84 = true then (if 0 ≤ x11 then (if x11 < (x3.length : Int) then ((word_Size.f ((rd_T34 x3 x11).f0) ((rd_T34 x3 x11).f1) x4).bind fun bt151 => ((cellarref1_Abi.f ((rd_T34 x3 x11).f0) ((rd_T34 x3 x11).f1)).bind fun t154 => (if t154 = true then ((cellarref1_Kind.f x4).bind fun t155 => (cellarlaw1_WordExact.j5 k x3 x4 x11 bt151.1 bt151.2 1 0 t155 x134000 x134001 x134002)) else (cellarlaw1_WordExact.j5 k x3 x4 x11 bt151.1 bt151.2 1 0 false x134000 x134001 x134002)))) else (none)) else (none)) else (cellarlaw1_WordExact.l0 k x3 (wrap64 (x4 + 1)) x134000 x134001 x134002)
def cellarlaw1_WordExact.j5 : Nat → List (S34) → Int → Int → Int → Int → Int → Int → Bool → List Int → List ByteArray → List (S34) → Option (Bool)
 | 0, _, _, _, _, _, _, _, _, _, _, _ => none
 | k + 1, x3, x4, x11, x12, x13, x14, x15, x104, x134000, x134001, x134002 => if x104 = true then (if 0 ≤ x11 then (if x11 < (x3.length : Int) then ((cellarref1_Size.f k ((rd_T34 x3 x11).f0) ((rd_T34 x3 x11).f1) x4).bind fun t157 => ((cellarlaw1_num.f x13).bind fun t158 => (if t158 = 0 then (if x12 = t157 then (cellarlaw1_WordExact.l1 k x3 x4 (wrap64 (x11 + 1)) x134000 x134001 x134002) else (some false)) else (some false)))) else (none)) else (none)) else ((cellarlaw1_num.f x13).bind fun t159 => (if t159 = x14 then (if x12 = x15 then (cellarlaw1_WordExact.l1 k x3 x4 (wrap64 (x11 + 1)) x134000 x134001 x134002) else (some false)) else (some false)))
def cellarlaw1_WordExact.l2 : Nat → List Int → Int → Option (Bool)
 | 0, _, _ => none
 | k + 1, x16, x17 => if x17 < (x16.length : Int) then (cellarlaw1_WordExact.j7 k x16 x17 (decide (x17 < 30))) else (cellarlaw1_WordExact.j7 k x16 x17 false)
def cellarlaw1_WordExact.j7 : Nat → List Int → Int → Bool → Option (Bool)
 | 0, _, _, _ => none
 | k + 1, x16, x17, x131 => if x131 = true then (cellarlaw1_WordExact.l3 k x16 x17 0) else ((cellarlaw1_wakes.f).bind fun t166 => (some t166))
def cellarlaw1_WordExact.l3 : Nat → List Int → Int → Int → Option (Bool)
 | 0, _, _, _ => none
 | k + 1, x16, x17, x18 => if x18 < 5 then ((some (([8, 16, 32, 0, 64] : List Int) : List Int)).bind fun y167 => (if 0 ≤ x18 then (if x18 < (y167.length : Int) then (if 0 ≤ x17 then (if x17 < (x16.length : Int) then ((word_Wrap.f (rd x16 x17) (rd y167 x18)).bind fun bt172 => ((word_View.f (rd x16 x17) (rd y167 x18)).bind fun bt175 => ((cellarref1_IsWidth.f (rd y167 x18)).bind fun t177 => (if t177 = true then ((cellarref1_Wrap.f (rd x16 x17) (rd y167 x18)).bind fun t179 => ((cellarref1_Number.f (rd x16 x17) (rd y167 x18)).bind fun t181 => (if t181 = true then ((cellarref1_View.f (rd x16 x17) (rd y167 x18)).bind fun t183 => (cellarlaw1_WordExact.j9 k x16 x17 x18 bt172.1 bt172.2 bt175.1 bt175.2 0 0 t179 t183)) else (cellarlaw1_WordExact.j9 k x16 x17 x18 bt172.1 bt172.2 bt175.1 bt175.2 0 1 t179 0)))) else (cellarlaw1_WordExact.j9 k x16 x17 x18 bt172.1 bt172.2 bt175.1 bt175.2 1 1 0 0))))) else (none)) else (none)) else (none)) else (none))) else (cellarlaw1_WordExact.l2 k x16 (wrap64 (x17 + 1)))
def cellarlaw1_WordExact.j9 : Nat → List Int → Int → Int → Int → Int → Int → Int → Int → Int → Int → Int → Option (Bool)
 | 0, _, _, _, _, _, _, _, _, _, _, _ => none
 | k + 1, x16, x17, x18, x20, x21, x22, x23, x24, x25, x26, x27 => (cellarlaw1_num.f x21).bind fun t184 => (if t184 = x24 then (if x20 = x26 then ((cellarlaw1_num.f x23).bind fun t185 => (if t185 = x25 then (if x22 = x27 then (cellarlaw1_WordExact.l3 k x16 x17 (wrap64 (x18 + 1))) else (some false)) else (some false))) else (some false)) else (some false))
end
def cellarlaw1_WordExact.f (k : Nat) (l0_0 : List Int) (l0_1 : List ByteArray) (l0_2 : List (S34)) : Option (Bool) := (cellarlaw1_Heavy.f k l0_0 l0_1 l0_2).bind fun t134 => (if t134 = true then (some true) else ((some (([(⟨false, 4⟩ : S34), (⟨true, 2⟩ : S34), (⟨false, 0⟩ : S34)] : List (S34)) : List (S34))).bind fun y135 => (if y135.length + l0_2.length < 8796093022208 then (cellarlaw1_WordExact.l0 k (y135 ++ l0_2) (-1) l0_0 l0_1 l0_2) else (none))))
theorem cellarlaw1_WordExact.mono_l : ∀ k, (∀ y0 y1 y2 y3 y4, LeO (cellarlaw1_WordExact.l0 k y0 y1 y2 y3 y4) (cellarlaw1_WordExact.l0 (k + 1) y0 y1 y2 y3 y4)) ∧ (∀ y0 y1 y2 y3 y4 y5 y6 y7 y8 y9 y10, LeO (cellarlaw1_WordExact.j1 k y0 y1 y2 y3 y4 y5 y6 y7 y8 y9 y10) (cellarlaw1_WordExact.j1 (k + 1) y0 y1 y2 y3 y4 y5 y6 y7 y8 y9 y10)) ∧ (∀ y0 y1 y2 y3 y4 y5, LeO (cellarlaw1_WordExact.j2 k y0 y1 y2 y3 y4 y5) (cellarlaw1_WordExact.j2 (k + 1) y0 y1 y2 y3 y4 y5)) ∧ (∀ y0 y1 y2 y3 y4 y5, LeO (cellarlaw1_WordExact.l1 k y0 y1 y2 y3 y4 y5) (cellarlaw1_WordExact.l1 (k + 1) y0 y1 y2 y3 y4 y5)) ∧ (∀ y0 y1 y2 y3 y4 y5 y6, LeO (cellarlaw1_WordExact.j4 k y0 y1 y2 y3 y4 y5 y6) (cellarlaw1_WordExact.j4 (k + 1) y0 y1 y2 y3 y4 y5 y6)) ∧ (∀ y0 y1 y2 y3 y4 y5 y6 y7 y8 y9 y10, LeO (cellarlaw1_WordExact.j5 k y0 y1 y2 y3 y4 y5 y6 y7 y8 y9 y10) (cellarlaw1_WordExact.j5 (k + 1) y0 y1 y2 y3 y4 y5 y6 y7 y8 y9 y10)) ∧ (∀ y0 y1, LeO (cellarlaw1_WordExact.l2 k y0 y1) (cellarlaw1_WordExact.l2 (k + 1) y0 y1)) ∧ (∀ y0 y1 y2, LeO (cellarlaw1_WordExact.j7 k y0 y1 y2) (cellarlaw1_WordExact.j7 (k + 1) y0 y1 y2)) ∧ (∀ y0 y1 y2, LeO (cellarlaw1_WordExact.l3 k y0 y1 y2) (cellarlaw1_WordExact.l3 (k + 1) y0 y1 y2)) ∧ (∀ y0 y1 y2 y3 y4 y5 y6 y7 y8 y9 y10, LeO (cellarlaw1_WordExact.j9 k y0 y1 y2 y3 y4 y5 y6 y7 y8 y9 y10) (cellarlaw1_WordExact.j9 (k + 1) y0 y1 y2 y3 y4 y5 y6 y7 y8 y9 y10))
 | 0 => ⟨fun _ _ _ _ _ r h => by simp [cellarlaw1_WordExact.l0] at h, fun _ _ _ _ _ _ _ _ _ _ _ r h => by simp [cellarlaw1_WordExact.j1] at h, fun _ _ _ _ _ _ r h => by simp [cellarlaw1_WordExact.j2] at h, fun _ _ _ _ _ _ r h => by simp [cellarlaw1_WordExact.l1] at h, fun _ _ _ _ _ _ _ r h => by simp [cellarlaw1_WordExact.j4] at h, fun _ _ _ _ _ _ _ _ _ _ _ r h => by simp [cellarlaw1_WordExact.j5] at h, fun _ _ r h => by simp [cellarlaw1_WordExact.l2] at h, fun _ _ _ r h => by simp [cellarlaw1_WordExact.j7] at h, fun _ _ _ r h => by simp [cellarlaw1_WordExact.l3] at h, fun _ _ _ _ _ _ _ _ _ _ _ r h => by simp [cellarlaw1_WordExact.j9] at h⟩
 | k + 1 => by
  obtain ⟨ih0, ih1, ih2, ih3, ih4, ih5, ih6, ih7, ih8, ih9⟩ := cellarlaw1_WordExact.mono_l k
  refine ⟨?_, ?_, ?_, ?_, ?_, ?_, ?_, ?_, ?_, ?_⟩
  ·intro y0 y1 y2 y3 y4
   unfold cellarlaw1_WordExact.l0
   repeat' first
   | (with_reducible exact ih0 _ _ _ _ _)
   | (with_reducible exact ih1 _ _ _ _ _ _ _ _ _ _ _)
   | (with_reducible exact ih2 _ _ _ _ _ _)
   | (with_reducible exact ih3 _ _ _ _ _ _)
   | (with_reducible exact ih4 _ _ _ _ _ _ _)
   | (with_reducible exact ih5 _ _ _ _ _ _ _ _ _ _ _)
   | (with_reducible exact ih6 _ _)
   | (with_reducible exact ih7 _ _ _)
   | (with_reducible exact ih8 _ _ _)
   | (with_reducible exact ih9 _ _ _ _ _ _ _ _ _ _ _)
   | (with_reducible exact cellarlaw1_Heavy.mono _ _ _ _)
   | (with_reducible exact cellarref1_Size.mono _ _ _ _)
   | (with_reducible exact cellarref1_Width.mono _ _)
   | (with_reducible exact LeO.refl _)
   | (with_reducible exact LeO.none _)
   | (with_reducible refine LeO.ite ?_ ?_)
   | (with_reducible refine LeO.bind ?_ (fun _ => ?_))
   | exact ih0 _ _ _ _ _
   | exact ih1 _ _ _ _ _ _ _ _ _ _ _
   | exact ih2 _ _ _ _ _ _
   | exact ih3 _ _ _ _ _ _
   | exact ih4 _ _ _ _ _ _ _
   | exact ih5 _ _ _ _ _ _ _ _ _ _ _
   | exact ih6 _ _
   | exact ih7 _ _ _
   | exact ih8 _ _ _
   | exact ih9 _ _ _ _ _ _ _ _ _ _ _
   | exact cellarlaw1_Heavy.mono _ _ _ _
   | exact cellarref1_Size.mono _ _ _ _
   | exact cellarref1_Width.mono _ _
   | exact LeO.none _
   | refine LeO.ite ?_ ?_
   | refine LeO.bind ?_ (fun _ => ?_)
  ·intro y0 y1 y2 y3 y4 y5 y6 y7 y8 y9 y10
   unfold cellarlaw1_WordExact.j1
   repeat' first
   | (with_reducible exact ih0 _ _ _ _ _)
   | (with_reducible exact ih1 _ _ _ _ _ _ _ _ _ _ _)
   | (with_reducible exact ih2 _ _ _ _ _ _)
   | (with_reducible exact ih3 _ _ _ _ _ _)
   | (with_reducible exact ih4 _ _ _ _ _ _ _)
   | (with_reducible exact ih5 _ _ _ _ _ _ _ _ _ _ _)
   | (with_reducible exact ih6 _ _)
   | (with_reducible exact ih7 _ _ _)
   | (with_reducible exact ih8 _ _ _)
   | (with_reducible exact ih9 _ _ _ _ _ _ _ _ _ _ _)
   | (with_reducible exact cellarlaw1_Heavy.mono _ _ _ _)
   | (with_reducible exact cellarref1_Size.mono _ _ _ _)
   | (with_reducible exact cellarref1_Width.mono _ _)
   | (with_reducible exact LeO.refl _)
   | (with_reducible exact LeO.none _)
   | (with_reducible refine LeO.ite ?_ ?_)
   | (with_reducible refine LeO.bind ?_ (fun _ => ?_))
   | exact ih0 _ _ _ _ _
   | exact ih1 _ _ _ _ _ _ _ _ _ _ _
   | exact ih2 _ _ _ _ _ _
   | exact ih3 _ _ _ _ _ _
   | exact ih4 _ _ _ _ _ _ _
   | exact ih5 _ _ _ _ _ _ _ _ _ _ _
   | exact ih6 _ _
   | exact ih7 _ _ _
   | exact ih8 _ _ _
   | exact ih9 _ _ _ _ _ _ _ _ _ _ _
   | exact cellarlaw1_Heavy.mono _ _ _ _
   | exact cellarref1_Size.mono _ _ _ _
   | exact cellarref1_Width.mono _ _
   | exact LeO.none _
   | refine LeO.ite ?_ ?_
   | refine LeO.bind ?_ (fun _ => ?_)
  ·intro y0 y1 y2 y3 y4 y5
   unfold cellarlaw1_WordExact.j2
   repeat' first
   | (with_reducible exact ih0 _ _ _ _ _)
   | (with_reducible exact ih1 _ _ _ _ _ _ _ _ _ _ _)
   | (with_reducible exact ih2 _ _ _ _ _ _)
   | (with_reducible exact ih3 _ _ _ _ _ _)
   | (with_reducible exact ih4 _ _ _ _ _ _ _)
   | (with_reducible exact ih5 _ _ _ _ _ _ _ _ _ _ _)
   | (with_reducible exact ih6 _ _)
   | (with_reducible exact ih7 _ _ _)
   | (with_reducible exact ih8 _ _ _)
   | (with_reducible exact ih9 _ _ _ _ _ _ _ _ _ _ _)
   | (with_reducible exact cellarlaw1_Heavy.mono _ _ _ _)
   | (with_reducible exact cellarref1_Size.mono _ _ _ _)
   | (with_reducible exact cellarref1_Width.mono _ _)
   | (with_reducible exact LeO.refl _)
   | (with_reducible exact LeO.none _)
   | (with_reducible refine LeO.ite ?_ ?_)
   | (with_reducible refine LeO.bind ?_ (fun _ => ?_))
   | exact ih0 _ _ _ _ _
   | exact ih1 _ _ _ _ _ _ _ _ _ _ _
   | exact ih2 _ _ _ _ _ _
   | exact ih3 _ _ _ _ _ _
   | exact ih4 _ _ _ _ _ _ _
   | exact ih5 _ _ _ _ _ _ _ _ _ _ _
   | exact ih6 _ _
   | exact ih7 _ _ _
   | exact ih8 _ _ _
   | exact ih9 _ _ _ _ _ _ _ _ _ _ _
   | exact cellarlaw1_Heavy.mono _ _ _ _
   | exact cellarref1_Size.mono _ _ _ _
   | exact cellarref1_Width.mono _ _
   | exact LeO.none _
   | refine LeO.ite ?_ ?_
   | refine LeO.bind ?_ (fun _ => ?_)
  ·intro y0 y1 y2 y3 y4 y5
   unfold cellarlaw1_WordExact.l1
   repeat' first
   | (with_reducible exact ih0 _ _ _ _ _)
   | (with_reducible exact ih1 _ _ _ _ _ _ _ _ _ _ _)
   | (with_reducible exact ih2 _ _ _ _ _ _)
   | (with_reducible exact ih3 _ _ _ _ _ _)
   | (with_reducible exact ih4 _ _ _ _ _ _ _)
   | (with_reducible exact ih5 _ _ _ _ _ _ _ _ _ _ _)
   | (with_reducible exact ih6 _ _)
   | (with_reducible exact ih7 _ _ _)
   | (with_reducible exact ih8 _ _ _)
   | (with_reducible exact ih9 _ _ _ _ _ _ _ _ _ _ _)
   | (with_reducible exact cellarlaw1_Heavy.mono _ _ _ _)
   | (with_reducible exact cellarref1_Size.mono _ _ _ _)
   | (with_reducible exact cellarref1_Width.mono _ _)
   | (with_reducible exact LeO.refl _)
   | (with_reducible exact LeO.none _)
   | (with_reducible refine LeO.ite ?_ ?_)
   | (with_reducible refine LeO.bind ?_ (fun _ => ?_))
   | exact ih0 _ _ _ _ _
   | exact ih1 _ _ _ _ _ _ _ _ _ _ _
   | exact ih2 _ _ _ _ _ _
   | exact ih3 _ _ _ _ _ _
   | exact ih4 _ _ _ _ _ _ _
   | exact ih5 _ _ _ _ _ _ _ _ _ _ _
   | exact ih6 _ _
   | exact ih7 _ _ _
   | exact ih8 _ _ _
   | exact ih9 _ _ _ _ _ _ _ _ _ _ _
   | exact cellarlaw1_Heavy.mono _ _ _ _
   | exact cellarref1_Size.mono _ _ _ _
   | exact cellarref1_Width.mono _ _
   | exact LeO.none _
   | refine LeO.ite ?_ ?_
   | refine LeO.bind ?_ (fun _ => ?_)
  ·intro y0 y1 y2 y3 y4 y5 y6
   unfold cellarlaw1_WordExact.j4
   repeat' first
   | (with_reducible exact ih0 _ _ _ _ _)
   | (with_reducible exact ih1 _ _ _ _ _ _ _ _ _ _ _)
   | (with_reducible exact ih2 _ _ _ _ _ _)
   | (with_reducible exact ih3 _ _ _ _ _ _)
   | (with_reducible exact ih4 _ _ _ _ _ _ _)
   | (with_reducible exact ih5 _ _ _ _ _ _ _ _ _ _ _)
   | (with_reducible exact ih6 _ _)
   | (with_reducible exact ih7 _ _ _)
   | (with_reducible exact ih8 _ _ _)
   | (with_reducible exact ih9 _ _ _ _ _ _ _ _ _ _ _)
   | (with_reducible exact cellarlaw1_Heavy.mono _ _ _ _)
   | (with_reducible exact cellarref1_Size.mono _ _ _ _)
   | (with_reducible exact cellarref1_Width.mono _ _)
   | (with_reducible exact LeO.refl _)
   | (with_reducible exact LeO.none _)
   | (with_reducible refine LeO.ite ?_ ?_)
   | (with_reducible refine LeO.bind ?_ (fun _ => ?_))
   | exact ih0 _ _ _ _ _
   | exact ih1 _ _ _ _ _ _ _ _ _ _ _
   | exact ih2 _ _ _ _ _ _
   | exact ih3 _ _ _ _ _ _
   | exact ih4 _ _ _ _ _ _ _
   | exact ih5 _ _ _ _ _ _ _ _ _ _ _
   | exact ih6 _ _
   | exact ih7 _ _ _
   | exact ih8 _ _ _
   | exact ih9 _ _ _ _ _ _ _ _ _ _ _
   | exact cellarlaw1_Heavy.mono _ _ _ _
   | exact cellarref1_Size.mono _ _ _ _
   | exact cellarref1_Width.mono _ _
   | exact LeO.none _
   | refine LeO.ite ?_ ?_
   | refine LeO.bind ?_ (fun _ => ?_)
  ·intro y0 y1 y2 y3 y4 y5 y6 y7 y8 y9 y10
   unfold cellarlaw1_WordExact.j5
   repeat' first
   | (with_reducible exact ih0 _ _ _ _ _)
   | (with_reducible exact ih1 _ _ _ _ _ _ _ _ _ _ _)
   | (with_reducible exact ih2 _ _ _ _ _ _)
   | (with_reducible exact ih3 _ _ _ _ _ _)
   | (with_reducible exact ih4 _ _ _ _ _ _ _)
   | (with_reducible exact ih5 _ _ _ _ _ _ _ _ _ _ _)
   | (with_reducible exact ih6 _ _)
   | (with_reducible exact ih7 _ _ _)
   | (with_reducible exact ih8 _ _ _)
   | (with_reducible exact ih9 _ _ _ _ _ _ _ _ _ _ _)
   | (with_reducible exact cellarlaw1_Heavy.mono _ _ _ _)
   | (with_reducible exact cellarref1_Size.mono _ _ _ _)
   | (with_reducible exact cellarref1_Width.mono _ _)
   | (with_reducible exact LeO.refl _)
   | (with_reducible exact LeO.none _)
   | (with_reducible refine LeO.ite ?_ ?_)
   | (with_reducible refine LeO.bind ?_ (fun _ => ?_))
   | exact ih0 _ _ _ _ _
   | exact ih1 _ _ _ _ _ _ _ _ _ _ _
   | exact ih2 _ _ _ _ _ _
   | exact ih3 _ _ _ _ _ _
   | exact ih4 _ _ _ _ _ _ _
   | exact ih5 _ _ _ _ _ _ _ _ _ _ _
   | exact ih6 _ _
   | exact ih7 _ _ _
   | exact ih8 _ _ _
   | exact ih9 _ _ _ _ _ _ _ _ _ _ _
   | exact cellarlaw1_Heavy.mono _ _ _ _
   | exact cellarref1_Size.mono _ _ _ _
   | exact cellarref1_Width.mono _ _
   | exact LeO.none _
   | refine LeO.ite ?_ ?_
   | refine LeO.bind ?_ (fun _ => ?_)
  ·intro y0 y1
   unfold cellarlaw1_WordExact.l2
   repeat' first
   | (with_reducible exact ih0 _ _ _ _ _)
   | (with_reducible exact ih1 _ _ _ _ _ _ _ _ _ _ _)
   | (with_reducible exact ih2 _ _ _ _ _ _)
   | (with_reducible exact ih3 _ _ _ _ _ _)
   | (with_reducible exact ih4 _ _ _ _ _ _ _)
   | (with_reducible exact ih5 _ _ _ _ _ _ _ _ _ _ _)
   | (with_reducible exact ih6 _ _)
   | (with_reducible exact ih7 _ _ _)
   | (with_reducible exact ih8 _ _ _)
   | (with_reducible exact ih9 _ _ _ _ _ _ _ _ _ _ _)
   | (with_reducible exact cellarlaw1_Heavy.mono _ _ _ _)
   | (with_reducible exact cellarref1_Size.mono _ _ _ _)
   | (with_reducible exact cellarref1_Width.mono _ _)
   | (with_reducible exact LeO.refl _)
   | (with_reducible exact LeO.none _)
   | (with_reducible refine LeO.ite ?_ ?_)
   | (with_reducible refine LeO.bind ?_ (fun _ => ?_))
   | exact ih0 _ _ _ _ _
   | exact ih1 _ _ _ _ _ _ _ _ _ _ _
   | exact ih2 _ _ _ _ _ _
   | exact ih3 _ _ _ _ _ _
   | exact ih4 _ _ _ _ _ _ _
   | exact ih5 _ _ _ _ _ _ _ _ _ _ _
   | exact ih6 _ _
   | exact ih7 _ _ _
   | exact ih8 _ _ _
   | exact ih9 _ _ _ _ _ _ _ _ _ _ _
   | exact cellarlaw1_Heavy.mono _ _ _ _
   | exact cellarref1_Size.mono _ _ _ _
   | exact cellarref1_Width.mono _ _
   | exact LeO.none _
   | refine LeO.ite ?_ ?_
   | refine LeO.bind ?_ (fun _ => ?_)
  ·intro y0 y1 y2
   unfold cellarlaw1_WordExact.j7
   repeat' first
   | (with_reducible exact ih0 _ _ _ _ _)
   | (with_reducible exact ih1 _ _ _ _ _ _ _ _ _ _ _)
   | (with_reducible exact ih2 _ _ _ _ _ _)
   | (with_reducible exact ih3 _ _ _ _ _ _)
   | (with_reducible exact ih4 _ _ _ _ _ _ _)
   | (with_reducible exact ih5 _ _ _ _ _ _ _ _ _ _ _)
   | (with_reducible exact ih6 _ _)
   | (with_reducible exact ih7 _ _ _)
   | (with_reducible exact ih8 _ _ _)
   | (with_reducible exact ih9 _ _ _ _ _ _ _ _ _ _ _)
   | (with_reducible exact cellarlaw1_Heavy.mono _ _ _ _)
   | (with_reducible exact cellarref1_Size.mono _ _ _ _)
   | (with_reducible exact cellarref1_Width.mono _ _)
   | (with_reducible exact LeO.refl _)
   | (with_reducible exact LeO.none _)
   | (with_reducible refine LeO.ite ?_ ?_)
   | (with_reducible refine LeO.bind ?_ (fun _ => ?_))
   | exact ih0 _ _ _ _ _
   | exact ih1 _ _ _ _ _ _ _ _ _ _ _
   | exact ih2 _ _ _ _ _ _
   | exact ih3 _ _ _ _ _ _
   | exact ih4 _ _ _ _ _ _ _
   | exact ih5 _ _ _ _ _ _ _ _ _ _ _
   | exact ih6 _ _
   | exact ih7 _ _ _
   | exact ih8 _ _ _
   | exact ih9 _ _ _ _ _ _ _ _ _ _ _
   | exact cellarlaw1_Heavy.mono _ _ _ _
   | exact cellarref1_Size.mono _ _ _ _
   | exact cellarref1_Width.mono _ _
   | exact LeO.none _
   | refine LeO.ite ?_ ?_
   | refine LeO.bind ?_ (fun _ => ?_)
  ·intro y0 y1 y2
   unfold cellarlaw1_WordExact.l3
   repeat' first
   | (with_reducible exact ih0 _ _ _ _ _)
   | (with_reducible exact ih1 _ _ _ _ _ _ _ _ _ _ _)
   | (with_reducible exact ih2 _ _ _ _ _ _)
   | (with_reducible exact ih3 _ _ _ _ _ _)
   | (with_reducible exact ih4 _ _ _ _ _ _ _)
   | (with_reducible exact ih5 _ _ _ _ _ _ _ _ _ _ _)
   | (with_reducible exact ih6 _ _)
   | (with_reducible exact ih7 _ _ _)
   | (with_reducible exact ih8 _ _ _)
   | (with_reducible exact ih9 _ _ _ _ _ _ _ _ _ _ _)
   | (with_reducible exact cellarlaw1_Heavy.mono _ _ _ _)
   | (with_reducible exact cellarref1_Size.mono _ _ _ _)
   | (with_reducible exact cellarref1_Width.mono _ _)
   | (with_reducible exact LeO.refl _)
   | (with_reducible exact LeO.none _)
   | (with_reducible refine LeO.ite ?_ ?_)
   | (with_reducible refine LeO.bind ?_ (fun _ => ?_))
   | exact ih0 _ _ _ _ _
   | exact ih1 _ _ _ _ _ _ _ _ _ _ _
   | exact ih2 _ _ _ _ _ _
   | exact ih3 _ _ _ _ _ _
   | exact ih4 _ _ _ _ _ _ _
   | exact ih5 _ _ _ _ _ _ _ _ _ _ _
   | exact ih6 _ _
   | exact ih7 _ _ _
   | exact ih8 _ _ _
   | exact ih9 _ _ _ _ _ _ _ _ _ _ _
   | exact cellarlaw1_Heavy.mono _ _ _ _
   | exact cellarref1_Size.mono _ _ _ _
   | exact cellarref1_Width.mono _ _
   | exact LeO.none _
   | refine LeO.ite ?_ ?_
   | refine LeO.bind ?_ (fun _ => ?_)
  ·intro y0 y1 y2 y3 y4 y5 y6 y7 y8 y9 y10
   unfold cellarlaw1_WordExact.j9
   repeat' first
   | (with_reducible exact ih0 _ _ _ _ _)
   | (with_reducible exact ih1 _ _ _ _ _ _ _ _ _ _ _)
   | (with_reducible exact ih2 _ _ _ _ _ _)
   | (with_reducible exact ih3 _ _ _ _ _ _)
   | (with_reducible exact ih4 _ _ _ _ _ _ _)
   | (with_reducible exact ih5 _ _ _ _ _ _ _ _ _ _ _)
   | (with_reducible exact ih6 _ _)
   | (with_reducible exact ih7 _ _ _)
   | (with_reducible exact ih8 _ _ _)
   | (with_reducible exact ih9 _ _ _ _ _ _ _ _ _ _ _)
   | (with_reducible exact cellarlaw1_Heavy.mono _ _ _ _)
   | (with_reducible exact cellarref1_Size.mono _ _ _ _)
   | (with_reducible exact cellarref1_Width.mono _ _)
   | (with_reducible exact LeO.refl _)
   | (with_reducible exact LeO.none _)
   | (with_reducible refine LeO.ite ?_ ?_)
   | (with_reducible refine LeO.bind ?_ (fun _ => ?_))
   | exact ih0 _ _ _ _ _
   | exact ih1 _ _ _ _ _ _ _ _ _ _ _
   | exact ih2 _ _ _ _ _ _
   | exact ih3 _ _ _ _ _ _
   | exact ih4 _ _ _ _ _ _ _
   | exact ih5 _ _ _ _ _ _ _ _ _ _ _
   | exact ih6 _ _
   | exact ih7 _ _ _
   | exact ih8 _ _ _
   | exact ih9 _ _ _ _ _ _ _ _ _ _ _
   | exact cellarlaw1_Heavy.mono _ _ _ _
   | exact cellarref1_Size.mono _ _ _ _
   | exact cellarref1_Width.mono _ _
   | exact LeO.none _
   | refine LeO.ite ?_ ?_
   | refine LeO.bind ?_ (fun _ => ?_)
theorem cellarlaw1_WordExact.mono : ∀ a0 a1 a2 k, LeO (cellarlaw1_WordExact.f k a0 a1 a2) (cellarlaw1_WordExact.f (k + 1) a0 a1 a2) := by
 intro a0 a1 a2 k
 obtain ⟨ih0, ih1, ih2, ih3, ih4, ih5, ih6, ih7, ih8, ih9⟩ := cellarlaw1_WordExact.mono_l k
 unfold cellarlaw1_WordExact.f
 repeat' first
   | (with_reducible exact ih0 _ _ _ _ _)
   | (with_reducible exact ih1 _ _ _ _ _ _ _ _ _ _ _)
   | (with_reducible exact ih2 _ _ _ _ _ _)
   | (with_reducible exact ih3 _ _ _ _ _ _)
   | (with_reducible exact ih4 _ _ _ _ _ _ _)
   | (with_reducible exact ih5 _ _ _ _ _ _ _ _ _ _ _)
   | (with_reducible exact ih6 _ _)
   | (with_reducible exact ih7 _ _ _)
   | (with_reducible exact ih8 _ _ _)
   | (with_reducible exact ih9 _ _ _ _ _ _ _ _ _ _ _)
   | (with_reducible exact cellarlaw1_Heavy.mono _ _ _ _)
   | (with_reducible exact cellarref1_Size.mono _ _ _ _)
   | (with_reducible exact cellarref1_Width.mono _ _)
   | (with_reducible exact LeO.refl _)
   | (with_reducible exact LeO.none _)
   | (with_reducible refine LeO.ite ?_ ?_)
   | (with_reducible refine LeO.bind ?_ (fun _ => ?_))
   | exact ih0 _ _ _ _ _
   | exact ih1 _ _ _ _ _ _ _ _ _ _ _
   | exact ih2 _ _ _ _ _ _
   | exact ih3 _ _ _ _ _ _
   | exact ih4 _ _ _ _ _ _ _
   | exact ih5 _ _ _ _ _ _ _ _ _ _ _
   | exact ih6 _ _
   | exact ih7 _ _ _
   | exact ih8 _ _ _
   | exact ih9 _ _ _ _ _ _ _ _ _ _ _
   | exact cellarlaw1_Heavy.mono _ _ _ _
   | exact cellarref1_Size.mono _ _ _ _
   | exact cellarref1_Width.mono _ _
   | exact LeO.none _
   | refine LeO.ite ?_ ?_
   | refine LeO.bind ?_ (fun _ => ?_)
set_option maxHeartbeats 8000000 in
set_option maxRecDepth 100000 in
theorem cellarlaw1_WordExact.calls (k : Nat) (A0_0 : Option Addr) (c0_0 : Nat) (l0_0 : List Int) (A0_1 : Option Addr) (c0_1 : Nat) (l0_1 : List ByteArray) (A0_2 : Option Addr) (c0_2 : Nat) (l0_2 : List (S34)) (r : Bool) (w : World) (hr0_0 : Kd.C (Kd.int .i64) w A0_0 l0_0.length l0_0) (hc0_0 : l0_0.length ≤ c0_0) (hr0_1 : Kd.C Kd.string w A0_1 l0_1.length l0_1) (hc0_1 : l0_1.length ≤ c0_1) (hr0_2 : Kd.C k34 w A0_2 l0_2.length l0_2) (hc0_2 : l0_2.length ≤ c0_2) (h : cellarlaw1_WordExact.f k l0_0 l0_1 l0_2 = some r) :
  Calls Try.prog 4 #[.agg #[.slice A0_0 l0_0.length c0_0, .slice A0_1 l0_1.length c0_1, .slice A0_2 l0_2.length c0_2]] w fun e w' => e = .returned (.bool r) ∧ Below w.heap.size w w' := by
 have hu26 := Try.underlying26
 have hu34 := Try.underlying34
 have HR0_0 := Aside0.mk hr0_0
 have HC0_0 := Aside0.mk hc0_0
 clear hr0_0 hc0_0
 have HR0_1 := Aside0.mk hr0_1
 have HC0_1 := Aside0.mk hc0_1
 clear hr0_1 hc0_1
 have HR0_2 := Aside0.mk hr0_2
 have HC0_2 := Aside0.mk hc0_2
 clear hr0_2 hc0_2
 have HB := Aside0.mk (Below.refl w.heap.size w)
 have H : ((cellarlaw1_Heavy.f k l0_0 l0_1 l0_2).bind fun t134 => (if t134 = true then (some true) else ((some (([(⟨false, 4⟩ : S34), (⟨true, 2⟩ : S34), (⟨false, 0⟩ : S34)] : List (S34)) : List (S34))).bind fun y135 => (if y135.length + l0_2.length < 8796093022208 then (cellarlaw1_WordExact.l0 k (y135 ++ l0_2) (-1) l0_0 l0_1 l0_2) else (none))))) = some r := h
 clear h
 replace H := Option.bind_eq_some_iff.mp H
 obtain ⟨t134, A20, H⟩ := H
 replace H : (if t134 = true then (some true) else ((some (([(⟨false, 4⟩ : S34), (⟨true, 2⟩ : S34), (⟨false, 0⟩ : S34)] : List (S34)) : List (S34))).bind fun y135 => (if y135.length + l0_2.length < 8796093022208 then (cellarlaw1_WordExact.l0 k (y135 ++ l0_2) (-1) l0_0 l0_1 l0_2) else (none)))) = some r := H
 have A2 := Aside0.mk A20
 clear A20
 by_cases c3 : t134 = true
 ·subst c3
  have H1 : (some true) = some r := by rw [if_pos rfl] at H; exact H
  clear H
  have H := H1
  clear H1
  obtain rfl := Option.some.inj H
  go_enter Try.func4, Try.ntmps4
  go_wp2_with (first | ((with_reducible refine gate_dst (N := 1) rfl ?_); refine box_event ?hg (N := 1) ?hd (cs := #[.slice A0_0 l0_0.length c0_0, .slice A0_1 l0_1.length c0_1, .slice A0_2 l0_2.length c0_2]) (t := 26) ?hr ?_; (case hd => rfl); (case hg => rfl); (case hr => first | (go_simp; done) | (go_simp; rfl)); intro gb133 hg w4 hbox hb; have n0_ := Aside0.mk (below_step (by repeat (first | (with_reducible first | exact HB.out | apply below_alloc | apply pw_below_drewN | apply below_drew1) | exact HB.out)) hb); have n1_ := Aside0.mk (hbox); have n2_ := Aside0.mk ((by rw [hg]; exact (below_size (by repeat (first | (with_reducible first | exact HB.out | apply below_alloc | apply pw_below_drewN | apply below_drew1) | exact HB.out))) : w.heap.size ≤ gb133)); have n3_ := Aside0.mk ((by rw [hg]; exact (below_size (by repeat (first | (with_reducible first | exact HB.out | apply below_alloc | apply pw_below_drewN | apply below_drew1) | exact HB.out))) : w.heap.size ≤ gb133)); clear HB; have HB := n0_; have BK133 := n1_; have GW133 := n2_; have GE133 := n3_; clear n0_ n1_ n2_ n3_; clear hb hbox hg; have hcz5_0 : w4.cell? ⟨gb133, 0, none⟩ = some (.slice A0_0 l0_0.length c0_0) := (blk_cell BK133.out 0).trans rfl; have hcz5_1 : w4.cell? ⟨gb133, 1, none⟩ = some (.slice A0_1 l0_1.length c0_1) := (blk_cell BK133.out 1).trans rfl; have hcz5_2 : w4.cell? ⟨gb133, 2, none⟩ = some (.slice A0_2 l0_2.length c0_2) := (blk_cell BK133.out 2).trans rfl; have hfz5_0 := blk_frozen BK133.out 0; have hfz5_1 := blk_frozen BK133.out 1; have hfz5_2 := blk_frozen BK133.out 2) | ((with_reducible refine gate_callee (f := 23) rfl ?_); refine goesL_ (some 29) rfl rfl Try.func23 (by kernel_rfl) rfl #[.agg #[.slice A0_0 l0_0.length c0_0, .slice A0_1 l0_1.length c0_1, .slice A0_2 l0_2.length c0_2]] rfl (by (try simp only [List.map_toArray, List.map_cons, List.map_nil]); first | done | rfl | (simp only [List.length_drop, List.length_take]; rfl)) ?_; (with_reducible refine (cellarlaw1_Heavy.calls k _ _ l0_0 _ _ l0_1 _ _ l0_2 true _ ?side1 ?side2 ?side3 ?side4 ?side5 ?side6 A2.out).mono ?_); (case side1 => repeat (first | exact (Kd.C_below HR0_0.out HB.out) | (with_reducible refine Kd.C_alloc ?_ _) | (with_reducible refine Kd.C_drewN ?_ _) | (with_reducible refine Kd.C_drew ?_))); (case side2 => exact HC0_0.out); (case side3 => repeat (first | exact (Kd.C_below HR0_1.out HB.out) | (with_reducible refine Kd.C_alloc ?_ _) | (with_reducible refine Kd.C_drewN ?_ _) | (with_reducible refine Kd.C_drew ?_))); (case side4 => exact HC0_1.out); (case side5 => repeat (first | exact (Kd.C_below HR0_2.out HB.out) | (with_reducible refine Kd.C_alloc ?_ _) | (with_reducible refine Kd.C_drewN ?_ _) | (with_reducible refine Kd.C_drew ?_))); (case side6 => exact HC0_2.out); rintro e w6 ⟨rfl, hb⟩; refine ⟨_, rfl, ?_⟩; have n0_ := Aside0.mk (blk_below (g := gb133) (o := .cells #[.slice A0_0 l0_0.length c0_0, .slice A0_1 l0_1.length c0_1, .slice A0_2 l0_2.length c0_2] 26 (0, 0)) (by (with_reducible repeat (first | refine blk_drewN ?_ _ | refine blk_drew ?_ | refine blk_alloc ?_ _)); exact BK133.out) hb); have n1_ := Aside0.mk (below_step (by repeat (first | (with_reducible first | exact HB.out | apply below_alloc | apply pw_below_drewN | apply below_drew1 | refine below_set ?_ GE133.out) | exact HB.out)) hb); clear BK133; clear HB; have BK133 := n0_; have HB := n1_; clear n0_ n1_; (try clear hb); (try clear hb2); (try clear hk); (try clear hi)))
  go_ret
  exact ⟨by first | rfl | (simp [errW_none, errW_some] <;> rfl) | (simp [*, errW_none, errW_some] <;> rfl), by repeat (first | (with_reducible first | exact HB.out | apply below_alloc | apply pw_below_drewN | apply below_drew1 | refine below_set ?_ GE133.out) | exact HB.out)⟩
 ·replace c3 := Bool.eq_false_iff.mpr c3
  subst c3
  have H1 : ((some (([(⟨false, 4⟩ : S34), (⟨true, 2⟩ : S34), (⟨false, 0⟩ : S34)] : List (S34)) : List (S34))).bind fun y135 => (if y135.length + l0_2.length < 8796093022208 then (cellarlaw1_WordExact.l0 k (y135 ++ l0_2) (-1) l0_0 l0_1 l0_2) else (none))) = some r := by rw [if_neg (show ¬ (false = true) by decide)] at H; exact H
  clear H
  have H := H1
  clear H1
  obtain ⟨y135, hy135⟩ : ∃ y_ : List (S34), y_ = (([(⟨false, 4⟩ : S34), (⟨true, 2⟩ : S34), (⟨false, 0⟩ : S34)] : List (S34))) := ⟨_, rfl⟩
  replace H : (if y135.length + l0_2.length < 8796093022208 then (cellarlaw1_WordExact.l0 k (y135 ++ l0_2) (-1) l0_0 l0_1 l0_2) else (none)) = some r := by first | (rw [hy135]; with_reducible exact H) | (have H2_ := (Option.bind_some _ _).symm.trans H; rw [hy135]; with_reducible exact H2_) | (have H2_ := (Option.bind_some _ _).symm.trans H; with_reducible exact H2_) | with_reducible exact H | (rw [hy135]; exact H) | exact H
  have Ny135 := Aside0.mk hy135
  clear hy135
  by_cases c7 : y135.length + l0_2.length < 8796093022208
  ·rw [if_pos c7] at H
   have LMc7 := Aside0.mk c7
   clear c7
   obtain ⟨y138, hy138⟩ : ∃ y_ : List (S34), y_ = (y135 ++ l0_2) := ⟨_, rfl⟩
   replace H : (cellarlaw1_WordExact.l0 k y138 (-1) l0_0 l0_1 l0_2) = some r := by first | (rw [hy138]; with_reducible exact H) | (have H2_ := (Option.bind_some _ _).symm.trans H; rw [hy138]; with_reducible exact H2_) | (have H2_ := (Option.bind_some _ _).symm.trans H; with_reducible exact H2_) | with_reducible exact H | (rw [hy138]; exact H) | exact H
   have Ny138 := Aside0.mk hy138
   clear hy138
   have H' := Aside0.mk H
   clear H
   go_enter Try.func4, Try.ntmps4
   go_wp2_with (first | ((with_reducible refine gate_dst (N := 1) rfl ?_); refine box_event ?hg (N := 1) ?hd (cs := #[.slice A0_0 l0_0.length c0_0, .slice A0_1 l0_1.length c0_1, .slice A0_2 l0_2.length c0_2]) (t := 26) ?hr ?_; (case hd => rfl); (case hg => rfl); (case hr => first | (go_simp; done) | (go_simp; rfl)); intro gb133 hg w8 hbox hb; have n0_ := Aside0.mk (below_step (by repeat (first | (with_reducible first | exact HB.out | apply below_alloc | apply pw_below_drewN | apply below_drew1) | exact HB.out)) hb); have n1_ := Aside0.mk (hbox); have n2_ := Aside0.mk ((by rw [hg]; exact (below_size (by repeat (first | (with_reducible first | exact HB.out | apply below_alloc | apply pw_below_drewN | apply below_drew1) | exact HB.out))) : w.heap.size ≤ gb133)); have n3_ := Aside0.mk ((by rw [hg]; exact (below_size (by repeat (first | (with_reducible first | exact HB.out | apply below_alloc | apply pw_below_drewN | apply below_drew1) | exact HB.out))) : w.heap.size ≤ gb133)); clear HB; have HB := n0_; have BK133 := n1_; have GW133 := n2_; have GE133 := n3_; clear n0_ n1_ n2_ n3_; clear hb hbox hg; have hcz9_0 : w8.cell? ⟨gb133, 0, none⟩ = some (.slice A0_0 l0_0.length c0_0) := (blk_cell BK133.out 0).trans rfl; have hcz9_1 : w8.cell? ⟨gb133, 1, none⟩ = some (.slice A0_1 l0_1.length c0_1) := (blk_cell BK133.out 1).trans rfl; have hcz9_2 : w8.cell? ⟨gb133, 2, none⟩ = some (.slice A0_2 l0_2.length c0_2) := (blk_cell BK133.out 2).trans rfl; have hfz9_0 := blk_frozen BK133.out 0; have hfz9_1 := blk_frozen BK133.out 1; have hfz9_2 := blk_frozen BK133.out 2) | ((with_reducible refine gate_callee (f := 23) rfl ?_); refine goesL_ (some 29) rfl rfl Try.func23 (by kernel_rfl) rfl #[.agg #[.slice A0_0 l0_0.length c0_0, .slice A0_1 l0_1.length c0_1, .slice A0_2 l0_2.length c0_2]] rfl (by (try simp only [List.map_toArray, List.map_cons, List.map_nil]); first | done | rfl | (simp only [List.length_drop, List.length_take]; rfl)) ?_; (with_reducible refine (cellarlaw1_Heavy.calls k _ _ l0_0 _ _ l0_1 _ _ l0_2 false _ ?side1 ?side2 ?side3 ?side4 ?side5 ?side6 A2.out).mono ?_); (case side1 => repeat (first | exact (Kd.C_below HR0_0.out HB.out) | (with_reducible refine Kd.C_alloc ?_ _) | (with_reducible refine Kd.C_drewN ?_ _) | (with_reducible refine Kd.C_drew ?_))); (case side2 => exact HC0_0.out); (case side3 => repeat (first | exact (Kd.C_below HR0_1.out HB.out) | (with_reducible refine Kd.C_alloc ?_ _) | (with_reducible refine Kd.C_drewN ?_ _) | (with_reducible refine Kd.C_drew ?_))); (case side4 => exact HC0_1.out); (case side5 => repeat (first | exact (Kd.C_below HR0_2.out HB.out) | (with_reducible refine Kd.C_alloc ?_ _) | (with_reducible refine Kd.C_drewN ?_ _) | (with_reducible refine Kd.C_drew ?_))); (case side6 => exact HC0_2.out); rintro e w10 ⟨rfl, hb⟩; refine ⟨_, rfl, ?_⟩; have n0_ := Aside0.mk (blk_below (g := gb133) (o := .cells #[.slice A0_0 l0_0.length c0_0, .slice A0_1 l0_1.length c0_1, .slice A0_2 l0_2.length c0_2] 26 (0, 0)) (by (with_reducible repeat (first | refine blk_drewN ?_ _ | refine blk_drew ?_ | refine blk_alloc ?_ _)); exact BK133.out) hb); have n1_ := Aside0.mk (below_step (by repeat (first | (with_reducible first | exact HB.out | apply below_alloc | apply pw_below_drewN | apply below_drew1 | refine below_set ?_ GE133.out) | exact HB.out)) hb); clear BK133; clear HB; have BK133 := n0_; have HB := n1_; clear n0_ n1_; (try clear hb); (try clear hb2); (try clear hk); (try clear hi)) | ((with_reducible refine gate_dst (N := 33) rfl ?_); refine Kd.R_lit k34 _ 34 ?hg (N := 33) ?hd (xs := ([(⟨false, 4⟩ : S34), (⟨true, 2⟩ : S34), (⟨false, 0⟩ : S34)] : List (S34))) (inner := [.bool false, .int .i64 4, .bool true, .int .i64 2, .bool false, .int .i64 0]) (ok := fun _ => True) (okp := fun _ => True) ?hr ?hp (fun _ hk => hk) trivial (Below.refl _ _) (Nat.le_refl _) (by simp) ?_; (case hd => rfl); (case hg => rfl); (case hr => first | (go_simp; done) | (go_simp; rfl)); (case hp => exact (Reps.c2 (show Kd.M k34 _ _ _ (⟨false, 4⟩ : S34) [.bool false, .int .i64 4] from (k34_mkM _ _ _ (⟨false, 4⟩ : S34) )) (Reps.c2 (show Kd.M k34 _ _ _ (⟨true, 2⟩ : S34) [.bool true, .int .i64 2] from (k34_mkM _ _ _ (⟨true, 2⟩ : S34) )) (Reps.c2 (show Kd.M k34 _ _ _ (⟨false, 0⟩ : S34) [.bool false, .int .i64 0] from (k34_mkM _ _ _ (⟨false, 0⟩ : S34) )) (Reps.none _ _))))); intro v136 w11 ho12 hb hg_ hnew_; clear hg_ hnew_; (first | rw [← Ny135.out] at ho12 | (simp only [Int.reduceToNat] at ho12; rw [← Ny135.out] at ho12)); have n0_ := Aside0.mk (Kd.R_lower ho12 (below_size (by repeat (first | (with_reducible first | exact HB.out | apply below_alloc | apply pw_below_drewN | apply below_drew1 | refine below_set ?_ GE133.out) | exact HB.out)))); have n1_ := Aside0.mk (blk_below (g := gb133) (o := .cells #[.slice A0_0 l0_0.length c0_0, .slice A0_1 l0_1.length c0_1, .slice A0_2 l0_2.length c0_2] 26 (0, 0)) (by (with_reducible repeat (first | refine blk_drewN ?_ _ | refine blk_drew ?_ | refine blk_alloc ?_ _)); exact BK133.out) hb); have n2_ := Aside0.mk (below_step (by repeat (first | (with_reducible first | exact HB.out | apply below_alloc | apply pw_below_drewN | apply below_drew1 | refine below_set ?_ GE133.out) | exact HB.out)) hb); clear BK133; clear HB; have HO137 := n0_; have BK133 := n1_; have HB := n2_; clear n0_ n1_ n2_; clear hb ho12; have hcz13_0 : w11.cell? ⟨gb133, 0, none⟩ = some (.slice A0_0 l0_0.length c0_0) := (blk_cell BK133.out 0).trans rfl; have hcz13_1 : w11.cell? ⟨gb133, 1, none⟩ = some (.slice A0_1 l0_1.length c0_1) := (blk_cell BK133.out 1).trans rfl; have hcz13_2 : w11.cell? ⟨gb133, 2, none⟩ = some (.slice A0_2 l0_2.length c0_2) := (blk_cell BK133.out 2).trans rfl; have hfz13_0 := blk_frozen BK133.out 0; have hfz13_1 := blk_frozen BK133.out 1; have hfz13_2 := blk_frozen BK133.out 2) | ((with_reducible refine gate_builtin (b := .append) (xs := #[.tmp 33, .tmp 35]) rfl ?_); at_builtin; refine Kd.R_append_rows k34 (w0 := w) w.heap.size rfl (.tmp 33) (.tmp 35) 24 34 (.agg #[(.bool false), (.int .i64 0)]) 16 rfl Try.underlying24 info34 rfl (by decide) (by omega) v136 y135 l0_2 _ _ _ (fun _ => True) (fun _ => False) rfl rfl ?aO ?aR (fun _ _ h => h) (fun _ h => h.elim) ?aF ?aB ?aS ?aL ?_; (case aR => repeat (first | exact (Kd.C_below HR0_2.out HB.out) | (with_reducible refine Kd.C_alloc ?_ _) | (with_reducible refine Kd.C_drewN ?_ _) | (with_reducible refine Kd.C_drew ?_))); (case aB => exact (by repeat (first | (with_reducible first | exact HB.out | apply below_alloc | apply pw_below_drewN | apply below_drew1 | refine below_set ?_ GE133.out) | exact HB.out))); (case aF => exact (fun _ _ => trivial)); (case aO => exact (by (with_reducible repeat (first | apply Kd.R_alloc | apply Kd.R_drewN | apply Kd.R_drew)); exact HO137.out)); (case aS => exact (below_size (by repeat (first | (with_reducible first | exact HB.out | apply below_alloc | apply pw_below_drewN | apply below_drew1 | refine below_set ?_ GE133.out) | exact HB.out)))); (case aL => have := LMc7.out; omega); intro v139 w14 ho hb hg hat; rw [← Ny138.out] at ho; have n0_ := Aside0.mk (blk_grown (g := gb133) (o := .cells #[.slice A0_0 l0_0.length c0_0, .slice A0_1 l0_1.length c0_1, .slice A0_2 l0_2.length c0_2] 26 (0, 0)) (by (with_reducible repeat (first | refine blk_drewN ?_ _ | refine blk_drew ?_ | refine blk_alloc ?_ _)); exact BK133.out) hg (Kd.R_ne HO137.out BK133.out (by decide))); have n1_ := Aside0.mk (hb); have n2_ := Aside0.mk (ho); clear BK133; clear HB; clear HO137; have BK133 := n0_; have HB := n1_; have HO140 := n2_; clear n0_ n1_ n2_; clear ho hb hg hat))
   go_loopg [4] k (fun kq v4 w' => ∃ (x4_1 : Int), v4 = .int .i64 x4_1 ∧ Aside0 (cellarlaw1_WordExact.l0 kq y138 x4_1 l0_0 l0_1 l0_2 = some r) ∧ Aside0 (kq ≤ k) ∧ Aside0 (Kd.R k34 34 w' w.heap.size (fun _ => True) v139 y138) ∧ Aside0 (w'.heap[gb133]? = some (.cells #[(.slice A0_0 l0_0.length c0_0), (.slice A0_1 l0_1.length c0_1), (.slice A0_2 l0_2.length c0_2)] 26 (0, 0))) ∧ Aside0 (Below w.heap.size w w'))
   case atStart => exact ⟨((-1)), (by first | rfl | (simp; done) | (simp [*]; done)), H', ⟨Nat.le_refl _⟩, ⟨by (with_reducible repeat (first | apply Kd.R_alloc | apply Kd.R_drewN | apply Kd.R_drew)); exact HO140.out⟩, ⟨by (with_reducible repeat (first | refine blk_drewN ?_ _ | refine blk_drew ?_ | refine blk_alloc ?_ _)); exact BK133.out⟩, ⟨by repeat (first | (with_reducible first | exact HB.out | apply below_alloc | apply pw_below_drewN | apply below_drew1 | refine below_set ?_ GE133.out) | exact HB.out)⟩⟩
   case round =>
    clear H'
    try clear c2
    try clear p2
    try clear c3
    try clear c4
    try clear c7
    try clear hcz13_0
    try clear hcz13_1
    try clear hcz13_2
    try clear hcz5_0
    try clear hcz5_1
    try clear hcz5_2
    try clear hcz9_0
    try clear hcz9_1
    try clear hcz9_2
    try clear hfz13_0
    try clear hfz13_1
    try clear hfz13_2
    try clear hfz5_0
    try clear hfz5_1
    try clear hfz5_2
    try clear hfz9_0
    try clear hfz9_1
    try clear hfz9_2
    obtain ⟨x4_1, rfl, HA, HK1, HO_3, BK133, HB⟩ := hrel
    cases gk with
    | zero => exact absurd HA.out (by simp [cellarlaw1_WordExact.l0])
    | succ k1 =>
     have H := HA.out
     clear HA
     simp only [cellarlaw1_WordExact.l0] at H
     by_cases c15 : x4_1 ≤ 11
     ·rw [if_pos c15] at H
      have c15b0 : decide (x4_1 ≤ 11) = true := decide_eq_true c15
      clear c15
      replace H := Option.bind_eq_some_iff.mp H
      obtain ⟨⟨t141, t142⟩, A160, H⟩ := H
      replace H : ((word_Signed.f x4_1).bind fun bt143 => ((cellarref1_Width.f k1 x4_1).bind fun t145 => (if t145 > 0 then ((cellarref1_Signed.f x4_1).bind fun t146 => (cellarlaw1_WordExact.j1 k1 y138 x4_1 t141 t142 bt143.1 bt143.2 0 t146 l0_0 l0_1 l0_2)) else (cellarlaw1_WordExact.j1 k1 y138 x4_1 t141 t142 bt143.1 bt143.2 1 false l0_0 l0_1 l0_2)))) = some r := H
      have A16 := Aside0.mk A160
      clear A160
      replace H := Option.bind_eq_some_iff.mp H
      obtain ⟨⟨t143, t144⟩, A170, H⟩ := H
      replace H : ((cellarref1_Width.f k1 x4_1).bind fun t145 => (if t145 > 0 then ((cellarref1_Signed.f x4_1).bind fun t146 => (cellarlaw1_WordExact.j1 k1 y138 x4_1 t141 t142 t143 t144 0 t146 l0_0 l0_1 l0_2)) else (cellarlaw1_WordExact.j1 k1 y138 x4_1 t141 t142 t143 t144 1 false l0_0 l0_1 l0_2))) = some r := H
      have A17 := Aside0.mk A170
      clear A170
      replace H := Option.bind_eq_some_iff.mp H
      obtain ⟨t145, A180, H⟩ := H
      replace H : (if t145 > 0 then ((cellarref1_Signed.f x4_1).bind fun t146 => (cellarlaw1_WordExact.j1 k1 y138 x4_1 t141 t142 t143 t144 0 t146 l0_0 l0_1 l0_2)) else (cellarlaw1_WordExact.j1 k1 y138 x4_1 t141 t142 t143 t144 1 false l0_0 l0_1 l0_2)) = some r := H
      have A18 := Aside0.mk A180
      clear A180
      have HC19 := Aside0.mk H
      clear H
      go_upto_if 53 with (first | ((with_reducible refine gate_callee (f := 28) rfl ?_); refine goesL_ (some 43) rfl rfl Try.func28 (by kernel_rfl) rfl #[.int .i64 x4_1] rfl (by (try simp only [List.map_toArray, List.map_cons, List.map_nil]); first | done | rfl | (simp only [List.length_drop, List.length_take]; rfl)) ?_; (with_reducible refine (word_Width.calls x4_1 t141 t142 _ A16.out).mono ?_); rintro e w' ⟨rfl, ⟨nd, rfl⟩⟩; refine ⟨_, rfl, ?_⟩) | ((with_reducible refine gate_callee (f := 29) rfl ?_); refine goesL_ (some 48) rfl rfl Try.func29 (by kernel_rfl) rfl #[.int .i64 x4_1] rfl (by (try simp only [List.map_toArray, List.map_cons, List.map_nil]); first | done | rfl | (simp only [List.length_drop, List.length_take]; rfl)) ?_; (with_reducible refine (word_Signed.calls x4_1 t143 t144 _ A17.out).mono ?_); rintro e w' ⟨rfl, ⟨nd, rfl⟩⟩; refine ⟨_, rfl, ?_⟩) | ((with_reducible refine gate_callee (f := 30) rfl ?_); refine goesL_ (some 52) rfl rfl Try.func30 (by kernel_rfl) rfl #[.int .i64 x4_1] rfl (by (try simp only [List.map_toArray, List.map_cons, List.map_nil]); first | done | rfl | (simp only [List.length_drop, List.length_take]; rfl)) ?_; (with_reducible refine (cellarref1_Width.calls k1 x4_1 t145 _ A18.out).mono ?_); rintro e w' ⟨rfl, ⟨nd, rfl⟩⟩; refine ⟨_, rfl, ?_⟩))
      (try simp only [Act.put, List.setIfInBounds_toArray, List.set_cons_zero, List.set_cons_succ])
      go_cut [9, 10] (fun v9 v10 wc => ∃ (kq : Nat) (x9_18 : Int) (x10_18 : Bool), v9 = .int .i64 x9_18 ∧ v10 = .bool x10_18 ∧ Aside0 (cellarlaw1_WordExact.j1 kq y138 x4_1 t141 t142 t143 t144 x9_18 x10_18 l0_0 l0_1 l0_2 = some r) ∧ Aside0 (kq ≤ k1) ∧ Aside0 (Kd.R k34 34 wc w.heap.size (fun _ => True) v139 y138) ∧ Aside0 (wc.heap[gb133]? = some (.cells #[(.slice A0_0 l0_0.length c0_0), (.slice A0_1 l0_1.length c0_1), (.slice A0_2 l0_2.length c0_2)] 26 (0, 0))) ∧ Aside0 (Below w.heap.size w wc))
      case first =>
       have H := HC19.out
       clear HC19
       by_cases c20 : t145 > 0
       ·rw [if_pos c20] at H
        have c20b0 : decide (0 < t145) = true := decide_eq_true c20
        clear c20
        (first | rw [c20b0] | (simp only [i64_w, i32_w]; rw [c20b0]) | skip)
        replace H := Option.bind_eq_some_iff.mp H
        obtain ⟨t146, A210, H⟩ := H
        replace H : (cellarlaw1_WordExact.j1 k1 y138 x4_1 t141 t142 t143 t144 0 t146 l0_0 l0_1 l0_2) = some r := H
        have A21 := Aside0.mk A210
        clear A210
        have H' := Aside0.mk H
        clear H
        go_wp2_with (first | ((with_reducible refine gate_callee (f := 31) rfl ?_); refine goesL_ (some 55) rfl rfl Try.func31 (by kernel_rfl) rfl #[.int .i64 x4_1] rfl (by (try simp only [List.map_toArray, List.map_cons, List.map_nil]); first | done | rfl | (simp only [List.length_drop, List.length_take]; rfl)) ?_; (with_reducible refine (cellarref1_Signed.calls x4_1 t146 _ A21.out).mono ?_); rintro e w' ⟨rfl, ⟨nd, rfl⟩⟩; refine ⟨_, rfl, ?_⟩))
        go_meet
        case rel => exact ⟨_, (0), (t146), (by first | rfl | (simp; done) | (simp [*]; done)), (by first | rfl | (simp; done) | (simp [*]; done)), H', ⟨by have := HK1.out; first | omega | exact Nat.le_refl _⟩, ⟨by (with_reducible repeat (first | apply Kd.R_alloc | apply Kd.R_drewN | apply Kd.R_drew)); exact HO_3.out⟩, ⟨by (with_reducible repeat (first | refine blk_drewN ?_ _ | refine blk_drew ?_ | refine blk_alloc ?_ _)); exact BK133.out⟩, ⟨by repeat (first | (with_reducible first | exact HB.out | apply below_alloc | apply pw_below_drewN | apply below_drew1 | refine below_set ?_ GE133.out) | exact HB.out)⟩⟩
       ·rw [if_neg c20] at H
        have c20b0 : decide (0 < t145) = false := decide_eq_false c20
        clear c20
        (first | rw [c20b0] | (simp only [i64_w, i32_w]; rw [c20b0]) | skip)
        have H' := Aside0.mk H
        clear H
        go_wp2
        go_meet
        case rel => exact ⟨_, (1), (false), (by first | rfl | (simp; done) | (simp [*]; done)), (by first | rfl | (simp; done) | (simp [*]; done)), H', ⟨by have := HK1.out; first | omega | exact Nat.le_refl _⟩, ⟨by (with_reducible repeat (first | apply Kd.R_alloc | apply Kd.R_drewN | apply Kd.R_drew)); exact HO_3.out⟩, ⟨by (with_reducible repeat (first | refine blk_drewN ?_ _ | refine blk_drew ?_ | refine blk_alloc ?_ _)); exact BK133.out⟩, ⟨by repeat (first | (with_reducible first | exact HB.out | apply below_alloc | apply pw_below_drewN | apply below_drew1 | refine below_set ?_ GE133.out) | exact HB.out)⟩⟩
      case rest =>
       clear HC19
       try clear c1
       try clear c2
       try clear p2
       try clear c3
       try clear c4
       try clear c7
       try clear c15
       try clear c15b0
       try clear c20
       try clear c20b0
       try clear hcz13_0
       try clear hcz13_1
       try clear hcz13_2
       try clear hcz5_0
       try clear hcz5_1
       try clear hcz5_2
       try clear hcz9_0
       try clear hcz9_1
       try clear hcz9_2
       try clear hfz13_0
       try clear hfz13_1
       try clear hfz13_2
       try clear hfz5_0
       try clear hfz5_1
       try clear hfz5_2
       try clear hfz9_0
       try clear hfz9_1
       try clear hfz9_2
       try clear p2
       obtain ⟨kq, x9_18, x10_18, rfl, rfl, HA, HJ18, HO_3, BK133, HB⟩ := hcut
       cases kq with
       | zero => exact absurd HA.out (by simp [cellarlaw1_WordExact.j1])
       | succ kj18 =>
        have H := HA.out
        clear HA
        simp only [cellarlaw1_WordExact.j1] at H
        have HC22 := Aside0.mk H
        clear H
        go_upto_region 12 with (fail)
        go_cut [76] (fun v76 wc => ∃ (kq : Nat) (x76_21 : Bool), v76 = .bool x76_21 ∧ Aside0 (cellarlaw1_WordExact.j2 kq y138 x4_1 x76_21 l0_0 l0_1 l0_2 = some r) ∧ Aside0 (kq ≤ kj18) ∧ Aside0 (Kd.R k34 34 wc w.heap.size (fun _ => True) v139 y138) ∧ Aside0 (wc.heap[gb133]? = some (.cells #[(.slice A0_0 l0_0.length c0_0), (.slice A0_1 l0_1.length c0_1), (.slice A0_2 l0_2.length c0_2)] 26 (0, 0))) ∧ Aside0 (Below w.heap.size w wc))
        case first =>
         have H := HC22.out
         clear HC22
         replace H := Option.bind_eq_some_iff.mp H
         obtain ⟨t147, A230, H⟩ := H
         replace H : (if t147 = x9_18 then ((cellarref1_Width.f kj18 x4_1).bind fun t148 => (if t141 = t148 then ((cellarlaw1_num.f t144).bind fun t149 => (if t149 = x9_18 then (cellarlaw1_WordExact.j2 kj18 y138 x4_1 (t143 != x10_18) l0_0 l0_1 l0_2) else (cellarlaw1_WordExact.j2 kj18 y138 x4_1 true l0_0 l0_1 l0_2))) else (cellarlaw1_WordExact.j2 kj18 y138 x4_1 true l0_0 l0_1 l0_2))) else (cellarlaw1_WordExact.j2 kj18 y138 x4_1 true l0_0 l0_1 l0_2)) = some r := H
         have A23 := Aside0.mk A230
         clear A230
         by_cases c24 : t147 = x9_18
         ·rw [if_pos c24] at H
          have c24b0 : (t147 == x9_18) = true := beq_iff_eq.mpr c24
          have c24b1 : (t147 != x9_18) = false := bne_eq_false_iff_eq.mpr c24
          clear c24
          (first | rw [c24b0] | (simp only [i64_w, i32_w]; rw [c24b0]) | skip)
          replace H := Option.bind_eq_some_iff.mp H
          obtain ⟨t148, A250, H⟩ := H
          replace H : (if t141 = t148 then ((cellarlaw1_num.f t144).bind fun t149 => (if t149 = x9_18 then (cellarlaw1_WordExact.j2 kj18 y138 x4_1 (t143 != x10_18) l0_0 l0_1 l0_2) else (cellarlaw1_WordExact.j2 kj18 y138 x4_1 true l0_0 l0_1 l0_2))) else (cellarlaw1_WordExact.j2 kj18 y138 x4_1 true l0_0 l0_1 l0_2)) = some r := H
          have A25 := Aside0.mk A250
          clear A250
          by_cases c26 : t141 = t148
          ·rw [if_pos c26] at H
           have c26b0 : (t141 == t148) = true := beq_iff_eq.mpr c26
           have c26b1 : (t141 != t148) = false := bne_eq_false_iff_eq.mpr c26
           clear c26
           replace H := Option.bind_eq_some_iff.mp H
           obtain ⟨t149, A270, H⟩ := H
           replace H : (if t149 = x9_18 then (cellarlaw1_WordExact.j2 kj18 y138 x4_1 (t143 != x10_18) l0_0 l0_1 l0_2) else (cellarlaw1_WordExact.j2 kj18 y138 x4_1 true l0_0 l0_1 l0_2)) = some r := H
           have A27 := Aside0.mk A270
           clear A270
           by_cases c28 : t149 = x9_18
           ·rw [if_pos c28] at H
            have c28b0 : (t149 == x9_18) = true := beq_iff_eq.mpr c28
            have c28b1 : (t149 != x9_18) = false := bne_eq_false_iff_eq.mpr c28
            clear c28
            have H' := Aside0.mk H
            clear H
            go_wp2_with (first | ((with_reducible refine gate_callee (f := 26) rfl ?_); refine goesL_ (some 57) rfl rfl Try.func26 (by kernel_rfl) rfl #[.int .i64 t142] rfl (by (try simp only [List.map_toArray, List.map_cons, List.map_nil]); first | done | rfl | (simp only [List.length_drop, List.length_take]; rfl)) ?_; (with_reducible refine (cellarlaw1_num.calls t142 t147 _ A23.out).mono ?_); rintro e w' ⟨rfl, ⟨nd, rfl⟩⟩; refine ⟨_, rfl, ?_⟩) | (go_at_call 30; (with_reducible refine (cellarref1_Width.calls kj18 x4_1 t148 _ A25.out).mono ?_); rintro e w' ⟨rfl, ⟨nd, rfl⟩⟩) | (go_at_call 26; (with_reducible refine (cellarlaw1_num.calls t144 t149 _ A27.out).mono ?_); rintro e w' ⟨rfl, ⟨nd, rfl⟩⟩))
            go_meet
            case rel => exact ⟨_, ((t143 != x10_18)), (by first | rfl | (simp; done) | (simp [*]; done)), H', ⟨by have := HK1.out; have := HJ18.out; first | omega | exact Nat.le_refl _⟩, ⟨by (with_reducible repeat (first | apply Kd.R_alloc | apply Kd.R_drewN | apply Kd.R_drew)); exact HO_3.out⟩, ⟨by (with_reducible repeat (first | refine blk_drewN ?_ _ | refine blk_drew ?_ | refine blk_alloc ?_ _)); exact BK133.out⟩, ⟨by repeat (first | (with_reducible first | exact HB.out | apply below_alloc | apply pw_below_drewN | apply below_drew1 | refine below_set ?_ GE133.out) | exact HB.out)⟩⟩
           ·rw [if_neg c28] at H
            have c28b0 : (t149 == x9_18) = false := beq_eq_false_iff_ne.mpr c28
            have c28b1 : (t149 != x9_18) = true := bne_iff_ne.mpr c28
            have H' := Aside0.mk H
            clear H
            go_wp2_with (first | ((with_reducible refine gate_callee (f := 26) rfl ?_); refine goesL_ (some 57) rfl rfl Try.func26 (by kernel_rfl) rfl #[.int .i64 t142] rfl (by (try simp only [List.map_toArray, List.map_cons, List.map_nil]); first | done | rfl | (simp only [List.length_drop, List.length_take]; rfl)) ?_; (with_reducible refine (cellarlaw1_num.calls t142 t147 _ A23.out).mono ?_); rintro e w' ⟨rfl, ⟨nd, rfl⟩⟩; refine ⟨_, rfl, ?_⟩) | (go_at_call 30; (with_reducible refine (cellarref1_Width.calls kj18 x4_1 t148 _ A25.out).mono ?_); rintro e w' ⟨rfl, ⟨nd, rfl⟩⟩) | (go_at_call 26; (with_reducible refine (cellarlaw1_num.calls t144 t149 _ A27.out).mono ?_); rintro e w' ⟨rfl, ⟨nd, rfl⟩⟩))
            go_meet
            case rel => exact ⟨_, (true), (by first | rfl | (simp; done) | (simp [*]; done)), H', ⟨by have := HK1.out; have := HJ18.out; first | omega | exact Nat.le_refl _⟩, ⟨by (with_reducible repeat (first | apply Kd.R_alloc | apply Kd.R_drewN | apply Kd.R_drew)); exact HO_3.out⟩, ⟨by (with_reducible repeat (first | refine blk_drewN ?_ _ | refine blk_drew ?_ | refine blk_alloc ?_ _)); exact BK133.out⟩, ⟨by repeat (first | (with_reducible first | exact HB.out | apply below_alloc | apply pw_below_drewN | apply below_drew1 | refine below_set ?_ GE133.out) | exact HB.out)⟩⟩
          ·rw [if_neg c26] at H
           have c26b0 : (t141 == t148) = false := beq_eq_false_iff_ne.mpr c26
           have c26b1 : (t141 != t148) = true := bne_iff_ne.mpr c26
           have H' := Aside0.mk H
           clear H
           go_wp2_with (first | ((with_reducible refine gate_callee (f := 26) rfl ?_); refine goesL_ (some 57) rfl rfl Try.func26 (by kernel_rfl) rfl #[.int .i64 t142] rfl (by (try simp only [List.map_toArray, List.map_cons, List.map_nil]); first | done | rfl | (simp only [List.length_drop, List.length_take]; rfl)) ?_; (with_reducible refine (cellarlaw1_num.calls t142 t147 _ A23.out).mono ?_); rintro e w' ⟨rfl, ⟨nd, rfl⟩⟩; refine ⟨_, rfl, ?_⟩) | (go_at_call 30; (with_reducible refine (cellarref1_Width.calls kj18 x4_1 t148 _ A25.out).mono ?_); rintro e w' ⟨rfl, ⟨nd, rfl⟩⟩))
           go_meet
           case rel => exact ⟨_, (true), (by first | rfl | (simp; done) | (simp [*]; done)), H', ⟨by have := HK1.out; have := HJ18.out; first | omega | exact Nat.le_refl _⟩, ⟨by (with_reducible repeat (first | apply Kd.R_alloc | apply Kd.R_drewN | apply Kd.R_drew)); exact HO_3.out⟩, ⟨by (with_reducible repeat (first | refine blk_drewN ?_ _ | refine blk_drew ?_ | refine blk_alloc ?_ _)); exact BK133.out⟩, ⟨by repeat (first | (with_reducible first | exact HB.out | apply below_alloc | apply pw_below_drewN | apply below_drew1 | refine below_set ?_ GE133.out) | exact HB.out)⟩⟩
         ·rw [if_neg c24] at H
          have c24b0 : (t147 == x9_18) = false := beq_eq_false_iff_ne.mpr c24
          have c24b1 : (t147 != x9_18) = true := bne_iff_ne.mpr c24
          (first | rw [c24b0] | (simp only [i64_w, i32_w]; rw [c24b0]) | skip)
          have H' := Aside0.mk H
          clear H
          go_wp2_with (first | ((with_reducible refine gate_callee (f := 26) rfl ?_); refine goesL_ (some 57) rfl rfl Try.func26 (by kernel_rfl) rfl #[.int .i64 t142] rfl (by (try simp only [List.map_toArray, List.map_cons, List.map_nil]); first | done | rfl | (simp only [List.length_drop, List.length_take]; rfl)) ?_; (with_reducible refine (cellarlaw1_num.calls t142 t147 _ A23.out).mono ?_); rintro e w' ⟨rfl, ⟨nd, rfl⟩⟩; refine ⟨_, rfl, ?_⟩))
          go_meet
          case rel => exact ⟨_, (true), (by first | rfl | (simp; done) | (simp [*]; done)), H', ⟨by have := HK1.out; have := HJ18.out; first | omega | exact Nat.le_refl _⟩, ⟨by (with_reducible repeat (first | apply Kd.R_alloc | apply Kd.R_drewN | apply Kd.R_drew)); exact HO_3.out⟩, ⟨by (with_reducible repeat (first | refine blk_drewN ?_ _ | refine blk_drew ?_ | refine blk_alloc ?_ _)); exact BK133.out⟩, ⟨by repeat (first | (with_reducible first | exact HB.out | apply below_alloc | apply pw_below_drewN | apply below_drew1 | refine below_set ?_ GE133.out) | exact HB.out)⟩⟩
        case rest =>
         clear HC22
         try clear c1
         try clear c2
         try clear p2
         try clear c3
         try clear c4
         try clear c7
         try clear c15
         try clear c15b0
         try clear c20
         try clear c20b0
         try clear c23
         try clear c24
         try clear c24b0
         try clear c24b1
         try clear c26
         try clear c26b0
         try clear c26b1
         try clear c28
         try clear c28b0
         try clear c28b1
         try clear hcz13_0
         try clear hcz13_1
         try clear hcz13_2
         try clear hcz5_0
         try clear hcz5_1
         try clear hcz5_2
         try clear hcz9_0
         try clear hcz9_1
         try clear hcz9_2
         try clear hfz13_0
         try clear hfz13_1
         try clear hfz13_2
         try clear hfz5_0
         try clear hfz5_1
         try clear hfz5_2
         try clear hfz9_0
         try clear hfz9_1
         try clear hfz9_2
         try clear p2
         obtain ⟨kq, x76_21, rfl, HA, HJ21, HO_3, BK133, HB⟩ := hcut
         cases kq with
         | zero => exact absurd HA.out (by simp [cellarlaw1_WordExact.j2])
         | succ kj21 =>
          have H := HA.out
          clear HA
          simp only [cellarlaw1_WordExact.j2] at H
          by_cases c29 : x76_21 = true
          ·subst c29
           have H1 : (some false) = some r := by rw [if_pos rfl] at H; exact H
           clear H
           have H := H1
           clear H1
           obtain rfl := Option.some.inj H
           go_wp2
           go_ret
           exact ⟨by first | rfl | (simp [errW_none, errW_some] <;> rfl) | (simp [*, errW_none, errW_some] <;> rfl), by repeat (first | (with_reducible first | exact HB.out | apply below_alloc | apply pw_below_drewN | apply below_drew1 | refine below_set ?_ GE133.out) | exact HB.out)⟩
          ·replace c29 := Bool.eq_false_iff.mpr c29
           subst c29
           have H1 : (cellarlaw1_WordExact.l1 kj21 y138 x4_1 0 l0_0 l0_1 l0_2) = some r := by rw [if_neg (show ¬ (false = true) by decide)] at H; exact H
           clear H
           have H := H1
           clear H1
           have H' := Aside0.mk H
           clear H
           go_wp2
           go_loopg [11] kj21 (fun kq v11 w' => ∃ (x11_4 : Int), v11 = .int .i64 x11_4 ∧ Aside0 (cellarlaw1_WordExact.l1 kq y138 x4_1 x11_4 l0_0 l0_1 l0_2 = some r) ∧ Aside0 (kq ≤ kj21) ∧ Aside0 (Kd.R k34 34 w' w.heap.size (fun _ => True) v139 y138) ∧ Aside0 (w'.heap[gb133]? = some (.cells #[(.slice A0_0 l0_0.length c0_0), (.slice A0_1 l0_1.length c0_1), (.slice A0_2 l0_2.length c0_2)] 26 (0, 0))) ∧ Aside0 (Below w.heap.size w w'))
           case atStart => exact ⟨(0), (by first | rfl | (simp; done) | (simp [*]; done)), H', ⟨Nat.le_refl _⟩, ⟨by (with_reducible repeat (first | apply Kd.R_alloc | apply Kd.R_drewN | apply Kd.R_drew)); exact HO_3.out⟩, ⟨by (with_reducible repeat (first | refine blk_drewN ?_ _ | refine blk_drew ?_ | refine blk_alloc ?_ _)); exact BK133.out⟩, ⟨by repeat (first | (with_reducible first | exact HB.out | apply below_alloc | apply pw_below_drewN | apply below_drew1 | refine below_set ?_ GE133.out) | exact HB.out)⟩⟩
           case round =>
            clear H'
            try clear c1
            try clear c2
            try clear p2
            try clear c3
            try clear c4
            try clear c7
            try clear c15
            try clear c15b0
            try clear c20
            try clear c20b0
            try clear c23
            try clear c24
            try clear c24b0
            try clear c24b1
            try clear c26
            try clear c26b0
            try clear c26b1
            try clear c28
            try clear c28b0
            try clear c28b1
            try clear c29
            try clear hcz13_0
            try clear hcz13_1
            try clear hcz13_2
            try clear hcz5_0
            try clear hcz5_1
            try clear hcz5_2
            try clear hcz9_0
            try clear hcz9_1
            try clear hcz9_2
            try clear hfz13_0
            try clear hfz13_1
            try clear hfz13_2
            try clear hfz5_0
            try clear hfz5_1
            try clear hfz5_2
            try clear hfz9_0
            try clear hfz9_1
            try clear hfz9_2
            try clear p2
            obtain ⟨x11_4, rfl, HA, HK4, HO_3, BK133, HB⟩ := hrel
            cases gk with
            | zero => exact absurd HA.out (by simp [cellarlaw1_WordExact.l1])
            | succ k4 =>
             have H := HA.out
             clear HA
             simp only [cellarlaw1_WordExact.l1] at H
             have HC30 := Aside0.mk H
             clear H
             go_upto_region 15 with (fail)
             go_cut [84] (fun v84 wc => ∃ (kq : Nat) (x84_29 : Bool), v84 = .bool x84_29 ∧ Aside0 (cellarlaw1_WordExact.j4 kq y138 x4_1 x11_4 x84_29 l0_0 l0_1 l0_2 = some r) ∧ Aside0 (kq ≤ k4) ∧ Aside0 (Kd.R k34 34 wc w.heap.size (fun _ => True) v139 y138) ∧ Aside0 (wc.heap[gb133]? = some (.cells #[(.slice A0_0 l0_0.length c0_0), (.slice A0_1 l0_1.length c0_1), (.slice A0_2 l0_2.length c0_2)] 26 (0, 0))) ∧ Aside0 (Below w.heap.size w wc))
             case first =>
              have H := HC30.out
              clear HC30
              by_cases c31 : x11_4 < (y138.length : Int)
              ·rw [if_pos c31] at H
               have c31b0 : decide (x11_4 < (y138.length : Int)) = true := decide_eq_true c31
               clear c31
               (first | rw [c31b0] | (simp only [i64_w, i32_w]; rw [c31b0]) | skip)
               have H' := Aside0.mk H
               clear H
               obtain ⟨Ao32, co32, eo32⟩ := Kd.R_slice HO_3.out
               subst eo32
               go_wp2
               go_meet
               case rel => exact ⟨_, (decide (x11_4 < 8)), (by first | rfl | (simp; done) | (simp [*]; done)), H', ⟨by have := HK1.out; have := HJ18.out; have := HJ21.out; have := HK4.out; first | omega | exact Nat.le_refl _⟩, ⟨by (with_reducible repeat (first | apply Kd.R_alloc | apply Kd.R_drewN | apply Kd.R_drew)); exact HO_3.out⟩, ⟨by (with_reducible repeat (first | refine blk_drewN ?_ _ | refine blk_drew ?_ | refine blk_alloc ?_ _)); exact BK133.out⟩, ⟨by repeat (first | (with_reducible first | exact HB.out | apply below_alloc | apply pw_below_drewN | apply below_drew1 | refine below_set ?_ GE133.out) | exact HB.out)⟩⟩
              ·rw [if_neg c31] at H
               have c31b0 : decide (x11_4 < (y138.length : Int)) = false := decide_eq_false c31
               clear c31
               (first | rw [c31b0] | (simp only [i64_w, i32_w]; rw [c31b0]) | skip)
               have H' := Aside0.mk H
               clear H
               obtain ⟨Ao33, co33, eo33⟩ := Kd.R_slice HO_3.out
               subst eo33
               go_wp2
               go_meet
               case rel => exact ⟨_, (false), (by first | rfl | (simp; done) | (simp [*]; done)), H', ⟨by have := HK1.out; have := HJ18.out; have := HJ21.out; have := HK4.out; first | omega | exact Nat.le_refl _⟩, ⟨by (with_reducible repeat (first | apply Kd.R_alloc | apply Kd.R_drewN | apply Kd.R_drew)); exact HO_3.out⟩, ⟨by (with_reducible repeat (first | refine blk_drewN ?_ _ | refine blk_drew ?_ | refine blk_alloc ?_ _)); exact BK133.out⟩, ⟨by repeat (first | (with_reducible first | exact HB.out | apply below_alloc | apply pw_below_drewN | apply below_drew1 | refine below_set ?_ GE133.out) | exact HB.out)⟩⟩
             case rest =>
              clear HC30
              try clear c1
              try clear c2
              try clear p2
              try clear c3
              try clear c4
              try clear c7
              try clear c15
              try clear c15b0
              try clear c20
              try clear c20b0
              try clear c23
              try clear c24
              try clear c24b0
              try clear c24b1
              try clear c26
              try clear c26b0
              try clear c26b1
              try clear c28
              try clear c28b0
              try clear c28b1
              try clear c29
              try clear c30
              try clear c31
              try clear c31b0
              try clear hcz13_0
              try clear hcz13_1
              try clear hcz13_2
              try clear hcz5_0
              try clear hcz5_1
              try clear hcz5_2
              try clear hcz9_0
              try clear hcz9_1
              try clear hcz9_2
              try clear hfz13_0
              try clear hfz13_1
              try clear hfz13_2
              try clear hfz5_0
              try clear hfz5_1
              try clear hfz5_2
              try clear hfz9_0
              try clear hfz9_1
              try clear hfz9_2
              try clear p2
              obtain ⟨kq, x84_29, rfl, HA, HJ29, HO_3, BK133, HB⟩ := hcut
              cases kq with
              | zero => exact absurd HA.out (by simp [cellarlaw1_WordExact.j4])
              | succ kj29 =>
               have H := HA.out
               clear HA
               simp only [cellarlaw1_WordExact.j4] at H
               by_cases c34 : x84_29 = true
               ·subst c34
                have H1 : (if 0 ≤ x11_4 then (if x11_4 < (y138.length : Int) then ((word_Size.f ((rd_T34 y138 x11_4).f0) ((rd_T34 y138 x11_4).f1) x4_1).bind fun bt151 => ((cellarref1_Abi.f ((rd_T34 y138 x11_4).f0) ((rd_T34 y138 x11_4).f1)).bind fun t154 => (if t154 = true then ((cellarref1_Kind.f x4_1).bind fun t155 => (cellarlaw1_WordExact.j5 kj29 y138 x4_1 x11_4 bt151.1 bt151.2 1 0 t155 l0_0 l0_1 l0_2)) else (cellarlaw1_WordExact.j5 kj29 y138 x4_1 x11_4 bt151.1 bt151.2 1 0 false l0_0 l0_1 l0_2)))) else (none)) else (none)) = some r := by rw [if_pos rfl] at H; exact H
                clear H
                have H := H1
                clear H1
                by_cases c35 : 0 ≤ x11_4
                ·rw [if_pos c35] at H
                 have c35b0 : decide (0 ≤ x11_4) = true := decide_eq_true c35
                 clear c35
                 by_cases c36 : x11_4 < (y138.length : Int)
                 ·rw [if_pos c36] at H
                  have c36b0 : decide (x11_4 < (y138.length : Int)) = true := decide_eq_true c36
                  clear c36
                  replace H := Option.bind_eq_some_iff.mp H
                  obtain ⟨⟨t151, t152⟩, A370, H⟩ := H
                  replace H : ((cellarref1_Abi.f ((rd_T34 y138 x11_4).f0) ((rd_T34 y138 x11_4).f1)).bind fun t154 => (if t154 = true then ((cellarref1_Kind.f x4_1).bind fun t155 => (cellarlaw1_WordExact.j5 kj29 y138 x4_1 x11_4 t151 t152 1 0 t155 l0_0 l0_1 l0_2)) else (cellarlaw1_WordExact.j5 kj29 y138 x4_1 x11_4 t151 t152 1 0 false l0_0 l0_1 l0_2))) = some r := H
                  have A37 := Aside0.mk A370
                  clear A370
                  have HC38 := Aside0.mk H
                  clear H
                  obtain ⟨Ao39, co39, eo39⟩ := Kd.R_slice HO_3.out
                  subst eo39
                  have p150 : 0 ≤ (x11_4 : Int) := of_decide_eq_true (by first | (with_reducible assumption) | assumption)
                  have q150 : x11_4 < (y138.length : Int) := of_decide_eq_true (by first | (with_reducible assumption) | assumption)
                  obtain ⟨ad150, e150, hx150_0, hx150_1⟩ := at_T34 (Kd.R_reads' HO_3.out).2.2 x11_4 p150 q150
                  cases e150
                  replace p150 := eq_true p150
                  replace q150 := eq_true q150
                  go_upto_region 19 with (first | ((with_reducible refine gate_callee (f := 32) rfl ?_); refine goesL_ (some 93) rfl rfl Try.func32 (by kernel_rfl) rfl #[.agg #[.bool ((rd_T34 y138 x11_4).f0), .int .i64 ((rd_T34 y138 x11_4).f1)], .int .i64 x4_1] rfl (by (try simp only [List.map_toArray, List.map_cons, List.map_nil]); first | done | rfl | (simp only [List.length_drop, List.length_take]; rfl)) ?_; (with_reducible refine (word_Size.calls ((rd_T34 y138 x11_4).f0) ((rd_T34 y138 x11_4).f1) x4_1 t151 t152 _ A37.out).mono ?_); rintro e w40 ⟨rfl, hb⟩; refine ⟨_, rfl, ?_⟩; have n0_ := Aside0.mk (Kd.R_below (by (with_reducible repeat (first | apply Kd.R_alloc | apply Kd.R_drewN | apply Kd.R_drew)); exact HO_3.out) hb); have n1_ := Aside0.mk (blk_below (g := gb133) (o := .cells #[.slice A0_0 l0_0.length c0_0, .slice A0_1 l0_1.length c0_1, .slice A0_2 l0_2.length c0_2] 26 (0, 0)) (by (with_reducible repeat (first | refine blk_drewN ?_ _ | refine blk_drew ?_ | refine blk_alloc ?_ _)); exact BK133.out) hb); have n2_ := Aside0.mk (below_step (by repeat (first | (with_reducible first | exact HB.out | apply below_alloc | apply pw_below_drewN | apply below_drew1 | refine below_set ?_ GE133.out) | exact HB.out)) hb); clear HO_3; clear BK133; clear HB; have HO_3 := n0_; have BK133 := n1_; have HB := n2_; clear n0_ n1_ n2_; (try clear hb); (try clear hb2); (try clear hk); (try clear hi)))
                  (try simp only [Act.put, List.setIfInBounds_toArray, List.set_cons_zero, List.set_cons_succ])
                  go_cut [104] (fun v104 wc => ∃ (kq : Nat) (x104_37 : Bool), v104 = .bool x104_37 ∧ Aside0 (cellarlaw1_WordExact.j5 kq y138 x4_1 x11_4 t151 t152 1 0 x104_37 l0_0 l0_1 l0_2 = some r) ∧ Aside0 (kq ≤ kj29) ∧ Aside0 (Kd.R k34 34 wc w.heap.size (fun _ => True) (.slice (some ad150) y138.length co39) y138) ∧ Aside0 (wc.heap[gb133]? = some (.cells #[(.slice A0_0 l0_0.length c0_0), (.slice A0_1 l0_1.length c0_1), (.slice A0_2 l0_2.length c0_2)] 26 (0, 0))) ∧ Aside0 (Below w.heap.size w wc))
                  case first =>
                   have H := HC38.out
                   clear HC38
                   replace H := Option.bind_eq_some_iff.mp H
                   obtain ⟨t154, A410, H⟩ := H
                   replace H : (if t154 = true then ((cellarref1_Kind.f x4_1).bind fun t155 => (cellarlaw1_WordExact.j5 kj29 y138 x4_1 x11_4 t151 t152 1 0 t155 l0_0 l0_1 l0_2)) else (cellarlaw1_WordExact.j5 kj29 y138 x4_1 x11_4 t151 t152 1 0 false l0_0 l0_1 l0_2)) = some r := H
                   have A41 := Aside0.mk A410
                   clear A410
                   by_cases c42 : t154 = true
                   ·subst c42
                    have H1 : ((cellarref1_Kind.f x4_1).bind fun t155 => (cellarlaw1_WordExact.j5 kj29 y138 x4_1 x11_4 t151 t152 1 0 t155 l0_0 l0_1 l0_2)) = some r := by rw [if_pos rfl] at H; exact H
                    clear H
                    have H := H1
                    clear H1
                    replace H := Option.bind_eq_some_iff.mp H
                    obtain ⟨t155, A430, H⟩ := H
                    replace H : (cellarlaw1_WordExact.j5 kj29 y138 x4_1 x11_4 t151 t152 1 0 t155 l0_0 l0_1 l0_2) = some r := H
                    have A43 := Aside0.mk A430
                    clear A430
                    have H' := Aside0.mk H
                    clear H
                    have p153 : 0 ≤ (x11_4 : Int) := of_decide_eq_true (by first | (with_reducible assumption) | assumption)
                    have q153 : x11_4 < (y138.length : Int) := of_decide_eq_true (by first | (with_reducible assumption) | assumption)
                    obtain ⟨ad153, e153, hx153_0, hx153_1⟩ := at_T34 (Kd.R_reads' HO_3.out).2.2 x11_4 p153 q153
                    obtain rfl : ad150 = ad153 := (by injection e153)
                    replace p153 := eq_true p153
                    replace q153 := eq_true q153
                    go_wp2_with (first | ((with_reducible refine gate_callee (f := 33) rfl ?_); refine goesL_ (some 100) rfl rfl Try.func33 (by kernel_rfl) rfl #[.agg #[.bool ((rd_T34 y138 x11_4).f0), .int .i64 ((rd_T34 y138 x11_4).f1)]] rfl (by (try simp only [List.map_toArray, List.map_cons, List.map_nil]); first | done | rfl | (simp only [List.length_drop, List.length_take]; rfl)) ?_; (with_reducible refine (cellarref1_Abi.calls ((rd_T34 y138 x11_4).f0) ((rd_T34 y138 x11_4).f1) true _ A41.out).mono ?_); rintro e w44 ⟨rfl, hb⟩; refine ⟨_, rfl, ?_⟩; have n0_ := Aside0.mk (Kd.R_below (by (with_reducible repeat (first | apply Kd.R_alloc | apply Kd.R_drewN | apply Kd.R_drew)); exact HO_3.out) hb); have n1_ := Aside0.mk (blk_below (g := gb133) (o := .cells #[.slice A0_0 l0_0.length c0_0, .slice A0_1 l0_1.length c0_1, .slice A0_2 l0_2.length c0_2] 26 (0, 0)) (by (with_reducible repeat (first | refine blk_drewN ?_ _ | refine blk_drew ?_ | refine blk_alloc ?_ _)); exact BK133.out) hb); have n2_ := Aside0.mk (below_step (by repeat (first | (with_reducible first | exact HB.out | apply below_alloc | apply pw_below_drewN | apply below_drew1 | refine below_set ?_ GE133.out) | exact HB.out)) hb); clear HO_3; clear BK133; clear HB; have HO_3 := n0_; have BK133 := n1_; have HB := n2_; clear n0_ n1_ n2_; (try clear hb); (try clear hb2); (try clear hk); (try clear hi)) | (go_at_call 34; (with_reducible refine (cellarref1_Kind.calls x4_1 t155 _ A43.out).mono ?_); rintro e w' ⟨rfl, ⟨nd, rfl⟩⟩))
                    go_meet
                    case rel => exact ⟨_, (t155), (by first | rfl | (simp; done) | (simp [*]; done)), H', ⟨by have := HK1.out; have := HJ18.out; have := HJ21.out; have := HK4.out; have := HJ29.out; first | omega | exact Nat.le_refl _⟩, ⟨by (with_reducible repeat (first | apply Kd.R_alloc | apply Kd.R_drewN | apply Kd.R_drew)); exact HO_3.out⟩, ⟨by (with_reducible repeat (first | refine blk_drewN ?_ _ | refine blk_drew ?_ | refine blk_alloc ?_ _)); exact BK133.out⟩, ⟨by repeat (first | (with_reducible first | exact HB.out | apply below_alloc | apply pw_below_drewN | apply below_drew1 | refine below_set ?_ GE133.out) | exact HB.out)⟩⟩
                   ·replace c42 := Bool.eq_false_iff.mpr c42
                    subst c42
                    have H1 : (cellarlaw1_WordExact.j5 kj29 y138 x4_1 x11_4 t151 t152 1 0 false l0_0 l0_1 l0_2) = some r := by rw [if_neg (show ¬ (false = true) by decide)] at H; exact H
                    clear H
                    have H := H1
                    clear H1
                    have H' := Aside0.mk H
                    clear H
                    have p153 : 0 ≤ (x11_4 : Int) := of_decide_eq_true (by first | (with_reducible assumption) | assumption)
                    have q153 : x11_4 < (y138.length : Int) := of_decide_eq_true (by first | (with_reducible assumption) | assumption)
                    obtain ⟨ad153, e153, hx153_0, hx153_1⟩ := at_T34 (Kd.R_reads' HO_3.out).2.2 x11_4 p153 q153
                    obtain rfl : ad150 = ad153 := (by injection e153)
                    replace p153 := eq_true p153
                    replace q153 := eq_true q153
                    go_wp2_with (first | ((with_reducible refine gate_callee (f := 33) rfl ?_); refine goesL_ (some 100) rfl rfl Try.func33 (by kernel_rfl) rfl #[.agg #[.bool ((rd_T34 y138 x11_4).f0), .int .i64 ((rd_T34 y138 x11_4).f1)]] rfl (by (try simp only [List.map_toArray, List.map_cons, List.map_nil]); first | done | rfl | (simp only [List.length_drop, List.length_take]; rfl)) ?_; (with_reducible refine (cellarref1_Abi.calls ((rd_T34 y138 x11_4).f0) ((rd_T34 y138 x11_4).f1) false _ A41.out).mono ?_); rintro e w45 ⟨rfl, hb⟩; refine ⟨_, rfl, ?_⟩; have n0_ := Aside0.mk (Kd.R_below (by (with_reducible repeat (first | apply Kd.R_alloc | apply Kd.R_drewN | apply Kd.R_drew)); exact HO_3.out) hb); have n1_ := Aside0.mk (blk_below (g := gb133) (o := .cells #[.slice A0_0 l0_0.length c0_0, .slice A0_1 l0_1.length c0_1, .slice A0_2 l0_2.length c0_2] 26 (0, 0)) (by (with_reducible repeat (first | refine blk_drewN ?_ _ | refine blk_drew ?_ | refine blk_alloc ?_ _)); exact BK133.out) hb); have n2_ := Aside0.mk (below_step (by repeat (first | (with_reducible first | exact HB.out | apply below_alloc | apply pw_below_drewN | apply below_drew1 | refine below_set ?_ GE133.out) | exact HB.out)) hb); clear HO_3; clear BK133; clear HB; have HO_3 := n0_; have BK133 := n1_; have HB := n2_; clear n0_ n1_ n2_; (try clear hb); (try clear hb2); (try clear hk); (try clear hi)))
                    go_meet
                    case rel => exact ⟨_, (false), (by first | rfl | (simp; done) | (simp [*]; done)), H', ⟨by have := HK1.out; have := HJ18.out; have := HJ21.out; have := HK4.out; have := HJ29.out; first | omega | exact Nat.le_refl _⟩, ⟨by (with_reducible repeat (first | apply Kd.R_alloc | apply Kd.R_drewN | apply Kd.R_drew)); exact HO_3.out⟩, ⟨by (with_reducible repeat (first | refine blk_drewN ?_ _ | refine blk_drew ?_ | refine blk_alloc ?_ _)); exact BK133.out⟩, ⟨by repeat (first | (with_reducible first | exact HB.out | apply below_alloc | apply pw_below_drewN | apply below_drew1 | refine below_set ?_ GE133.out) | exact HB.out)⟩⟩
                  case rest =>
                   clear HC38
                   try clear c1
                   try clear p1
                   try clear q1
                   try clear hx1
                   try clear c2
                   try clear p2
                   try clear c3
                   try clear c4
                   try clear c7
                   try clear c15
                   try clear c15b0
                   try clear p15
                   try clear q15
                   try clear hx15
                   try clear c20
                   try clear c20b0
                   try clear c23
                   try clear c24
                   try clear c24b0
                   try clear c24b1
                   try clear c26
                   try clear c26b0
                   try clear c26b1
                   try clear c28
                   try clear c28b0
                   try clear c28b1
                   try clear c29
                   try clear c30
                   try clear c31
                   try clear c31b0
                   try clear c32
                   try clear c33
                   try clear c34
                   try clear c35
                   try clear c35b0
                   try clear c36
                   try clear c36b0
                   try clear c42
                   try clear hcz13_0
                   try clear hcz13_1
                   try clear hcz13_2
                   try clear hcz5_0
                   try clear hcz5_1
                   try clear hcz5_2
                   try clear hcz9_0
                   try clear hcz9_1
                   try clear hcz9_2
                   try clear hfz13_0
                   try clear hfz13_1
                   try clear hfz13_2
                   try clear hfz5_0
                   try clear hfz5_1
                   try clear hfz5_2
                   try clear hfz9_0
                   try clear hfz9_1
                   try clear hfz9_2
                   try clear hx150_0
                   try clear hx150_1
                   try clear hx153_0
                   try clear hx153_1
                   try clear p150
                   try clear p153
                   try clear p2
                   try clear q150
                   try clear q153
                   obtain ⟨kq, x104_37, rfl, HA, HJ37, HO_3, BK133, HB⟩ := hcut
                   cases kq with
                   | zero => exact absurd HA.out (by simp [cellarlaw1_WordExact.j5])
                   | succ kj37 =>
                    have H := HA.out
                    clear HA
                    simp only [cellarlaw1_WordExact.j5] at H
                    by_cases c46 : x104_37 = true
                    ·subst c46
                     have H1 : (if 0 ≤ x11_4 then (if x11_4 < (y138.length : Int) then ((cellarref1_Size.f kj37 ((rd_T34 y138 x11_4).f0) ((rd_T34 y138 x11_4).f1) x4_1).bind fun t157 => ((cellarlaw1_num.f t152).bind fun t158 => (if t158 = 0 then (if t151 = t157 then (cellarlaw1_WordExact.l1 kj37 y138 x4_1 (wrap64 (x11_4 + 1)) l0_0 l0_1 l0_2) else (some false)) else (some false)))) else (none)) else (none)) = some r := by rw [if_pos rfl] at H; exact H
                     clear H
                     have H := H1
                     clear H1
                     by_cases c47 : 0 ≤ x11_4
                     ·rw [if_pos c47] at H
                      have c47b0 : decide (0 ≤ x11_4) = true := decide_eq_true c47
                      clear c47
                      by_cases c48 : x11_4 < (y138.length : Int)
                      ·rw [if_pos c48] at H
                       have c48b0 : decide (x11_4 < (y138.length : Int)) = true := decide_eq_true c48
                       clear c48
                       replace H := Option.bind_eq_some_iff.mp H
                       obtain ⟨t157, A490, H⟩ := H
                       replace H : ((cellarlaw1_num.f t152).bind fun t158 => (if t158 = 0 then (if t151 = t157 then (cellarlaw1_WordExact.l1 kj37 y138 x4_1 (wrap64 (x11_4 + 1)) l0_0 l0_1 l0_2) else (some false)) else (some false))) = some r := H
                       have A49 := Aside0.mk A490
                       clear A490
                       replace H := Option.bind_eq_some_iff.mp H
                       obtain ⟨t158, A500, H⟩ := H
                       replace H : (if t158 = 0 then (if t151 = t157 then (cellarlaw1_WordExact.l1 kj37 y138 x4_1 (wrap64 (x11_4 + 1)) l0_0 l0_1 l0_2) else (some false)) else (some false)) = some r := H
                       have A50 := Aside0.mk A500
                       clear A500
                       by_cases c51 : t158 = 0
                       ·rw [if_pos c51] at H
                        have c51b0 : (t158 == 0) = true := beq_iff_eq.mpr c51
                        have c51b1 : (t158 != 0) = false := bne_eq_false_iff_eq.mpr c51
                        clear c51
                        by_cases c52 : t151 = t157
                        ·rw [if_pos c52] at H
                         have c52b0 : (t151 == t157) = true := beq_iff_eq.mpr c52
                         have c52b1 : (t151 != t157) = false := bne_eq_false_iff_eq.mpr c52
                         clear c52
                         have H' := Aside0.mk H
                         clear H
                         have p156 : 0 ≤ (x11_4 : Int) := of_decide_eq_true (by first | (with_reducible assumption) | assumption)
                         have q156 : x11_4 < (y138.length : Int) := of_decide_eq_true (by first | (with_reducible assumption) | assumption)
                         obtain ⟨ad156, e156, hx156_0, hx156_1⟩ := at_T34 (Kd.R_reads' HO_3.out).2.2 x11_4 p156 q156
                         obtain rfl : ad150 = ad156 := (by injection e156)
                         replace p156 := eq_true p156
                         replace q156 := eq_true q156
                         go_wp2_with (first | ((with_reducible refine gate_callee (f := 35) rfl ?_); refine goesL_ (some 110) rfl rfl Try.func35 (by kernel_rfl) rfl #[.agg #[.bool ((rd_T34 y138 x11_4).f0), .int .i64 ((rd_T34 y138 x11_4).f1)], .int .i64 x4_1] rfl (by (try simp only [List.map_toArray, List.map_cons, List.map_nil]); first | done | rfl | (simp only [List.length_drop, List.length_take]; rfl)) ?_; (with_reducible refine (cellarref1_Size.calls kj37 ((rd_T34 y138 x11_4).f0) ((rd_T34 y138 x11_4).f1) x4_1 t157 _ A49.out).mono ?_); rintro e w53 ⟨rfl, hb⟩; refine ⟨_, rfl, ?_⟩; have n0_ := Aside0.mk (Kd.R_below (by (with_reducible repeat (first | apply Kd.R_alloc | apply Kd.R_drewN | apply Kd.R_drew)); exact HO_3.out) hb); have n1_ := Aside0.mk (blk_below (g := gb133) (o := .cells #[.slice A0_0 l0_0.length c0_0, .slice A0_1 l0_1.length c0_1, .slice A0_2 l0_2.length c0_2] 26 (0, 0)) (by (with_reducible repeat (first | refine blk_drewN ?_ _ | refine blk_drew ?_ | refine blk_alloc ?_ _)); exact BK133.out) hb); have n2_ := Aside0.mk (below_step (by repeat (first | (with_reducible first | exact HB.out | apply below_alloc | apply pw_below_drewN | apply below_drew1 | refine below_set ?_ GE133.out) | exact HB.out)) hb); clear HO_3; clear BK133; clear HB; have HO_3 := n0_; have BK133 := n1_; have HB := n2_; clear n0_ n1_ n2_; (try clear hb); (try clear hb2); (try clear hk); (try clear hi)) | ((with_reducible refine gate_callee (f := 26) rfl ?_); refine goesL_ (some 112) rfl rfl Try.func26 (by kernel_rfl) rfl #[.int .i64 t152] rfl (by (try simp only [List.map_toArray, List.map_cons, List.map_nil]); first | done | rfl | (simp only [List.length_drop, List.length_take]; rfl)) ?_; (with_reducible refine (cellarlaw1_num.calls t152 t158 _ A50.out).mono ?_); rintro e w' ⟨rfl, ⟨nd, rfl⟩⟩; refine ⟨_, rfl, ?_⟩))
                         go_roundg kj37
                         case measure => have := HK1.out; have := HJ18.out; have := HJ21.out; have := HK4.out; have := HJ29.out; have := HJ37.out; omega
                         case rel => exact ⟨(wrap64 (x11_4 + 1)), (by first | rfl | (simp; done) | (simp [*]; done)), H', ⟨by have := HK1.out; have := HJ18.out; have := HJ21.out; have := HK4.out; have := HJ29.out; have := HJ37.out; omega⟩, ⟨by (with_reducible repeat (first | apply Kd.R_alloc | apply Kd.R_drewN | apply Kd.R_drew)); exact HO_3.out⟩, ⟨by (with_reducible repeat (first | refine blk_drewN ?_ _ | refine blk_drew ?_ | refine blk_alloc ?_ _)); exact BK133.out⟩, ⟨by repeat (first | (with_reducible first | exact HB.out | apply below_alloc | apply pw_below_drewN | apply below_drew1 | refine below_set ?_ GE133.out) | exact HB.out)⟩⟩
                        ·rw [if_neg c52] at H
                         have c52b0 : (t151 == t157) = false := beq_eq_false_iff_ne.mpr c52
                         have c52b1 : (t151 != t157) = true := bne_iff_ne.mpr c52
                         obtain rfl := Option.some.inj H
                         have p156 : 0 ≤ (x11_4 : Int) := of_decide_eq_true (by first | (with_reducible assumption) | assumption)
                         have q156 : x11_4 < (y138.length : Int) := of_decide_eq_true (by first | (with_reducible assumption) | assumption)
                         obtain ⟨ad156, e156, hx156_0, hx156_1⟩ := at_T34 (Kd.R_reads' HO_3.out).2.2 x11_4 p156 q156
                         obtain rfl : ad150 = ad156 := (by injection e156)
                         replace p156 := eq_true p156
                         replace q156 := eq_true q156
                         go_wp2_with (first | ((with_reducible refine gate_callee (f := 35) rfl ?_); refine goesL_ (some 110) rfl rfl Try.func35 (by kernel_rfl) rfl #[.agg #[.bool ((rd_T34 y138 x11_4).f0), .int .i64 ((rd_T34 y138 x11_4).f1)], .int .i64 x4_1] rfl (by (try simp only [List.map_toArray, List.map_cons, List.map_nil]); first | done | rfl | (simp only [List.length_drop, List.length_take]; rfl)) ?_; (with_reducible refine (cellarref1_Size.calls kj37 ((rd_T34 y138 x11_4).f0) ((rd_T34 y138 x11_4).f1) x4_1 t157 _ A49.out).mono ?_); rintro e w54 ⟨rfl, hb⟩; refine ⟨_, rfl, ?_⟩; have n0_ := Aside0.mk (Kd.R_below (by (with_reducible repeat (first | apply Kd.R_alloc | apply Kd.R_drewN | apply Kd.R_drew)); exact HO_3.out) hb); have n1_ := Aside0.mk (blk_below (g := gb133) (o := .cells #[.slice A0_0 l0_0.length c0_0, .slice A0_1 l0_1.length c0_1, .slice A0_2 l0_2.length c0_2] 26 (0, 0)) (by (with_reducible repeat (first | refine blk_drewN ?_ _ | refine blk_drew ?_ | refine blk_alloc ?_ _)); exact BK133.out) hb); have n2_ := Aside0.mk (below_step (by repeat (first | (with_reducible first | exact HB.out | apply below_alloc | apply pw_below_drewN | apply below_drew1 | refine below_set ?_ GE133.out) | exact HB.out)) hb); clear HO_3; clear BK133; clear HB; have HO_3 := n0_; have BK133 := n1_; have HB := n2_; clear n0_ n1_ n2_; (try clear hb); (try clear hb2); (try clear hk); (try clear hi)) | ((with_reducible refine gate_callee (f := 26) rfl ?_); refine goesL_ (some 112) rfl rfl Try.func26 (by kernel_rfl) rfl #[.int .i64 t152] rfl (by (try simp only [List.map_toArray, List.map_cons, List.map_nil]); first | done | rfl | (simp only [List.length_drop, List.length_take]; rfl)) ?_; (with_reducible refine (cellarlaw1_num.calls t152 t158 _ A50.out).mono ?_); rintro e w' ⟨rfl, ⟨nd, rfl⟩⟩; refine ⟨_, rfl, ?_⟩))
                         go_ret
                         exact ⟨by first | rfl | (simp [errW_none, errW_some] <;> rfl) | (simp [*, errW_none, errW_some] <;> rfl), by repeat (first | (with_reducible first | exact HB.out | apply below_alloc | apply pw_below_drewN | apply below_drew1 | refine below_set ?_ GE133.out) | exact HB.out)⟩
                       ·rw [if_neg c51] at H
                        have c51b0 : (t158 == 0) = false := beq_eq_false_iff_ne.mpr c51
                        have c51b1 : (t158 != 0) = true := bne_iff_ne.mpr c51
                        obtain rfl := Option.some.inj H
                        have p156 : 0 ≤ (x11_4 : Int) := of_decide_eq_true (by first | (with_reducible assumption) | assumption)
                        have q156 : x11_4 < (y138.length : Int) := of_decide_eq_true (by first | (with_reducible assumption) | assumption)
                        obtain ⟨ad156, e156, hx156_0, hx156_1⟩ := at_T34 (Kd.R_reads' HO_3.out).2.2 x11_4 p156 q156
                        obtain rfl : ad150 = ad156 := (by injection e156)
                        replace p156 := eq_true p156
                        replace q156 := eq_true q156
                        go_wp2_with (first | ((with_reducible refine gate_callee (f := 35) rfl ?_); refine goesL_ (some 110) rfl rfl Try.func35 (by kernel_rfl) rfl #[.agg #[.bool ((rd_T34 y138 x11_4).f0), .int .i64 ((rd_T34 y138 x11_4).f1)], .int .i64 x4_1] rfl (by (try simp only [List.map_toArray, List.map_cons, List.map_nil]); first | done | rfl | (simp only [List.length_drop, List.length_take]; rfl)) ?_; (with_reducible refine (cellarref1_Size.calls kj37 ((rd_T34 y138 x11_4).f0) ((rd_T34 y138 x11_4).f1) x4_1 t157 _ A49.out).mono ?_); rintro e w55 ⟨rfl, hb⟩; refine ⟨_, rfl, ?_⟩; have n0_ := Aside0.mk (Kd.R_below (by (with_reducible repeat (first | apply Kd.R_alloc | apply Kd.R_drewN | apply Kd.R_drew)); exact HO_3.out) hb); have n1_ := Aside0.mk (blk_below (g := gb133) (o := .cells #[.slice A0_0 l0_0.length c0_0, .slice A0_1 l0_1.length c0_1, .slice A0_2 l0_2.length c0_2] 26 (0, 0)) (by (with_reducible repeat (first | refine blk_drewN ?_ _ | refine blk_drew ?_ | refine blk_alloc ?_ _)); exact BK133.out) hb); have n2_ := Aside0.mk (below_step (by repeat (first | (with_reducible first | exact HB.out | apply below_alloc | apply pw_below_drewN | apply below_drew1 | refine below_set ?_ GE133.out) | exact HB.out)) hb); clear HO_3; clear BK133; clear HB; have HO_3 := n0_; have BK133 := n1_; have HB := n2_; clear n0_ n1_ n2_; (try clear hb); (try clear hb2); (try clear hk); (try clear hi)) | ((with_reducible refine gate_callee (f := 26) rfl ?_); refine goesL_ (some 112) rfl rfl Try.func26 (by kernel_rfl) rfl #[.int .i64 t152] rfl (by (try simp only [List.map_toArray, List.map_cons, List.map_nil]); first | done | rfl | (simp only [List.length_drop, List.length_take]; rfl)) ?_; (with_reducible refine (cellarlaw1_num.calls t152 t158 _ A50.out).mono ?_); rintro e w' ⟨rfl, ⟨nd, rfl⟩⟩; refine ⟨_, rfl, ?_⟩))
                        go_ret
                        exact ⟨by first | rfl | (simp [errW_none, errW_some] <;> rfl) | (simp [*, errW_none, errW_some] <;> rfl), by repeat (first | (with_reducible first | exact HB.out | apply below_alloc | apply pw_below_drewN | apply below_drew1 | refine below_set ?_ GE133.out) | exact HB.out)⟩
                      ·rw [if_neg c48] at H
                       exact absurd H (by simp)
                     ·rw [if_neg c47] at H
                      exact absurd H (by simp)
                    ·replace c46 := Bool.eq_false_iff.mpr c46
                     subst c46
                     have H1 : ((cellarlaw1_num.f t152).bind fun t159 => (if t159 = 1 then (if t151 = 0 then (cellarlaw1_WordExact.l1 kj37 y138 x4_1 (wrap64 (x11_4 + 1)) l0_0 l0_1 l0_2) else (some false)) else (some false))) = some r := by rw [if_neg (show ¬ (false = true) by decide)] at H; exact H
                     clear H
                     have H := H1
                     clear H1
                     replace H := Option.bind_eq_some_iff.mp H
                     obtain ⟨t159, A560, H⟩ := H
                     replace H : (if t159 = 1 then (if t151 = 0 then (cellarlaw1_WordExact.l1 kj37 y138 x4_1 (wrap64 (x11_4 + 1)) l0_0 l0_1 l0_2) else (some false)) else (some false)) = some r := H
                     have A56 := Aside0.mk A560
                     clear A560
                     by_cases c57 : t159 = 1
                     ·rw [if_pos c57] at H
                      have c57b0 : (t159 == 1) = true := beq_iff_eq.mpr c57
                      have c57b1 : (t159 != 1) = false := bne_eq_false_iff_eq.mpr c57
                      clear c57
                      by_cases c58 : t151 = 0
                      ·rw [if_pos c58] at H
                       have c58b0 : (t151 == 0) = true := beq_iff_eq.mpr c58
                       have c58b1 : (t151 != 0) = false := bne_eq_false_iff_eq.mpr c58
                       clear c58
                       have H' := Aside0.mk H
                       clear H
                       go_wp2_with (first | ((with_reducible refine gate_callee (f := 26) rfl ?_); refine goesL_ (some 112) rfl rfl Try.func26 (by kernel_rfl) rfl #[.int .i64 t152] rfl (by (try simp only [List.map_toArray, List.map_cons, List.map_nil]); first | done | rfl | (simp only [List.length_drop, List.length_take]; rfl)) ?_; (with_reducible refine (cellarlaw1_num.calls t152 t159 _ A56.out).mono ?_); rintro e w' ⟨rfl, ⟨nd, rfl⟩⟩; refine ⟨_, rfl, ?_⟩))
                       go_roundg kj37
                       case measure => have := HK1.out; have := HJ18.out; have := HJ21.out; have := HK4.out; have := HJ29.out; have := HJ37.out; omega
                       case rel => exact ⟨(wrap64 (x11_4 + 1)), (by first | rfl | (simp; done) | (simp [*]; done)), H', ⟨by have := HK1.out; have := HJ18.out; have := HJ21.out; have := HK4.out; have := HJ29.out; have := HJ37.out; omega⟩, ⟨by (with_reducible repeat (first | apply Kd.R_alloc | apply Kd.R_drewN | apply Kd.R_drew)); exact HO_3.out⟩, ⟨by (with_reducible repeat (first | refine blk_drewN ?_ _ | refine blk_drew ?_ | refine blk_alloc ?_ _)); exact BK133.out⟩, ⟨by repeat (first | (with_reducible first | exact HB.out | apply below_alloc | apply pw_below_drewN | apply below_drew1 | refine below_set ?_ GE133.out) | exact HB.out)⟩⟩
                      ·rw [if_neg c58] at H
                       have c58b0 : (t151 == 0) = false := beq_eq_false_iff_ne.mpr c58
                       have c58b1 : (t151 != 0) = true := bne_iff_ne.mpr c58
                       obtain rfl := Option.some.inj H
                       go_wp2_with (first | ((with_reducible refine gate_callee (f := 26) rfl ?_); refine goesL_ (some 112) rfl rfl Try.func26 (by kernel_rfl) rfl #[.int .i64 t152] rfl (by (try simp only [List.map_toArray, List.map_cons, List.map_nil]); first | done | rfl | (simp only [List.length_drop, List.length_take]; rfl)) ?_; (with_reducible refine (cellarlaw1_num.calls t152 t159 _ A56.out).mono ?_); rintro e w' ⟨rfl, ⟨nd, rfl⟩⟩; refine ⟨_, rfl, ?_⟩))
                       go_ret
                       exact ⟨by first | rfl | (simp [errW_none, errW_some] <;> rfl) | (simp [*, errW_none, errW_some] <;> rfl), by repeat (first | (with_reducible first | exact HB.out | apply below_alloc | apply pw_below_drewN | apply below_drew1 | refine below_set ?_ GE133.out) | exact HB.out)⟩
                     ·rw [if_neg c57] at H
                      have c57b0 : (t159 == 1) = false := beq_eq_false_iff_ne.mpr c57
                      have c57b1 : (t159 != 1) = true := bne_iff_ne.mpr c57
                      obtain rfl := Option.some.inj H
                      go_wp2_with (first | ((with_reducible refine gate_callee (f := 26) rfl ?_); refine goesL_ (some 112) rfl rfl Try.func26 (by kernel_rfl) rfl #[.int .i64 t152] rfl (by (try simp only [List.map_toArray, List.map_cons, List.map_nil]); first | done | rfl | (simp only [List.length_drop, List.length_take]; rfl)) ?_; (with_reducible refine (cellarlaw1_num.calls t152 t159 _ A56.out).mono ?_); rintro e w' ⟨rfl, ⟨nd, rfl⟩⟩; refine ⟨_, rfl, ?_⟩))
                      go_ret
                      exact ⟨by first | rfl | (simp [errW_none, errW_some] <;> rfl) | (simp [*, errW_none, errW_some] <;> rfl), by repeat (first | (with_reducible first | exact HB.out | apply below_alloc | apply pw_below_drewN | apply below_drew1 | refine below_set ?_ GE133.out) | exact HB.out)⟩
                 ·rw [if_neg c36] at H
                  exact absurd H (by simp)
                ·rw [if_neg c35] at H
                 exact absurd H (by simp)
               ·replace c34 := Bool.eq_false_iff.mpr c34
                subst c34
                have H1 : (cellarlaw1_WordExact.l0 kj29 y138 (wrap64 (x4_1 + 1)) l0_0 l0_1 l0_2) = some r := by rw [if_neg (show ¬ (false = true) by decide)] at H; exact H
                clear H
                have H := H1
                clear H1
                have H' := Aside0.mk H
                clear H
                go_wp2
                go_roundg kj29
                case measure => have := HK1.out; have := HJ18.out; have := HJ21.out; have := HK4.out; have := HJ29.out; omega
                case rel => exact ⟨(wrap64 (x4_1 + 1)), (by first | rfl | (simp; done) | (simp [*]; done)), H', ⟨by have := HK1.out; have := HJ18.out; have := HJ21.out; have := HK4.out; have := HJ29.out; omega⟩, ⟨by (with_reducible repeat (first | apply Kd.R_alloc | apply Kd.R_drewN | apply Kd.R_drew)); exact HO_3.out⟩, ⟨by (with_reducible repeat (first | refine blk_drewN ?_ _ | refine blk_drew ?_ | refine blk_alloc ?_ _)); exact BK133.out⟩, ⟨by repeat (first | (with_reducible first | exact HB.out | apply below_alloc | apply pw_below_drewN | apply below_drew1 | refine below_set ?_ GE133.out) | exact HB.out)⟩⟩
     ·rw [if_neg c15] at H
      have c15b0 : decide (x4_1 ≤ 11) = false := decide_eq_false c15
      clear c15
      obtain ⟨y160, hy160⟩ : ∃ y_ : List Int, y_ = (([0, 127, 128, 255, 256, (-1), 65535, 2147483648, 4294967295, 4294967296, (-9223372036854775808)] : List Int)) := ⟨_, rfl⟩
      replace H : (if y160.length + l0_0.length < 17592186044416 then (cellarlaw1_WordExact.l2 k1 (y160 ++ l0_0) 0) else (none)) = some r := by first | (rw [hy160]; with_reducible exact H) | (have H2_ := (Option.bind_some _ _).symm.trans H; rw [hy160]; with_reducible exact H2_) | (have H2_ := (Option.bind_some _ _).symm.trans H; with_reducible exact H2_) | with_reducible exact H | (rw [hy160]; exact H) | exact H
      have Ny160 := Aside0.mk hy160
      clear hy160
      by_cases c59 : y160.length + l0_0.length < 17592186044416
      ·rw [if_pos c59] at H
       have LMc59 := Aside0.mk c59
       clear c59
       obtain ⟨y163, hy163⟩ : ∃ y_ : List Int, y_ = (y160 ++ l0_0) := ⟨_, rfl⟩
       replace H : (cellarlaw1_WordExact.l2 k1 y163 0) = some r := by first | (rw [hy163]; with_reducible exact H) | (have H2_ := (Option.bind_some _ _).symm.trans H; rw [hy163]; with_reducible exact H2_) | (have H2_ := (Option.bind_some _ _).symm.trans H; with_reducible exact H2_) | with_reducible exact H | (rw [hy163]; exact H) | exact H
       have Ny163 := Aside0.mk hy163
       clear hy163
       have H' := Aside0.mk H
       clear H
       go_wp2_with (first | ((with_reducible refine gate_dst (N := 120) rfl ?_); refine Kd.R_lit (Kd.int .i64) _ 3 ?hg (N := 120) ?hd (xs := ([0, 127, 128, 255, 256, (-1), 65535, 2147483648, 4294967295, 4294967296, (-9223372036854775808)] : List Int)) (inner := [.int .i64 0, .int .i64 127, .int .i64 128, .int .i64 255, .int .i64 256, .int .i64 (-1), .int .i64 65535, .int .i64 2147483648, .int .i64 4294967295, .int .i64 4294967296, .int .i64 (-9223372036854775808)]) (ok := fun _ => True) (okp := fun _ => True) ?hr ?hp (fun _ hk => hk) trivial (Below.refl _ _) (Nat.le_refl _) (by simp) ?_; (case hd => rfl); (case hg => rfl); (case hr => first | (go_simp; done) | (go_simp; rfl)); (case hp => exact (Reps.one (show Kd.M (Kd.int .i64) _ _ _ 0 [.int .i64 0] from rfl) (Reps.one (show Kd.M (Kd.int .i64) _ _ _ 127 [.int .i64 127] from rfl) (Reps.one (show Kd.M (Kd.int .i64) _ _ _ 128 [.int .i64 128] from rfl) (Reps.one (show Kd.M (Kd.int .i64) _ _ _ 255 [.int .i64 255] from rfl) (Reps.one (show Kd.M (Kd.int .i64) _ _ _ 256 [.int .i64 256] from rfl) (Reps.one (show Kd.M (Kd.int .i64) _ _ _ (-1) [.int .i64 (-1)] from rfl) (Reps.one (show Kd.M (Kd.int .i64) _ _ _ 65535 [.int .i64 65535] from rfl) (Reps.one (show Kd.M (Kd.int .i64) _ _ _ 2147483648 [.int .i64 2147483648] from rfl) (Reps.one (show Kd.M (Kd.int .i64) _ _ _ 4294967295 [.int .i64 4294967295] from rfl) (Reps.one (show Kd.M (Kd.int .i64) _ _ _ 4294967296 [.int .i64 4294967296] from rfl) (Reps.one (show Kd.M (Kd.int .i64) _ _ _ (-9223372036854775808) [.int .i64 (-9223372036854775808)] from rfl) (Reps.none _ _))))))))))))); intro v161 w60 ho61 hb hg_ hnew_; clear hg_ hnew_; (first | rw [← Ny160.out] at ho61 | (simp only [Int.reduceToNat] at ho61; rw [← Ny160.out] at ho61)); have n0_ := Aside0.mk (Kd.R_below (by (with_reducible repeat (first | apply Kd.R_alloc | apply Kd.R_drewN | apply Kd.R_drew)); exact HO_3.out) hb); have n1_ := Aside0.mk (Kd.R_lower ho61 (below_size (by repeat (first | (with_reducible first | exact HB.out | apply below_alloc | apply pw_below_drewN | apply below_drew1 | refine below_set ?_ GE133.out) | exact HB.out)))); have n2_ := Aside0.mk (blk_below (g := gb133) (o := .cells #[.slice A0_0 l0_0.length c0_0, .slice A0_1 l0_1.length c0_1, .slice A0_2 l0_2.length c0_2] 26 (0, 0)) (by (with_reducible repeat (first | refine blk_drewN ?_ _ | refine blk_drew ?_ | refine blk_alloc ?_ _)); exact BK133.out) hb); have n3_ := Aside0.mk (below_step (by repeat (first | (with_reducible first | exact HB.out | apply below_alloc | apply pw_below_drewN | apply below_drew1 | refine below_set ?_ GE133.out) | exact HB.out)) hb); clear HO_3; clear BK133; clear HB; have HO_3 := n0_; have HO162 := n1_; have BK133 := n2_; have HB := n3_; clear n0_ n1_ n2_ n3_; clear hb ho61; have hcz62_0 : w60.cell? ⟨gb133, 0, none⟩ = some (.slice A0_0 l0_0.length c0_0) := (blk_cell BK133.out 0).trans rfl; have hcz62_1 : w60.cell? ⟨gb133, 1, none⟩ = some (.slice A0_1 l0_1.length c0_1) := (blk_cell BK133.out 1).trans rfl; have hcz62_2 : w60.cell? ⟨gb133, 2, none⟩ = some (.slice A0_2 l0_2.length c0_2) := (blk_cell BK133.out 2).trans rfl; have hfz62_0 := blk_frozen BK133.out 0; have hfz62_1 := blk_frozen BK133.out 1; have hfz62_2 := blk_frozen BK133.out 2) | ((with_reducible refine gate_builtin (b := .append) (xs := #[.tmp 120, .tmp 122]) rfl ?_); at_builtin; refine Kd.R_append_rows (Kd.int .i64) (w0 := w) w.heap.size rfl (.tmp 120) (.tmp 122) 22 3 (.int .i64 0) 8 rfl Try.underlying22 info3 rfl (by decide) (by omega) v161 y160 l0_0 _ _ _ (fun _ => True) (fun _ => False) rfl rfl ?aO ?aR (fun _ _ h => h) (fun _ h => h.elim) ?aF ?aB ?aS ?aL ?_; (case aR => repeat (first | exact (Kd.C_below HR0_0.out HB.out) | (with_reducible refine Kd.C_alloc ?_ _) | (with_reducible refine Kd.C_drewN ?_ _) | (with_reducible refine Kd.C_drew ?_))); (case aB => exact (by repeat (first | (with_reducible first | exact HB.out | apply below_alloc | apply pw_below_drewN | apply below_drew1 | refine below_set ?_ GE133.out) | exact HB.out))); (case aF => exact (fun _ _ => trivial)); (case aO => exact (by (with_reducible repeat (first | apply Kd.R_alloc | apply Kd.R_drewN | apply Kd.R_drew)); exact HO162.out)); (case aS => exact (below_size (by repeat (first | (with_reducible first | exact HB.out | apply below_alloc | apply pw_below_drewN | apply below_drew1 | refine below_set ?_ GE133.out) | exact HB.out)))); (case aL => have := LMc59.out; omega); intro v164 w63 ho hb hg hat; rw [← Ny163.out] at ho; have n0_ := Aside0.mk (Kd.R_over' (by (with_reducible repeat (first | apply Kd.R_alloc | apply Kd.R_drewN | apply Kd.R_drew)); exact HO_3.out) (Kd.R_typed (by (with_reducible repeat (first | apply Kd.R_alloc | apply Kd.R_drewN | apply Kd.R_drew)); exact HO162.out)) (by decide) hg); have n1_ := Aside0.mk (blk_grown (g := gb133) (o := .cells #[.slice A0_0 l0_0.length c0_0, .slice A0_1 l0_1.length c0_1, .slice A0_2 l0_2.length c0_2] 26 (0, 0)) (by (with_reducible repeat (first | refine blk_drewN ?_ _ | refine blk_drew ?_ | refine blk_alloc ?_ _)); exact BK133.out) hg (Kd.R_ne HO162.out BK133.out (by decide))); have n2_ := Aside0.mk (hb); have n3_ := Aside0.mk (ho); clear HO_3; clear BK133; clear HB; clear HO162; have HO_3 := n0_; have BK133 := n1_; have HB := n2_; have HO165 := n3_; clear n0_ n1_ n2_ n3_; clear ho hb hg hat))
       go_loopg [17] k1 (fun kq v17 w' => ∃ (x17_2 : Int), v17 = .int .i64 x17_2 ∧ Aside0 (cellarlaw1_WordExact.l2 kq y163 x17_2 = some r) ∧ Aside0 (kq ≤ k1) ∧ Aside0 (Kd.R (Kd.int .i64) 3 w' w.heap.size (fun _ => True) v164 y163) ∧ Aside0 (w'.heap[gb133]? = some (.cells #[(.slice A0_0 l0_0.length c0_0), (.slice A0_1 l0_1.length c0_1), (.slice A0_2 l0_2.length c0_2)] 26 (0, 0))) ∧ Aside0 (Below w.heap.size w w'))
       case atStart => exact ⟨(0), (by first | rfl | (simp; done) | (simp [*]; done)), H', ⟨Nat.le_refl _⟩, ⟨by (with_reducible repeat (first | apply Kd.R_alloc | apply Kd.R_drewN | apply Kd.R_drew)); exact HO165.out⟩, ⟨by (with_reducible repeat (first | refine blk_drewN ?_ _ | refine blk_drew ?_ | refine blk_alloc ?_ _)); exact BK133.out⟩, ⟨by repeat (first | (with_reducible first | exact HB.out | apply below_alloc | apply pw_below_drewN | apply below_drew1 | refine below_set ?_ GE133.out) | exact HB.out)⟩⟩
       case round =>
        clear H'
        try clear c1
        try clear p1
        try clear q1
        try clear hx1
        try clear c2
        try clear p2
        try clear c3
        try clear c4
        try clear c5
        try clear p6
        try clear c7
        try clear c15
        try clear c15b0
        try clear p15
        try clear q15
        try clear hx15
        try clear c20
        try clear c20b0
        try clear c23
        try clear c24
        try clear c24b0
        try clear c24b1
        try clear c26
        try clear c26b0
        try clear c26b1
        try clear c28
        try clear c28b0
        try clear c28b1
        try clear c29
        try clear c30
        try clear c31
        try clear c31b0
        try clear c32
        try clear c33
        try clear c34
        try clear c35
        try clear c35b0
        try clear c36
        try clear c36b0
        try clear c42
        try clear c46
        try clear c47
        try clear c47b0
        try clear c48
        try clear c48b0
        try clear c51
        try clear c51b0
        try clear c51b1
        try clear c52
        try clear c52b0
        try clear c52b1
        try clear c57
        try clear c57b0
        try clear c57b1
        try clear c58
        try clear c58b0
        try clear c58b1
        try clear c59
        try clear hcz13_0
        try clear hcz13_1
        try clear hcz13_2
        try clear hcz5_0
        try clear hcz5_1
        try clear hcz5_2
        try clear hcz62_0
        try clear hcz62_1
        try clear hcz62_2
        try clear hcz9_0
        try clear hcz9_1
        try clear hcz9_2
        try clear hfz13_0
        try clear hfz13_1
        try clear hfz13_2
        try clear hfz5_0
        try clear hfz5_1
        try clear hfz5_2
        try clear hfz62_0
        try clear hfz62_1
        try clear hfz62_2
        try clear hfz9_0
        try clear hfz9_1
        try clear hfz9_2
        try clear hx150_0
        try clear hx150_1
        try clear hx153_0
        try clear hx153_1
        try clear hx156_0
        try clear hx156_1
        try clear p1
        try clear p15
        try clear p150
        try clear p153
        try clear p156
        try clear p2
        try clear q1
        try clear q15
        try clear q150
        try clear q153
        try clear q156
        obtain ⟨x17_2, rfl, HA, HK2, HO_16, BK133, HB⟩ := hrel
        cases gk with
        | zero => exact absurd HA.out (by simp [cellarlaw1_WordExact.l2])
        | succ k2 =>
         have H := HA.out
         clear HA
         simp only [cellarlaw1_WordExact.l2] at H
         have HC64 := Aside0.mk H
         clear H
         go_upto_region 25 with (fail)
         go_cut [131] (fun v131 wc => ∃ (kq : Nat) (x131_63 : Bool), v131 = .bool x131_63 ∧ Aside0 (cellarlaw1_WordExact.j7 kq y163 x17_2 x131_63 = some r) ∧ Aside0 (kq ≤ k2) ∧ Aside0 (Kd.R (Kd.int .i64) 3 wc w.heap.size (fun _ => True) v164 y163) ∧ Aside0 (wc.heap[gb133]? = some (.cells #[(.slice A0_0 l0_0.length c0_0), (.slice A0_1 l0_1.length c0_1), (.slice A0_2 l0_2.length c0_2)] 26 (0, 0))) ∧ Aside0 (Below w.heap.size w wc))
         case first =>
          have H := HC64.out
          clear HC64
          by_cases c65 : x17_2 < (y163.length : Int)
          ·rw [if_pos c65] at H
           have c65b0 : decide (x17_2 < (y163.length : Int)) = true := decide_eq_true c65
           clear c65
           (first | rw [c65b0] | (simp only [i64_w, i32_w]; rw [c65b0]) | skip)
           have H' := Aside0.mk H
           clear H
           obtain ⟨Ao66, co66, eo66⟩ := Kd.R_slice HO_16.out
           subst eo66
           go_wp2
           go_meet
           case rel => exact ⟨_, (decide (x17_2 < 30)), (by first | rfl | (simp; done) | (simp [*]; done)), H', ⟨by have := HK1.out; have := HK2.out; first | omega | exact Nat.le_refl _⟩, ⟨by (with_reducible repeat (first | apply Kd.R_alloc | apply Kd.R_drewN | apply Kd.R_drew)); exact HO_16.out⟩, ⟨by (with_reducible repeat (first | refine blk_drewN ?_ _ | refine blk_drew ?_ | refine blk_alloc ?_ _)); exact BK133.out⟩, ⟨by repeat (first | (with_reducible first | exact HB.out | apply below_alloc | apply pw_below_drewN | apply below_drew1 | refine below_set ?_ GE133.out) | exact HB.out)⟩⟩
          ·rw [if_neg c65] at H
           have c65b0 : decide (x17_2 < (y163.length : Int)) = false := decide_eq_false c65
           clear c65
           (first | rw [c65b0] | (simp only [i64_w, i32_w]; rw [c65b0]) | skip)
           have H' := Aside0.mk H
           clear H
           obtain ⟨Ao67, co67, eo67⟩ := Kd.R_slice HO_16.out
           subst eo67
           go_wp2
           go_meet
           case rel => exact ⟨_, (false), (by first | rfl | (simp; done) | (simp [*]; done)), H', ⟨by have := HK1.out; have := HK2.out; first | omega | exact Nat.le_refl _⟩, ⟨by (with_reducible repeat (first | apply Kd.R_alloc | apply Kd.R_drewN | apply Kd.R_drew)); exact HO_16.out⟩, ⟨by (with_reducible repeat (first | refine blk_drewN ?_ _ | refine blk_drew ?_ | refine blk_alloc ?_ _)); exact BK133.out⟩, ⟨by repeat (first | (with_reducible first | exact HB.out | apply below_alloc | apply pw_below_drewN | apply below_drew1 | refine below_set ?_ GE133.out) | exact HB.out)⟩⟩
         case rest =>
          clear HC64
          try clear c1
          try clear p1
          try clear q1
          try clear hx1
          try clear c2
          try clear p2
          try clear c3
          try clear c4
          try clear c5
          try clear c6
          try clear p6
          try clear c7
          try clear c15
          try clear c15b0
          try clear p15
          try clear q15
          try clear hx15
          try clear c20
          try clear c20b0
          try clear c23
          try clear c24
          try clear c24b0
          try clear c24b1
          try clear c26
          try clear c26b0
          try clear c26b1
          try clear c28
          try clear c28b0
          try clear c28b1
          try clear c29
          try clear c30
          try clear c31
          try clear c31b0
          try clear c32
          try clear c33
          try clear c34
          try clear c35
          try clear c35b0
          try clear c36
          try clear c36b0
          try clear c42
          try clear c46
          try clear c47
          try clear c47b0
          try clear c48
          try clear c48b0
          try clear c51
          try clear c51b0
          try clear c51b1
          try clear c52
          try clear c52b0
          try clear c52b1
          try clear c57
          try clear c57b0
          try clear c57b1
          try clear c58
          try clear c58b0
          try clear c58b1
          try clear c59
          try clear p64
          try clear c65
          try clear c65b0
          try clear hcz13_0
          try clear hcz13_1
          try clear hcz13_2
          try clear hcz5_0
          try clear hcz5_1
          try clear hcz5_2
          try clear hcz62_0
          try clear hcz62_1
          try clear hcz62_2
          try clear hcz9_0
          try clear hcz9_1
          try clear hcz9_2
          try clear hfz13_0
          try clear hfz13_1
          try clear hfz13_2
          try clear hfz5_0
          try clear hfz5_1
          try clear hfz5_2
          try clear hfz62_0
          try clear hfz62_1
          try clear hfz62_2
          try clear hfz9_0
          try clear hfz9_1
          try clear hfz9_2
          try clear hx150_0
          try clear hx150_1
          try clear hx153_0
          try clear hx153_1
          try clear hx156_0
          try clear hx156_1
          try clear p1
          try clear p15
          try clear p150
          try clear p153
          try clear p156
          try clear p2
          try clear p6
          try clear q1
          try clear q15
          try clear q150
          try clear q153
          try clear q156
          obtain ⟨kq, x131_63, rfl, HA, HJ63, HO_16, BK133, HB⟩ := hcut
          cases kq with
          | zero => exact absurd HA.out (by simp [cellarlaw1_WordExact.j7])
          | succ kj63 =>
           have H := HA.out
           clear HA
           simp only [cellarlaw1_WordExact.j7] at H
           by_cases c68 : x131_63 = true
           ·subst c68
            have H1 : (cellarlaw1_WordExact.l3 kj63 y163 x17_2 0) = some r := by rw [if_pos rfl] at H; exact H
            clear H
            have H := H1
            clear H1
            have H' := Aside0.mk H
            clear H
            go_wp2
            go_loopg [18] kj63 (fun kq v18 w' => ∃ (x18_4 : Int), v18 = .int .i64 x18_4 ∧ Aside0 (cellarlaw1_WordExact.l3 kq y163 x17_2 x18_4 = some r) ∧ Aside0 (kq ≤ kj63) ∧ Aside0 (Kd.R (Kd.int .i64) 3 w' w.heap.size (fun _ => True) v164 y163) ∧ Aside0 (w'.heap[gb133]? = some (.cells #[(.slice A0_0 l0_0.length c0_0), (.slice A0_1 l0_1.length c0_1), (.slice A0_2 l0_2.length c0_2)] 26 (0, 0))) ∧ Aside0 (Below w.heap.size w w'))
            case atStart => exact ⟨(0), (by first | rfl | (simp; done) | (simp [*]; done)), H', ⟨Nat.le_refl _⟩, ⟨by (with_reducible repeat (first | apply Kd.R_alloc | apply Kd.R_drewN | apply Kd.R_drew)); exact HO_16.out⟩, ⟨by (with_reducible repeat (first | refine blk_drewN ?_ _ | refine blk_drew ?_ | refine blk_alloc ?_ _)); exact BK133.out⟩, ⟨by repeat (first | (with_reducible first | exact HB.out | apply below_alloc | apply pw_below_drewN | apply below_drew1 | refine below_set ?_ GE133.out) | exact HB.out)⟩⟩
            case round =>
             clear H'
             try clear c1
             try clear p1
             try clear q1
             try clear hx1
             try clear c2
             try clear p2
             try clear c3
             try clear c4
             try clear c5
             try clear c6
             try clear p6
             try clear c7
             try clear c15
             try clear c15b0
             try clear p15
             try clear q15
             try clear hx15
             try clear c20
             try clear c20b0
             try clear c23
             try clear c24
             try clear c24b0
             try clear c24b1
             try clear c26
             try clear c26b0
             try clear c26b1
             try clear c28
             try clear c28b0
             try clear c28b1
             try clear c29
             try clear c30
             try clear c31
             try clear c31b0
             try clear c32
             try clear c33
             try clear c34
             try clear c35
             try clear c35b0
             try clear c36
             try clear c36b0
             try clear c42
             try clear c46
             try clear c47
             try clear c47b0
             try clear c48
             try clear c48b0
             try clear c51
             try clear c51b0
             try clear c51b1
             try clear c52
             try clear c52b0
             try clear c52b1
             try clear c57
             try clear c57b0
             try clear c57b1
             try clear c58
             try clear c58b0
             try clear c58b1
             try clear c59
             try clear p64
             try clear c65
             try clear c65b0
             try clear c68
             try clear hcz13_0
             try clear hcz13_1
             try clear hcz13_2
             try clear hcz5_0
             try clear hcz5_1
             try clear hcz5_2
             try clear hcz62_0
             try clear hcz62_1
             try clear hcz62_2
             try clear hcz9_0
             try clear hcz9_1
             try clear hcz9_2
             try clear hfz13_0
             try clear hfz13_1
             try clear hfz13_2
             try clear hfz5_0
             try clear hfz5_1
             try clear hfz5_2
             try clear hfz62_0
             try clear hfz62_1
             try clear hfz62_2
             try clear hfz9_0
             try clear hfz9_1
             try clear hfz9_2
             try clear hx150_0
             try clear hx150_1
             try clear hx153_0
             try clear hx153_1
             try clear hx156_0
             try clear hx156_1
             try clear p1
             try clear p15
             try clear p150
             try clear p153
             try clear p156
             try clear p2
             try clear p6
             try clear p64
             try clear q1
             try clear q15
             try clear q150
             try clear q153
             try clear q156
             obtain ⟨x18_4, rfl, HA, HK4, HO_16, BK133, HB⟩ := hrel
             cases gk with
             | zero => exact absurd HA.out (by simp [cellarlaw1_WordExact.l3])
             | succ k4 =>
              have H := HA.out
              clear HA
              simp only [cellarlaw1_WordExact.l3] at H
              by_cases c69 : x18_4 < 5
              ·rw [if_pos c69] at H
               have c69b0 : decide (x18_4 < 5) = true := decide_eq_true c69
               clear c69
               obtain ⟨y167, hy167⟩ : ∃ y_ : List Int, y_ = (([8, 16, 32, 0, 64] : List Int)) := ⟨_, rfl⟩
               replace H : (if 0 ≤ x18_4 then (if x18_4 < (y167.length : Int) then (if 0 ≤ x17_2 then (if x17_2 < (y163.length : Int) then ((word_Wrap.f (rd y163 x17_2) (rd y167 x18_4)).bind fun bt172 => ((word_View.f (rd y163 x17_2) (rd y167 x18_4)).bind fun bt175 => ((cellarref1_IsWidth.f (rd y167 x18_4)).bind fun t177 => (if t177 = true then ((cellarref1_Wrap.f (rd y163 x17_2) (rd y167 x18_4)).bind fun t179 => ((cellarref1_Number.f (rd y163 x17_2) (rd y167 x18_4)).bind fun t181 => (if t181 = true then ((cellarref1_View.f (rd y163 x17_2) (rd y167 x18_4)).bind fun t183 => (cellarlaw1_WordExact.j9 k4 y163 x17_2 x18_4 bt172.1 bt172.2 bt175.1 bt175.2 0 0 t179 t183)) else (cellarlaw1_WordExact.j9 k4 y163 x17_2 x18_4 bt172.1 bt172.2 bt175.1 bt175.2 0 1 t179 0)))) else (cellarlaw1_WordExact.j9 k4 y163 x17_2 x18_4 bt172.1 bt172.2 bt175.1 bt175.2 1 1 0 0))))) else (none)) else (none)) else (none)) else (none)) = some r := by first | (rw [hy167]; with_reducible exact H) | (have H2_ := (Option.bind_some _ _).symm.trans H; rw [hy167]; with_reducible exact H2_) | (have H2_ := (Option.bind_some _ _).symm.trans H; with_reducible exact H2_) | with_reducible exact H | (rw [hy167]; exact H) | exact H
               have Ny167 := Aside0.mk hy167
               clear hy167
               by_cases c70 : 0 ≤ x18_4
               ·rw [if_pos c70] at H
                have c70b0 : decide (0 ≤ x18_4) = true := decide_eq_true c70
                clear c70
                by_cases c71 : x18_4 < (y167.length : Int)
                ·rw [if_pos c71] at H
                 have c71b0 : decide (x18_4 < (y167.length : Int)) = true := decide_eq_true c71
                 clear c71
                 by_cases c72 : 0 ≤ x17_2
                 ·rw [if_pos c72] at H
                  have c72b0 : decide (0 ≤ x17_2) = true := decide_eq_true c72
                  clear c72
                  by_cases c73 : x17_2 < (y163.length : Int)
                  ·rw [if_pos c73] at H
                   have c73b0 : decide (x17_2 < (y163.length : Int)) = true := decide_eq_true c73
                   clear c73
                   replace H := Option.bind_eq_some_iff.mp H
                   obtain ⟨⟨t172, t173⟩, A740, H⟩ := H
                   replace H : ((word_View.f (rd y163 x17_2) (rd y167 x18_4)).bind fun bt175 => ((cellarref1_IsWidth.f (rd y167 x18_4)).bind fun t177 => (if t177 = true then ((cellarref1_Wrap.f (rd y163 x17_2) (rd y167 x18_4)).bind fun t179 => ((cellarref1_Number.f (rd y163 x17_2) (rd y167 x18_4)).bind fun t181 => (if t181 = true then ((cellarref1_View.f (rd y163 x17_2) (rd y167 x18_4)).bind fun t183 => (cellarlaw1_WordExact.j9 k4 y163 x17_2 x18_4 t172 t173 bt175.1 bt175.2 0 0 t179 t183)) else (cellarlaw1_WordExact.j9 k4 y163 x17_2 x18_4 t172 t173 bt175.1 bt175.2 0 1 t179 0)))) else (cellarlaw1_WordExact.j9 k4 y163 x17_2 x18_4 t172 t173 bt175.1 bt175.2 1 1 0 0)))) = some r := H
                   have A74 := Aside0.mk A740
                   clear A740
                   replace H := Option.bind_eq_some_iff.mp H
                   obtain ⟨⟨t175, t176⟩, A750, H⟩ := H
                   replace H : ((cellarref1_IsWidth.f (rd y167 x18_4)).bind fun t177 => (if t177 = true then ((cellarref1_Wrap.f (rd y163 x17_2) (rd y167 x18_4)).bind fun t179 => ((cellarref1_Number.f (rd y163 x17_2) (rd y167 x18_4)).bind fun t181 => (if t181 = true then ((cellarref1_View.f (rd y163 x17_2) (rd y167 x18_4)).bind fun t183 => (cellarlaw1_WordExact.j9 k4 y163 x17_2 x18_4 t172 t173 t175 t176 0 0 t179 t183)) else (cellarlaw1_WordExact.j9 k4 y163 x17_2 x18_4 t172 t173 t175 t176 0 1 t179 0)))) else (cellarlaw1_WordExact.j9 k4 y163 x17_2 x18_4 t172 t173 t175 t176 1 1 0 0))) = some r := H
                   have A75 := Aside0.mk A750
                   clear A750
                   replace H := Option.bind_eq_some_iff.mp H
                   obtain ⟨t177, A760, H⟩ := H
                   replace H : (if t177 = true then ((cellarref1_Wrap.f (rd y163 x17_2) (rd y167 x18_4)).bind fun t179 => ((cellarref1_Number.f (rd y163 x17_2) (rd y167 x18_4)).bind fun t181 => (if t181 = true then ((cellarref1_View.f (rd y163 x17_2) (rd y167 x18_4)).bind fun t183 => (cellarlaw1_WordExact.j9 k4 y163 x17_2 x18_4 t172 t173 t175 t176 0 0 t179 t183)) else (cellarlaw1_WordExact.j9 k4 y163 x17_2 x18_4 t172 t173 t175 t176 0 1 t179 0)))) else (cellarlaw1_WordExact.j9 k4 y163 x17_2 x18_4 t172 t173 t175 t176 1 1 0 0)) = some r := H
                   have A76 := Aside0.mk A760
                   clear A760
                   have HC77 := Aside0.mk H
                   clear H
                   go_upto_if 161 with (first | ((with_reducible refine gate_dst (N := 138) rfl ?_); refine Kd.R_lit (Kd.int .i64) _ 3 ?hg (N := 138) ?hd (xs := ([8, 16, 32, 0, 64] : List Int)) (inner := [.int .i64 8, .int .i64 16, .int .i64 32, .int .i64 0, .int .i64 64]) (ok := fun _ => True) (okp := fun _ => True) ?hr ?hp (fun _ hk => hk) trivial (Below.refl _ _) (Nat.le_refl _) (by simp) ?_; (case hd => rfl); (case hg => rfl); (case hr => first | (go_simp; done) | (go_simp; rfl)); (case hp => exact (Reps.one (show Kd.M (Kd.int .i64) _ _ _ 8 [.int .i64 8] from rfl) (Reps.one (show Kd.M (Kd.int .i64) _ _ _ 16 [.int .i64 16] from rfl) (Reps.one (show Kd.M (Kd.int .i64) _ _ _ 32 [.int .i64 32] from rfl) (Reps.one (show Kd.M (Kd.int .i64) _ _ _ 0 [.int .i64 0] from rfl) (Reps.one (show Kd.M (Kd.int .i64) _ _ _ 64 [.int .i64 64] from rfl) (Reps.none _ _))))))); intro v168 w78 ho79 hb hg_ hnew_; clear hg_ hnew_; (first | rw [← Ny167.out] at ho79 | (simp only [Int.reduceToNat] at ho79; rw [← Ny167.out] at ho79)); have n0_ := Aside0.mk (Kd.R_elder' (by (with_reducible repeat (first | apply Kd.R_alloc | apply Kd.R_drewN | apply Kd.R_drew)); exact HO_16.out) (Kd.R_base ho79) hb); have n1_ := Aside0.mk (Kd.R_lower (Kd.R_new' ho79 (Kd.R_lt (by (with_reducible repeat (first | apply Kd.R_alloc | apply Kd.R_drewN | apply Kd.R_drew)); exact HO_16.out))) (below_size (by repeat (first | (with_reducible first | exact HB.out | apply below_alloc | apply pw_below_drewN | apply below_drew1 | refine below_set ?_ GE133.out) | exact HB.out)))); have n2_ := Aside0.mk (blk_below (g := gb133) (o := .cells #[.slice A0_0 l0_0.length c0_0, .slice A0_1 l0_1.length c0_1, .slice A0_2 l0_2.length c0_2] 26 (0, 0)) (by (with_reducible repeat (first | refine blk_drewN ?_ _ | refine blk_drew ?_ | refine blk_alloc ?_ _)); exact BK133.out) hb); have n3_ := Aside0.mk (below_step (by repeat (first | (with_reducible first | exact HB.out | apply below_alloc | apply pw_below_drewN | apply below_drew1 | refine below_set ?_ GE133.out) | exact HB.out)) hb); clear HO_16; clear BK133; clear HB; have HO_16 := n0_; have HO169 := n1_; have BK133 := n2_; have HB := n3_; clear n0_ n1_ n2_ n3_; clear hb ho79; obtain ⟨Ao80, co80, eo80⟩ := Kd.R_slice HO169.out; subst eo80; have p170 : 0 ≤ (x18_4 : Int) := of_decide_eq_true (by first | (with_reducible assumption) | assumption); have q170 : x18_4 < (y167.length : Int) := of_decide_eq_true (by first | (with_reducible assumption) | assumption); obtain ⟨ad170, e170, hx170_0⟩ := Kd.at_int (Kd.R_reads' HO169.out).2.2 x18_4 p170 q170; cases e170; replace p170 := eq_true p170; replace q170 := eq_true q170; obtain ⟨Ao81, co81, eo81⟩ := Kd.R_slice HO_16.out; subst eo81; have p171 : 0 ≤ (x17_2 : Int) := of_decide_eq_true (by first | (with_reducible assumption) | assumption); have q171 : x17_2 < (y163.length : Int) := of_decide_eq_true (by first | (with_reducible assumption) | assumption); obtain ⟨ad171, e171, hx171_0⟩ := Kd.at_int (Kd.R_reads' HO_16.out).2.2 x17_2 p171 q171; cases e171; replace p171 := eq_true p171; replace q171 := eq_true q171) | ((with_reducible refine gate_callee (f := 24) rfl ?_); refine goesL_ (some 148) rfl rfl Try.func24 (by kernel_rfl) rfl #[.int .i64 (rd y163 x17_2), .int .i64 (rd y167 x18_4)] rfl (by (try simp only [List.map_toArray, List.map_cons, List.map_nil]); first | done | rfl | (simp only [List.length_drop, List.length_take]; rfl)) ?_; (with_reducible refine (word_Wrap.calls (rd y163 x17_2) (rd y167 x18_4) t172 t173 _ A74.out).mono ?_); rintro e w' ⟨rfl, ⟨nd, rfl⟩⟩; refine ⟨_, rfl, ?_⟩; have p174 : 0 ≤ (x17_2 : Int) := of_decide_eq_true (by first | (with_reducible assumption) | assumption); have q174 : x17_2 < (y163.length : Int) := of_decide_eq_true (by first | (with_reducible assumption) | assumption); obtain ⟨ad174, e174, hx174_0⟩ := Kd.at_int (Kd.R_reads' HO_16.out).2.2 x17_2 p174 q174; obtain rfl : ad171 = ad174 := (by injection e174); replace p174 := eq_true p174; replace q174 := eq_true q174) | ((with_reducible refine gate_callee (f := 25) rfl ?_); refine goesL_ (some 157) rfl rfl Try.func25 (by kernel_rfl) rfl #[.int .i64 (rd y163 x17_2), .int .i64 (rd y167 x18_4)] rfl (by (try simp only [List.map_toArray, List.map_cons, List.map_nil]); first | done | rfl | (simp only [List.length_drop, List.length_take]; rfl)) ?_; (with_reducible refine (word_View.calls (rd y163 x17_2) (rd y167 x18_4) t175 t176 _ A75.out).mono ?_); rintro e w' ⟨rfl, ⟨nd, rfl⟩⟩; refine ⟨_, rfl, ?_⟩) | ((with_reducible refine gate_callee (f := 36) rfl ?_); refine goesL_ (some 161) rfl rfl Try.func36 (by kernel_rfl) rfl #[.int .i64 (rd y167 x18_4)] rfl (by (try simp only [List.map_toArray, List.map_cons, List.map_nil]); first | done | rfl | (simp only [List.length_drop, List.length_take]; rfl)) ?_; (with_reducible refine (cellarref1_IsWidth.calls (rd y167 x18_4) t177 _ A76.out).mono ?_); rintro e w' ⟨rfl, ⟨nd, rfl⟩⟩; refine ⟨_, rfl, ?_⟩))
                   (try simp only [Act.put, List.setIfInBounds_toArray, List.set_cons_zero, List.set_cons_succ])
                   go_cut [24, 25, 26, 27] (fun v24 v25 v26 v27 wc => ∃ (kq : Nat) (x24_76 : Int) (x25_76 : Int) (x26_76 : Int) (x27_76 : Int), v24 = .int .i64 x24_76 ∧ v25 = .int .i64 x25_76 ∧ v26 = .int .i64 x26_76 ∧ v27 = .int .i64 x27_76 ∧ Aside0 (cellarlaw1_WordExact.j9 kq y163 x17_2 x18_4 t172 t173 t175 t176 x24_76 x25_76 x26_76 x27_76 = some r) ∧ Aside0 (kq ≤ k4) ∧ Aside0 (Kd.R (Kd.int .i64) 3 wc w.heap.size (fun _ => True) (.slice (some ad171) y163.length co81) y163) ∧ Aside0 (wc.heap[gb133]? = some (.cells #[(.slice A0_0 l0_0.length c0_0), (.slice A0_1 l0_1.length c0_1), (.slice A0_2 l0_2.length c0_2)] 26 (0, 0))) ∧ Aside0 (Below w.heap.size w wc))
                   case first =>
                    have H := HC77.out
                    clear HC77
                    by_cases c82 : t177 = true
                    ·subst c82
                     have H1 : ((cellarref1_Wrap.f (rd y163 x17_2) (rd y167 x18_4)).bind fun t179 => ((cellarref1_Number.f (rd y163 x17_2) (rd y167 x18_4)).bind fun t181 => (if t181 = true then ((cellarref1_View.f (rd y163 x17_2) (rd y167 x18_4)).bind fun t183 => (cellarlaw1_WordExact.j9 k4 y163 x17_2 x18_4 t172 t173 t175 t176 0 0 t179 t183)) else (cellarlaw1_WordExact.j9 k4 y163 x17_2 x18_4 t172 t173 t175 t176 0 1 t179 0)))) = some r := by rw [if_pos rfl] at H; exact H
                     clear H
                     have H := H1
                     clear H1
                     replace H := Option.bind_eq_some_iff.mp H
                     obtain ⟨t179, A830, H⟩ := H
                     replace H : ((cellarref1_Number.f (rd y163 x17_2) (rd y167 x18_4)).bind fun t181 => (if t181 = true then ((cellarref1_View.f (rd y163 x17_2) (rd y167 x18_4)).bind fun t183 => (cellarlaw1_WordExact.j9 k4 y163 x17_2 x18_4 t172 t173 t175 t176 0 0 t179 t183)) else (cellarlaw1_WordExact.j9 k4 y163 x17_2 x18_4 t172 t173 t175 t176 0 1 t179 0))) = some r := H
                     have A83 := Aside0.mk A830
                     clear A830
                     replace H := Option.bind_eq_some_iff.mp H
                     obtain ⟨t181, A840, H⟩ := H
                     replace H : (if t181 = true then ((cellarref1_View.f (rd y163 x17_2) (rd y167 x18_4)).bind fun t183 => (cellarlaw1_WordExact.j9 k4 y163 x17_2 x18_4 t172 t173 t175 t176 0 0 t179 t183)) else (cellarlaw1_WordExact.j9 k4 y163 x17_2 x18_4 t172 t173 t175 t176 0 1 t179 0)) = some r := H
                     have A84 := Aside0.mk A840
                     clear A840
                     by_cases c85 : t181 = true
                     ·subst c85
                      have H1 : ((cellarref1_View.f (rd y163 x17_2) (rd y167 x18_4)).bind fun t183 => (cellarlaw1_WordExact.j9 k4 y163 x17_2 x18_4 t172 t173 t175 t176 0 0 t179 t183)) = some r := by rw [if_pos rfl] at H; exact H
                      clear H
                      have H := H1
                      clear H1
                      replace H := Option.bind_eq_some_iff.mp H
                      obtain ⟨t183, A860, H⟩ := H
                      replace H : (cellarlaw1_WordExact.j9 k4 y163 x17_2 x18_4 t172 t173 t175 t176 0 0 t179 t183) = some r := H
                      have A86 := Aside0.mk A860
                      clear A860
                      have H' := Aside0.mk H
                      clear H
                      have p178 : 0 ≤ (x17_2 : Int) := of_decide_eq_true (by first | (with_reducible assumption) | assumption)
                      have q178 : x17_2 < (y163.length : Int) := of_decide_eq_true (by first | (with_reducible assumption) | assumption)
                      obtain ⟨ad178, e178, hx178_0⟩ := Kd.at_int (Kd.R_reads' HO_16.out).2.2 x17_2 p178 q178
                      obtain rfl : ad171 = ad178 := (by injection e178)
                      replace p178 := eq_true p178
                      replace q178 := eq_true q178
                      go_wp2_with (first | ((with_reducible refine gate_callee (f := 37) rfl ?_); refine goesL_ (some 167) rfl rfl Try.func37 (by kernel_rfl) rfl #[.int .i64 (rd y163 x17_2), .int .i64 (rd y167 x18_4)] rfl (by (try simp only [List.map_toArray, List.map_cons, List.map_nil]); first | done | rfl | (simp only [List.length_drop, List.length_take]; rfl)) ?_; (with_reducible refine (cellarref1_Wrap.calls (rd y163 x17_2) (rd y167 x18_4) t179 _ A83.out).mono ?_); rintro e w' ⟨rfl, ⟨nd, rfl⟩⟩; refine ⟨_, rfl, ?_⟩; have p180 : 0 ≤ (x17_2 : Int) := of_decide_eq_true (by first | (with_reducible assumption) | assumption); have q180 : x17_2 < (y163.length : Int) := of_decide_eq_true (by first | (with_reducible assumption) | assumption); obtain ⟨ad180, e180, hx180_0⟩ := Kd.at_int (Kd.R_reads' HO_16.out).2.2 x17_2 p180 q180; obtain rfl : ad171 = ad180 := (by injection e180); replace p180 := eq_true p180; replace q180 := eq_true q180) | ((with_reducible refine gate_callee (f := 38) rfl ?_); refine goesL_ (some 173) rfl rfl Try.func38 (by kernel_rfl) rfl #[.int .i64 (rd y163 x17_2), .int .i64 (rd y167 x18_4)] rfl (by (try simp only [List.map_toArray, List.map_cons, List.map_nil]); first | done | rfl | (simp only [List.length_drop, List.length_take]; rfl)) ?_; (with_reducible refine (cellarref1_Number.calls (rd y163 x17_2) (rd y167 x18_4) true _ A84.out).mono ?_); rintro e w' ⟨rfl, ⟨nd, rfl⟩⟩; refine ⟨_, rfl, ?_⟩; have p182 : 0 ≤ (x17_2 : Int) := of_decide_eq_true (by first | (with_reducible assumption) | assumption); have q182 : x17_2 < (y163.length : Int) := of_decide_eq_true (by first | (with_reducible assumption) | assumption); obtain ⟨ad182, e182, hx182_0⟩ := Kd.at_int (Kd.R_reads' HO_16.out).2.2 x17_2 p182 q182; obtain rfl : ad171 = ad182 := (by injection e182); replace p182 := eq_true p182; replace q182 := eq_true q182) | ((with_reducible refine gate_callee (f := 39) rfl ?_); refine goesL_ (some 179) rfl rfl Try.func39 (by kernel_rfl) rfl #[.int .i64 (rd y163 x17_2), .int .i64 (rd y167 x18_4)] rfl (by (try simp only [List.map_toArray, List.map_cons, List.map_nil]); first | done | rfl | (simp only [List.length_drop, List.length_take]; rfl)) ?_; (with_reducible refine (cellarref1_View.calls (rd y163 x17_2) (rd y167 x18_4) t183 _ A86.out).mono ?_); rintro e w' ⟨rfl, ⟨nd, rfl⟩⟩; refine ⟨_, rfl, ?_⟩))
                      go_meet
                      case rel => exact ⟨_, (0), (0), (t179), (t183), (by first | rfl | (simp; done) | (simp [*]; done)), (by first | rfl | (simp; done) | (simp [*]; done)), (by first | rfl | (simp; done) | (simp [*]; done)), (by first | rfl | (simp; done) | (simp [*]; done)), H', ⟨by have := HK1.out; have := HK2.out; have := HJ63.out; have := HK4.out; first | omega | exact Nat.le_refl _⟩, ⟨by (with_reducible repeat (first | apply Kd.R_alloc | apply Kd.R_drewN | apply Kd.R_drew)); exact Kd.R_mono HO_16.out (fun _ hk => trivial)⟩, ⟨by (with_reducible repeat (first | refine blk_drewN ?_ _ | refine blk_drew ?_ | refine blk_alloc ?_ _)); exact BK133.out⟩, ⟨by repeat (first | (with_reducible first | exact HB.out | apply below_alloc | apply pw_below_drewN | apply below_drew1 | refine below_set ?_ GE133.out) | exact HB.out)⟩⟩
                     ·replace c85 := Bool.eq_false_iff.mpr c85
                      subst c85
                      have H1 : (cellarlaw1_WordExact.j9 k4 y163 x17_2 x18_4 t172 t173 t175 t176 0 1 t179 0) = some r := by rw [if_neg (show ¬ (false = true) by decide)] at H; exact H
                      clear H
                      have H := H1
                      clear H1
                      have H' := Aside0.mk H
                      clear H
                      have p178 : 0 ≤ (x17_2 : Int) := of_decide_eq_true (by first | (with_reducible assumption) | assumption)
                      have q178 : x17_2 < (y163.length : Int) := of_decide_eq_true (by first | (with_reducible assumption) | assumption)
                      obtain ⟨ad178, e178, hx178_0⟩ := Kd.at_int (Kd.R_reads' HO_16.out).2.2 x17_2 p178 q178
                      obtain rfl : ad171 = ad178 := (by injection e178)
                      replace p178 := eq_true p178
                      replace q178 := eq_true q178
                      go_wp2_with (first | ((with_reducible refine gate_callee (f := 37) rfl ?_); refine goesL_ (some 167) rfl rfl Try.func37 (by kernel_rfl) rfl #[.int .i64 (rd y163 x17_2), .int .i64 (rd y167 x18_4)] rfl (by (try simp only [List.map_toArray, List.map_cons, List.map_nil]); first | done | rfl | (simp only [List.length_drop, List.length_take]; rfl)) ?_; (with_reducible refine (cellarref1_Wrap.calls (rd y163 x17_2) (rd y167 x18_4) t179 _ A83.out).mono ?_); rintro e w' ⟨rfl, ⟨nd, rfl⟩⟩; refine ⟨_, rfl, ?_⟩; have p180 : 0 ≤ (x17_2 : Int) := of_decide_eq_true (by first | (with_reducible assumption) | assumption); have q180 : x17_2 < (y163.length : Int) := of_decide_eq_true (by first | (with_reducible assumption) | assumption); obtain ⟨ad180, e180, hx180_0⟩ := Kd.at_int (Kd.R_reads' HO_16.out).2.2 x17_2 p180 q180; obtain rfl : ad171 = ad180 := (by injection e180); replace p180 := eq_true p180; replace q180 := eq_true q180) | ((with_reducible refine gate_callee (f := 38) rfl ?_); refine goesL_ (some 173) rfl rfl Try.func38 (by kernel_rfl) rfl #[.int .i64 (rd y163 x17_2), .int .i64 (rd y167 x18_4)] rfl (by (try simp only [List.map_toArray, List.map_cons, List.map_nil]); first | done | rfl | (simp only [List.length_drop, List.length_take]; rfl)) ?_; (with_reducible refine (cellarref1_Number.calls (rd y163 x17_2) (rd y167 x18_4) false _ A84.out).mono ?_); rintro e w' ⟨rfl, ⟨nd, rfl⟩⟩; refine ⟨_, rfl, ?_⟩))
                      go_meet
                      case rel => exact ⟨_, (0), (1), (t179), (0), (by first | rfl | (simp; done) | (simp [*]; done)), (by first | rfl | (simp; done) | (simp [*]; done)), (by first | rfl | (simp; done) | (simp [*]; done)), (by first | rfl | (simp; done) | (simp [*]; done)), H', ⟨by have := HK1.out; have := HK2.out; have := HJ63.out; have := HK4.out; first | omega | exact Nat.le_refl _⟩, ⟨by (with_reducible repeat (first | apply Kd.R_alloc | apply Kd.R_drewN | apply Kd.R_drew)); exact Kd.R_mono HO_16.out (fun _ hk => trivial)⟩, ⟨by (with_reducible repeat (first | refine blk_drewN ?_ _ | refine blk_drew ?_ | refine blk_alloc ?_ _)); exact BK133.out⟩, ⟨by repeat (first | (with_reducible first | exact HB.out | apply below_alloc | apply pw_below_drewN | apply below_drew1 | refine below_set ?_ GE133.out) | exact HB.out)⟩⟩
                    ·replace c82 := Bool.eq_false_iff.mpr c82
                     subst c82
                     have H1 : (cellarlaw1_WordExact.j9 k4 y163 x17_2 x18_4 t172 t173 t175 t176 1 1 0 0) = some r := by rw [if_neg (show ¬ (false = true) by decide)] at H; exact H
                     clear H
                     have H := H1
                     clear H1
                     have H' := Aside0.mk H
                     clear H
                     go_wp2
                     go_meet
                     case rel => exact ⟨_, (1), (1), (0), (0), (by first | rfl | (simp; done) | (simp [*]; done)), (by first | rfl | (simp; done) | (simp [*]; done)), (by first | rfl | (simp; done) | (simp [*]; done)), (by first | rfl | (simp; done) | (simp [*]; done)), H', ⟨by have := HK1.out; have := HK2.out; have := HJ63.out; have := HK4.out; first | omega | exact Nat.le_refl _⟩, ⟨by (with_reducible repeat (first | apply Kd.R_alloc | apply Kd.R_drewN | apply Kd.R_drew)); exact Kd.R_mono HO_16.out (fun _ hk => trivial)⟩, ⟨by (with_reducible repeat (first | refine blk_drewN ?_ _ | refine blk_drew ?_ | refine blk_alloc ?_ _)); exact BK133.out⟩, ⟨by repeat (first | (with_reducible first | exact HB.out | apply below_alloc | apply pw_below_drewN | apply below_drew1 | refine below_set ?_ GE133.out) | exact HB.out)⟩⟩
                   case rest =>
                    clear HC77
                    try clear c1
                    try clear p1
                    try clear q1
                    try clear hx1
                    try clear c2
                    try clear p2
                    try clear c3
                    try clear c4
                    try clear c5
                    try clear c6
                    try clear p6
                    try clear c7
                    try clear c8
                    try clear c15
                    try clear c15b0
                    try clear p15
                    try clear q15
                    try clear hx15
                    try clear p17
                    try clear q17
                    try clear hx17
                    try clear p18
                    try clear q18
                    try clear hx18
                    try clear c20
                    try clear c20b0
                    try clear c23
                    try clear c24
                    try clear c24b0
                    try clear c24b1
                    try clear c25
                    try clear c26
                    try clear c26b0
                    try clear c26b1
                    try clear c28
                    try clear c28b0
                    try clear c28b1
                    try clear c29
                    try clear c30
                    try clear c31
                    try clear c31b0
                    try clear c32
                    try clear c33
                    try clear c34
                    try clear c35
                    try clear c35b0
                    try clear c36
                    try clear c36b0
                    try clear c37
                    try clear c38
                    try clear c39
                    try clear c42
                    try clear c46
                    try clear c47
                    try clear c47b0
                    try clear c48
                    try clear c48b0
                    try clear c51
                    try clear c51b0
                    try clear c51b1
                    try clear c52
                    try clear c52b0
                    try clear c52b1
                    try clear c57
                    try clear c57b0
                    try clear c57b1
                    try clear c58
                    try clear c58b0
                    try clear c58b1
                    try clear c59
                    try clear p64
                    try clear c65
                    try clear c65b0
                    try clear c68
                    try clear c69
                    try clear c69b0
                    try clear c70
                    try clear c70b0
                    try clear c71
                    try clear c71b0
                    try clear c72
                    try clear c72b0
                    try clear c73
                    try clear c73b0
                    try clear c82
                    try clear c85
                    try clear hcz13_0
                    try clear hcz13_1
                    try clear hcz13_2
                    try clear hcz5_0
                    try clear hcz5_1
                    try clear hcz5_2
                    try clear hcz62_0
                    try clear hcz62_1
                    try clear hcz62_2
                    try clear hcz9_0
                    try clear hcz9_1
                    try clear hcz9_2
                    try clear hfz13_0
                    try clear hfz13_1
                    try clear hfz13_2
                    try clear hfz5_0
                    try clear hfz5_1
                    try clear hfz5_2
                    try clear hfz62_0
                    try clear hfz62_1
                    try clear hfz62_2
                    try clear hfz9_0
                    try clear hfz9_1
                    try clear hfz9_2
                    try clear hx150_0
                    try clear hx150_1
                    try clear hx153_0
                    try clear hx153_1
                    try clear hx156_0
                    try clear hx156_1
                    try clear hx170_0
                    try clear hx171_0
                    try clear hx174_0
                    try clear hx178_0
                    try clear hx180_0
                    try clear hx182_0
                    try clear p1
                    try clear p15
                    try clear p150
                    try clear p153
                    try clear p156
                    try clear p170
                    try clear p171
                    try clear p174
                    try clear p178
                    try clear p180
                    try clear p182
                    try clear p2
                    try clear p6
                    try clear p64
                    try clear q1
                    try clear q15
                    try clear q150
                    try clear q153
                    try clear q156
                    try clear q170
                    try clear q171
                    try clear q174
                    try clear q178
                    try clear q180
                    try clear q182
                    obtain ⟨kq, x24_76, x25_76, x26_76, x27_76, rfl, rfl, rfl, rfl, HA, HJ76, HO_16, BK133, HB⟩ := hcut
                    cases kq with
                    | zero => exact absurd HA.out (by simp [cellarlaw1_WordExact.j9])
                    | succ kj76 =>
                     have H := HA.out
                     clear HA
                     simp only [cellarlaw1_WordExact.j9] at H
                     replace H := Option.bind_eq_some_iff.mp H
                     obtain ⟨t184, A870, H⟩ := H
                     replace H : (if t184 = x24_76 then (if t172 = x26_76 then ((cellarlaw1_num.f t176).bind fun t185 => (if t185 = x25_76 then (if t175 = x27_76 then (cellarlaw1_WordExact.l3 kj76 y163 x17_2 (wrap64 (x18_4 + 1))) else (some false)) else (some false))) else (some false)) else (some false)) = some r := H
                     have A87 := Aside0.mk A870
                     clear A870
                     by_cases c88 : t184 = x24_76
                     ·rw [if_pos c88] at H
                      have c88b0 : (t184 == x24_76) = true := beq_iff_eq.mpr c88
                      have c88b1 : (t184 != x24_76) = false := bne_eq_false_iff_eq.mpr c88
                      clear c88
                      by_cases c89 : t172 = x26_76
                      ·rw [if_pos c89] at H
                       have c89b0 : (t172 == x26_76) = true := beq_iff_eq.mpr c89
                       have c89b1 : (t172 != x26_76) = false := bne_eq_false_iff_eq.mpr c89
                       clear c89
                       replace H := Option.bind_eq_some_iff.mp H
                       obtain ⟨t185, A900, H⟩ := H
                       replace H : (if t185 = x25_76 then (if t175 = x27_76 then (cellarlaw1_WordExact.l3 kj76 y163 x17_2 (wrap64 (x18_4 + 1))) else (some false)) else (some false)) = some r := H
                       have A90 := Aside0.mk A900
                       clear A900
                       by_cases c91 : t185 = x25_76
                       ·rw [if_pos c91] at H
                        have c91b0 : (t185 == x25_76) = true := beq_iff_eq.mpr c91
                        have c91b1 : (t185 != x25_76) = false := bne_eq_false_iff_eq.mpr c91
                        clear c91
                        by_cases c92 : t175 = x27_76
                        ·rw [if_pos c92] at H
                         have c92b0 : (t175 == x27_76) = true := beq_iff_eq.mpr c92
                         have c92b1 : (t175 != x27_76) = false := bne_eq_false_iff_eq.mpr c92
                         clear c92
                         have H' := Aside0.mk H
                         clear H
                         go_wp2_with (first | ((with_reducible refine gate_callee (f := 26) rfl ?_); refine goesL_ (some 181) rfl rfl Try.func26 (by kernel_rfl) rfl #[.int .i64 t173] rfl (by (try simp only [List.map_toArray, List.map_cons, List.map_nil]); first | done | rfl | (simp only [List.length_drop, List.length_take]; rfl)) ?_; (with_reducible refine (cellarlaw1_num.calls t173 t184 _ A87.out).mono ?_); rintro e w' ⟨rfl, ⟨nd, rfl⟩⟩; refine ⟨_, rfl, ?_⟩) | (go_at_call 26; (with_reducible refine (cellarlaw1_num.calls t176 t185 _ A90.out).mono ?_); rintro e w' ⟨rfl, ⟨nd, rfl⟩⟩))
                         go_roundg kj76
                         case measure => have := HK1.out; have := HK2.out; have := HJ63.out; have := HK4.out; have := HJ76.out; omega
                         case rel => exact ⟨(wrap64 (x18_4 + 1)), (by first | rfl | (simp; done) | (simp [*]; done)), H', ⟨by have := HK1.out; have := HK2.out; have := HJ63.out; have := HK4.out; have := HJ76.out; omega⟩, ⟨by (with_reducible repeat (first | apply Kd.R_alloc | apply Kd.R_drewN | apply Kd.R_drew)); exact HO_16.out⟩, ⟨by (with_reducible repeat (first | refine blk_drewN ?_ _ | refine blk_drew ?_ | refine blk_alloc ?_ _)); exact BK133.out⟩, ⟨by repeat (first | (with_reducible first | exact HB.out | apply below_alloc | apply pw_below_drewN | apply below_drew1 | refine below_set ?_ GE133.out) | exact HB.out)⟩⟩
                        ·rw [if_neg c92] at H
                         have c92b0 : (t175 == x27_76) = false := beq_eq_false_iff_ne.mpr c92
                         have c92b1 : (t175 != x27_76) = true := bne_iff_ne.mpr c92
                         obtain rfl := Option.some.inj H
                         go_wp2_with (first | ((with_reducible refine gate_callee (f := 26) rfl ?_); refine goesL_ (some 181) rfl rfl Try.func26 (by kernel_rfl) rfl #[.int .i64 t173] rfl (by (try simp only [List.map_toArray, List.map_cons, List.map_nil]); first | done | rfl | (simp only [List.length_drop, List.length_take]; rfl)) ?_; (with_reducible refine (cellarlaw1_num.calls t173 t184 _ A87.out).mono ?_); rintro e w' ⟨rfl, ⟨nd, rfl⟩⟩; refine ⟨_, rfl, ?_⟩) | (go_at_call 26; (with_reducible refine (cellarlaw1_num.calls t176 t185 _ A90.out).mono ?_); rintro e w' ⟨rfl, ⟨nd, rfl⟩⟩))
                         go_ret
                         exact ⟨by first | rfl | (simp [errW_none, errW_some] <;> rfl) | (simp [*, errW_none, errW_some] <;> rfl), by repeat (first | (with_reducible first | exact HB.out | apply below_alloc | apply pw_below_drewN | apply below_drew1 | refine below_set ?_ GE133.out) | exact HB.out)⟩
                       ·rw [if_neg c91] at H
                        have c91b0 : (t185 == x25_76) = false := beq_eq_false_iff_ne.mpr c91
                        have c91b1 : (t185 != x25_76) = true := bne_iff_ne.mpr c91
                        obtain rfl := Option.some.inj H
                        go_wp2_with (first | ((with_reducible refine gate_callee (f := 26) rfl ?_); refine goesL_ (some 181) rfl rfl Try.func26 (by kernel_rfl) rfl #[.int .i64 t173] rfl (by (try simp only [List.map_toArray, List.map_cons, List.map_nil]); first | done | rfl | (simp only [List.length_drop, List.length_take]; rfl)) ?_; (with_reducible refine (cellarlaw1_num.calls t173 t184 _ A87.out).mono ?_); rintro e w' ⟨rfl, ⟨nd, rfl⟩⟩; refine ⟨_, rfl, ?_⟩) | (go_at_call 26; (with_reducible refine (cellarlaw1_num.calls t176 t185 _ A90.out).mono ?_); rintro e w' ⟨rfl, ⟨nd, rfl⟩⟩))
                        go_ret
                        exact ⟨by first | rfl | (simp [errW_none, errW_some] <;> rfl) | (simp [*, errW_none, errW_some] <;> rfl), by repeat (first | (with_reducible first | exact HB.out | apply below_alloc | apply pw_below_drewN | apply below_drew1 | refine below_set ?_ GE133.out) | exact HB.out)⟩
                      ·rw [if_neg c89] at H
                       have c89b0 : (t172 == x26_76) = false := beq_eq_false_iff_ne.mpr c89
                       have c89b1 : (t172 != x26_76) = true := bne_iff_ne.mpr c89
                       obtain rfl := Option.some.inj H
                       go_wp2_with (first | ((with_reducible refine gate_callee (f := 26) rfl ?_); refine goesL_ (some 181) rfl rfl Try.func26 (by kernel_rfl) rfl #[.int .i64 t173] rfl (by (try simp only [List.map_toArray, List.map_cons, List.map_nil]); first | done | rfl | (simp only [List.length_drop, List.length_take]; rfl)) ?_; (with_reducible refine (cellarlaw1_num.calls t173 t184 _ A87.out).mono ?_); rintro e w' ⟨rfl, ⟨nd, rfl⟩⟩; refine ⟨_, rfl, ?_⟩))
                       go_ret
                       exact ⟨by first | rfl | (simp [errW_none, errW_some] <;> rfl) | (simp [*, errW_none, errW_some] <;> rfl), by repeat (first | (with_reducible first | exact HB.out | apply below_alloc | apply pw_below_drewN | apply below_drew1 | refine below_set ?_ GE133.out) | exact HB.out)⟩
                     ·rw [if_neg c88] at H
                      have c88b0 : (t184 == x24_76) = false := beq_eq_false_iff_ne.mpr c88
                      have c88b1 : (t184 != x24_76) = true := bne_iff_ne.mpr c88
                      obtain rfl := Option.some.inj H
                      go_wp2_with (first | ((with_reducible refine gate_callee (f := 26) rfl ?_); refine goesL_ (some 181) rfl rfl Try.func26 (by kernel_rfl) rfl #[.int .i64 t173] rfl (by (try simp only [List.map_toArray, List.map_cons, List.map_nil]); first | done | rfl | (simp only [List.length_drop, List.length_take]; rfl)) ?_; (with_reducible refine (cellarlaw1_num.calls t173 t184 _ A87.out).mono ?_); rintro e w' ⟨rfl, ⟨nd, rfl⟩⟩; refine ⟨_, rfl, ?_⟩))
                      go_ret
                      exact ⟨by first | rfl | (simp [errW_none, errW_some] <;> rfl) | (simp [*, errW_none, errW_some] <;> rfl), by repeat (first | (with_reducible first | exact HB.out | apply below_alloc | apply pw_below_drewN | apply below_drew1 | refine below_set ?_ GE133.out) | exact HB.out)⟩
                  ·rw [if_neg c73] at H
                   exact absurd H (by simp)
                 ·rw [if_neg c72] at H
                  exact absurd H (by simp)
                ·rw [if_neg c71] at H
                 exact absurd H (by simp)
               ·rw [if_neg c70] at H
                exact absurd H (by simp)
              ·rw [if_neg c69] at H
               have c69b0 : decide (x18_4 < 5) = false := decide_eq_false c69
               clear c69
               have H' := Aside0.mk H
               clear H
               go_wp2
               go_roundg k4
               case measure => have := HK1.out; have := HK2.out; have := HJ63.out; have := HK4.out; omega
               case rel => exact ⟨(wrap64 (x17_2 + 1)), (by first | rfl | (simp; done) | (simp [*]; done)), H', ⟨by have := HK1.out; have := HK2.out; have := HJ63.out; have := HK4.out; omega⟩, ⟨by (with_reducible repeat (first | apply Kd.R_alloc | apply Kd.R_drewN | apply Kd.R_drew)); exact HO_16.out⟩, ⟨by (with_reducible repeat (first | refine blk_drewN ?_ _ | refine blk_drew ?_ | refine blk_alloc ?_ _)); exact BK133.out⟩, ⟨by repeat (first | (with_reducible first | exact HB.out | apply below_alloc | apply pw_below_drewN | apply below_drew1 | refine below_set ?_ GE133.out) | exact HB.out)⟩⟩
           ·replace c68 := Bool.eq_false_iff.mpr c68
            subst c68
            have H1 : ((cellarlaw1_wakes.f).bind fun t166 => (some t166)) = some r := by rw [if_neg (show ¬ (false = true) by decide)] at H; exact H
            clear H
            have H := H1
            clear H1
            replace H := Option.bind_eq_some_iff.mp H
            obtain ⟨t166, A930, H⟩ := H
            replace H : (some t166) = some r := H
            have A93 := Aside0.mk A930
            clear A930
            obtain rfl := Option.some.inj H
            go_wp2_with (first | ((with_reducible refine gate_callee (f := 27) rfl ?_); refine goesL_ (some 200) rfl rfl Try.func27 (by kernel_rfl) rfl #[] rfl (by (try simp only [List.map_toArray, List.map_cons, List.map_nil]); first | done | rfl | (simp only [List.length_drop, List.length_take]; rfl)) ?_; (with_reducible refine (cellarlaw1_wakes.calls  t166 _ A93.out).mono ?_); rintro e w' ⟨rfl, ⟨nd, rfl⟩⟩; refine ⟨_, rfl, ?_⟩))
            go_ret
            exact ⟨by first | rfl | (simp [errW_none, errW_some] <;> rfl) | (simp [*, errW_none, errW_some] <;> rfl), by repeat (first | (with_reducible first | exact HB.out | apply below_alloc | apply pw_below_drewN | apply below_drew1 | refine below_set ?_ GE133.out) | exact HB.out)⟩
      ·rw [if_neg c59] at H
       exact absurd H (by simp)
  ·rw [if_neg c7] at H
   exact absurd H (by simp)

end Go.Proofs.Ytjhgpankffdnaaa.A
