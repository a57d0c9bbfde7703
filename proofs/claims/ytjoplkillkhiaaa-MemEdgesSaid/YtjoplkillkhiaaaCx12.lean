-- Written by this session's own edition of the print.
import Derived.Test.YtjoplkillkhiaaaCx0
import Derived.Test.YtjoplkillkhiaaaCx1
import Derived.Test.YtjoplkillkhiaaaCx3
import Derived.Test.YtjoplkillkhiaaaCx8
import Derived.Test.YtjoplkillkhiaaaCx11
import Derived.Test.YtjoplkillkhiaaaSq
namespace Go.Proofs.Ytjoplkillkhiaaa.C
open Go.RowKit Go.Proofs.Ytjoplkillkhiaaa.Fn Go.Proofs.YtjoplkillkhiaaaW.PrintWords Go.Proofs.YtjoplkillkhiaaaW.PrintLast Go.Proofs.YtjoplkillkhiaaaW.PrintMore
attribute [local go_sem] max2_int min2_int max_two min_two max_three min_three max_four min_four   -- for this text's walks alone
set_option linter.unusedVariables false
set_option linter.unusedSimpArgs false

attribute [local go_sem high] eqA62
/-! ### cellarlaw9_MemEdges: function 6 -/
mutual
def cellarlaw9_MemEdges.l0 : Nat → Int → List (List (S76)) → List (S62) → List Int → List (S29) → Option (Bool)
 | 0, _, _, _, _, _ => none
 | k + 1, x3, x271000, x271001, x271002, x271003 => if x3 ≤ 6 then (cellarlaw9_MemEdges.l1 k x3 ([] : List (S74)) 0 x271000 x271001 x271002 x271003) else ((cellarref1_Kind.f 7).bind fun t294 => (if t294 = true then ((cellarlaw9_wakes.f k).bind fun t295 => (some t295)) else (some false)))
def cellarlaw9_MemEdges.l1 : Nat → Int → List (S74) → Int → List (List (S76)) → List (S62) → List Int → List (S29) → Option (Bool)
 | 0, _, _, _, _, _, _, _ => none
 | k + 1, x3, x4, x5, x271000, x271001, x271002, x271003 => if x5 < x3 then (if x5 = (Int.tmod (wrap64 ((x271002.length : Int) + x3)) 7) then (cellarlaw9_MemEdges.j2 k x3 x4 x5 x271000 x271001 x271002 x271003 0 0 0 0 0) else (cellarlaw9_MemEdges.j2 k x3 x4 x5 x271000 x271001 x271002 x271003 1 (wrap64 (x5 * 50)) 0 0 0)) else (cellarlaw9_MemEdges.l2 k x3 (([(⟨0, ([] : List (S74))⟩ : S76), (⟨1, x4⟩ : S76), (⟨2, ([] : List (S74))⟩ : S76), (⟨3, ([] : List (S74))⟩ : S76), (⟨0, ([] : List (S74))⟩ : S76)] : List (S76))) 0 x271000 x271001 x271002 x271003)
def cellarlaw9_MemEdges.j2 : Nat → Int → List (S74) → Int → List (List (S76)) → List (S62) → List Int → List (S29) → Int → Int → Int → Int → Int → Option (Bool)
 | 0, _, _, _, _, _, _, _, _, _, _, _, _ => none
 | k + 1, x3, x4, x5, x271000, x271001, x271002, x271003, x272000, x272001, x272002, x272003, x272004 => if x4.length < 3518437208883 then (cellarlaw9_MemEdges.l1 k x3 (x4 ++ [(⟨x272000, x272001, x272002, x272003, x272004⟩ : S74)]) (wrap64 (x5 + 1)) x271000 x271001 x271002 x271003) else (none)
def cellarlaw9_MemEdges.l2 : Nat → Int → List (S76) → Int → List (List (S76)) → List (S62) → List Int → List (S29) → Option (Bool)
 | 0, _, _, _, _, _, _, _ => none
 | k + 1, x3, x7, x8, x271000, x271001, x271002, x271003 => if x8 ≤ (wrap64 (x3 + 2)) then (cellarlaw9_MemEdges.l3 k x3 x7 x8 1 x271000 x271001 x271002 x271003) else (cellarlaw9_MemEdges.l0 k (wrap64 (x3 + 1)) x271000 x271001 x271002 x271003)
def cellarlaw9_MemEdges.l3 : Nat → Int → List (S76) → Int → Int → List (List (S76)) → List (S62) → List Int → List (S29) → Option (Bool)
 | 0, _, _, _, _, _, _, _, _ => none
 | k + 1, x3, x7, x8, x9, x271000, x271001, x271002, x271003 => if x9 ≤ 7 then (cellarlaw9_MemEdges.l4 k x3 x7 x8 x9 0 x271000 x271001 x271002 x271003) else (cellarlaw9_MemEdges.l2 k x3 x7 (wrap64 (x8 + 1)) x271000 x271001 x271002 x271003)
def cellarlaw9_MemEdges.l4 : Nat → Int → List (S76) → Int → Int → Int → List (List (S76)) → List (S62) → List Int → List (S29) → Option (Bool)
 | 0, _, _, _, _, _, _, _, _, _ => none
 | k + 1, x3, x7, x8, x9, x10, x271000, x271001, x271002, x271003 => if x10 < 5 then (if x10 = 0 then (cellarlaw9_MemEdges.j6 k x3 x7 x8 x9 x10 x271000 x271001 x271002 x271003 true 0 x10 0) else (cellarlaw9_MemEdges.j6 k x3 x7 x8 x9 x10 x271000 x271001 x271002 x271003 true 0 x10 x8)) else (cellarlaw9_MemEdges.l3 k x3 x7 x8 (wrap64 (x9 + 1)) x271000 x271001 x271002 x271003)
def cellarlaw9_MemEdges.j6 : Nat → Int → List (S76) → Int → Int → Int → List (List (S76)) → List (S62) → List Int → List (S29) → Bool → Int → Int → Int → Option (Bool)
 | 0, _, _, _, _, _, _, _, _, _, _, _, _, _ => none
 | k + 1, x3, x7, x8, x9, x10, x271000, x271001, x271002, x271003, x279000, x279001, x279002, x279003 => (mem_Load.f k ((Int.tmod x8 2) == 0) (wrap64 (2 + (wrap64 (2 * (Int.tmod x3 2))))) x7 x279000 x279001 x279002 x279003 x9).bind fun bt280 => ((cellarref7_Load.f k ((Int.tmod x8 2) == 0) (wrap64 (2 + (wrap64 (2 * (Int.tmod x3 2))))) x7 x279000 x279001 x279002 x279003 x9).bind fun bt287 => ((cellarlaw9_num.f bt280.2.2.2.2.2).bind fun t293 => (if t293 = 0 then (if (!(bt280.1 == bt287.1) || (!(bt280.2.1 == bt287.2.1) || (!(bt280.2.2.1 == bt287.2.2.1) || (!(bt280.2.2.2.1 == bt287.2.2.2.1))))) = true then (cellarlaw9_MemEdges.j7 k x3 x7 x8 x9 x10 true x271000 x271001 x271002 x271003) else (cellarlaw9_MemEdges.j7 k x3 x7 x8 x9 x10 (bt280.2.2.2.2.1 != bt287.2.2.2.2) x271000 x271001 x271002 x271003)) else (cellarlaw9_MemEdges.j7 k x3 x7 x8 x9 x10 true x271000 x271001 x271002 x271003))))
def cellarlaw9_MemEdges.j7 : Nat → Int → List (S76) → Int → Int → Int → Bool → List (List (S76)) → List (S62) → List Int → List (S29) → Option (Bool)
 | 0, _, _, _, _, _, _, _, _, _, _ => none
 | k + 1, x3, x7, x8, x9, x10, x107, x271000, x271001, x271002, x271003 => if x107 = true then (some false) else (cellarlaw9_MemEdges.l4 k x3 x7 x8 x9 (wrap64 (x10 + 1)) x271000 x271001 x271002 x271003)
end
def cellarlaw9_MemEdges.f (k : Nat) (l0_0 : List (List (S76))) (l0_1 : List (S62)) (l0_2 : List Int) (l0_3 : List (S29)) : Option (Bool) := cellarlaw9_MemEdges.l0 k 0 l0_0 l0_1 l0_2 l0_3
theorem cellarlaw9_MemEdges.mono_l : ∀ k, (∀ y0 y1 y2 y3 y4, LeO (cellarlaw9_MemEdges.l0 k y0 y1 y2 y3 y4) (cellarlaw9_MemEdges.l0 (k + 1) y0 y1 y2 y3 y4)) ∧ (∀ y0 y1 y2 y3 y4 y5 y6, LeO (cellarlaw9_MemEdges.l1 k y0 y1 y2 y3 y4 y5 y6) (cellarlaw9_MemEdges.l1 (k + 1) y0 y1 y2 y3 y4 y5 y6)) ∧ (∀ y0 y1 y2 y3 y4 y5 y6 y7 y8 y9 y10 y11, LeO (cellarlaw9_MemEdges.j2 k y0 y1 y2 y3 y4 y5 y6 y7 y8 y9 y10 y11) (cellarlaw9_MemEdges.j2 (k + 1) y0 y1 y2 y3 y4 y5 y6 y7 y8 y9 y10 y11)) ∧ (∀ y0 y1 y2 y3 y4 y5 y6, LeO (cellarlaw9_MemEdges.l2 k y0 y1 y2 y3 y4 y5 y6) (cellarlaw9_MemEdges.l2 (k + 1) y0 y1 y2 y3 y4 y5 y6)) ∧ (∀ y0 y1 y2 y3 y4 y5 y6 y7, LeO (cellarlaw9_MemEdges.l3 k y0 y1 y2 y3 y4 y5 y6 y7) (cellarlaw9_MemEdges.l3 (k + 1) y0 y1 y2 y3 y4 y5 y6 y7)) ∧ (∀ y0 y1 y2 y3 y4 y5 y6 y7 y8, LeO (cellarlaw9_MemEdges.l4 k y0 y1 y2 y3 y4 y5 y6 y7 y8) (cellarlaw9_MemEdges.l4 (k + 1) y0 y1 y2 y3 y4 y5 y6 y7 y8)) ∧ (∀ y0 y1 y2 y3 y4 y5 y6 y7 y8 y9 y10 y11 y12, LeO (cellarlaw9_MemEdges.j6 k y0 y1 y2 y3 y4 y5 y6 y7 y8 y9 y10 y11 y12) (cellarlaw9_MemEdges.j6 (k + 1) y0 y1 y2 y3 y4 y5 y6 y7 y8 y9 y10 y11 y12)) ∧ (∀ y0 y1 y2 y3 y4 y5 y6 y7 y8 y9, LeO (cellarlaw9_MemEdges.j7 k y0 y1 y2 y3 y4 y5 y6 y7 y8 y9) (cellarlaw9_MemEdges.j7 (k + 1) y0 y1 y2 y3 y4 y5 y6 y7 y8 y9))
 | 0 => ⟨fun _ _ _ _ _ r h => by simp [cellarlaw9_MemEdges.l0] at h, fun _ _ _ _ _ _ _ r h => by simp [cellarlaw9_MemEdges.l1] at h, fun _ _ _ _ _ _ _ _ _ _ _ _ r h => by simp [cellarlaw9_MemEdges.j2] at h, fun _ _ _ _ _ _ _ r h => by simp [cellarlaw9_MemEdges.l2] at h, fun _ _ _ _ _ _ _ _ r h => by simp [cellarlaw9_MemEdges.l3] at h, fun _ _ _ _ _ _ _ _ _ r h => by simp [cellarlaw9_MemEdges.l4] at h, fun _ _ _ _ _ _ _ _ _ _ _ _ _ r h => by simp [cellarlaw9_MemEdges.j6] at h, fun _ _ _ _ _ _ _ _ _ _ r h => by simp [cellarlaw9_MemEdges.j7] at h⟩
 | k + 1 => by
  obtain ⟨ih0, ih1, ih2, ih3, ih4, ih5, ih6, ih7⟩ := cellarlaw9_MemEdges.mono_l k
  refine ⟨?_, ?_, ?_, ?_, ?_, ?_, ?_, ?_⟩
  ·intro y0 y1 y2 y3 y4
   unfold cellarlaw9_MemEdges.l0
   repeat' first
   | (with_reducible exact ih0 _ _ _ _ _)
   | (with_reducible exact ih1 _ _ _ _ _ _ _)
   | (with_reducible exact ih2 _ _ _ _ _ _ _ _ _ _ _ _)
   | (with_reducible exact ih3 _ _ _ _ _ _ _)
   | (with_reducible exact ih4 _ _ _ _ _ _ _ _)
   | (with_reducible exact ih5 _ _ _ _ _ _ _ _ _)
   | (with_reducible exact ih6 _ _ _ _ _ _ _ _ _ _ _ _ _)
   | (with_reducible exact ih7 _ _ _ _ _ _ _ _ _ _)
   | (with_reducible exact cellarlaw9_wakes.mono _)
   | (with_reducible exact cellarref7_Load.mono _ _ _ _ _ _ _ _ _)
   | (with_reducible exact mem_Load.mono _ _ _ _ _ _ _ _ _)
   | (with_reducible exact LeO.refl _)
   | (with_reducible exact LeO.none _)
   | (with_reducible refine LeO.ite ?_ ?_)
   | (with_reducible refine LeO.bind ?_ (fun _ => ?_))
   | exact ih0 _ _ _ _ _
   | exact ih1 _ _ _ _ _ _ _
   | exact ih2 _ _ _ _ _ _ _ _ _ _ _ _
   | exact ih3 _ _ _ _ _ _ _
   | exact ih4 _ _ _ _ _ _ _ _
   | exact ih5 _ _ _ _ _ _ _ _ _
   | exact ih6 _ _ _ _ _ _ _ _ _ _ _ _ _
   | exact ih7 _ _ _ _ _ _ _ _ _ _
   | exact cellarlaw9_wakes.mono _
   | exact cellarref7_Load.mono _ _ _ _ _ _ _ _ _
   | exact mem_Load.mono _ _ _ _ _ _ _ _ _
   | exact LeO.none _
   | refine LeO.ite ?_ ?_
   | refine LeO.bind ?_ (fun _ => ?_)
  ·intro y0 y1 y2 y3 y4 y5 y6
   unfold cellarlaw9_MemEdges.l1
   repeat' first
   | (with_reducible exact ih0 _ _ _ _ _)
   | (with_reducible exact ih1 _ _ _ _ _ _ _)
   | (with_reducible exact ih2 _ _ _ _ _ _ _ _ _ _ _ _)
   | (with_reducible exact ih3 _ _ _ _ _ _ _)
   | (with_reducible exact ih4 _ _ _ _ _ _ _ _)
   | (with_reducible exact ih5 _ _ _ _ _ _ _ _ _)
   | (with_reducible exact ih6 _ _ _ _ _ _ _ _ _ _ _ _ _)
   | (with_reducible exact ih7 _ _ _ _ _ _ _ _ _ _)
   | (with_reducible exact cellarlaw9_wakes.mono _)
   | (with_reducible exact cellarref7_Load.mono _ _ _ _ _ _ _ _ _)
   | (with_reducible exact mem_Load.mono _ _ _ _ _ _ _ _ _)
   | (with_reducible exact LeO.refl _)
   | (with_reducible exact LeO.none _)
   | (with_reducible refine LeO.ite ?_ ?_)
   | (with_reducible refine LeO.bind ?_ (fun _ => ?_))
   | exact ih0 _ _ _ _ _
   | exact ih1 _ _ _ _ _ _ _
   | exact ih2 _ _ _ _ _ _ _ _ _ _ _ _
   | exact ih3 _ _ _ _ _ _ _
   | exact ih4 _ _ _ _ _ _ _ _
   | exact ih5 _ _ _ _ _ _ _ _ _
   | exact ih6 _ _ _ _ _ _ _ _ _ _ _ _ _
   | exact ih7 _ _ _ _ _ _ _ _ _ _
   | exact cellarlaw9_wakes.mono _
   | exact cellarref7_Load.mono _ _ _ _ _ _ _ _ _
   | exact mem_Load.mono _ _ _ _ _ _ _ _ _
   | exact LeO.none _
   | refine LeO.ite ?_ ?_
   | refine LeO.bind ?_ (fun _ => ?_)
  ·intro y0 y1 y2 y3 y4 y5 y6 y7 y8 y9 y10 y11
   unfold cellarlaw9_MemEdges.j2
   repeat' first
   | (with_reducible exact ih0 _ _ _ _ _)
   | (with_reducible exact ih1 _ _ _ _ _ _ _)
   | (with_reducible exact ih2 _ _ _ _ _ _ _ _ _ _ _ _)
   | (with_reducible exact ih3 _ _ _ _ _ _ _)
   | (with_reducible exact ih4 _ _ _ _ _ _ _ _)
   | (with_reducible exact ih5 _ _ _ _ _ _ _ _ _)
   | (with_reducible exact ih6 _ _ _ _ _ _ _ _ _ _ _ _ _)
   | (with_reducible exact ih7 _ _ _ _ _ _ _ _ _ _)
   | (with_reducible exact cellarlaw9_wakes.mono _)
   | (with_reducible exact cellarref7_Load.mono _ _ _ _ _ _ _ _ _)
   | (with_reducible exact mem_Load.mono _ _ _ _ _ _ _ _ _)
   | (with_reducible exact LeO.refl _)
   | (with_reducible exact LeO.none _)
   | (with_reducible refine LeO.ite ?_ ?_)
   | (with_reducible refine LeO.bind ?_ (fun _ => ?_))
   | exact ih0 _ _ _ _ _
   | exact ih1 _ _ _ _ _ _ _
   | exact ih2 _ _ _ _ _ _ _ _ _ _ _ _
   | exact ih3 _ _ _ _ _ _ _
   | exact ih4 _ _ _ _ _ _ _ _
   | exact ih5 _ _ _ _ _ _ _ _ _
   | exact ih6 _ _ _ _ _ _ _ _ _ _ _ _ _
   | exact ih7 _ _ _ _ _ _ _ _ _ _
   | exact cellarlaw9_wakes.mono _
   | exact cellarref7_Load.mono _ _ _ _ _ _ _ _ _
   | exact mem_Load.mono _ _ _ _ _ _ _ _ _
   | exact LeO.none _
   | refine LeO.ite ?_ ?_
   | refine LeO.bind ?_ (fun _ => ?_)
  ·intro y0 y1 y2 y3 y4 y5 y6
   unfold cellarlaw9_MemEdges.l2
   repeat' first
   | (with_reducible exact ih0 _ _ _ _ _)
   | (with_reducible exact ih1 _ _ _ _ _ _ _)
   | (with_reducible exact ih2 _ _ _ _ _ _ _ _ _ _ _ _)
   | (with_reducible exact ih3 _ _ _ _ _ _ _)
   | (with_reducible exact ih4 _ _ _ _ _ _ _ _)
   | (with_reducible exact ih5 _ _ _ _ _ _ _ _ _)
   | (with_reducible exact ih6 _ _ _ _ _ _ _ _ _ _ _ _ _)
   | (with_reducible exact ih7 _ _ _ _ _ _ _ _ _ _)
   | (with_reducible exact cellarlaw9_wakes.mono _)
   | (with_reducible exact cellarref7_Load.mono _ _ _ _ _ _ _ _ _)
   | (with_reducible exact mem_Load.mono _ _ _ _ _ _ _ _ _)
   | (with_reducible exact LeO.refl _)
   | (with_reducible exact LeO.none _)
   | (with_reducible refine LeO.ite ?_ ?_)
   | (with_reducible refine LeO.bind ?_ (fun _ => ?_))
   | exact ih0 _ _ _ _ _
   | exact ih1 _ _ _ _ _ _ _
   | exact ih2 _ _ _ _ _ _ _ _ _ _ _ _
   | exact ih3 _ _ _ _ _ _ _
   | exact ih4 _ _ _ _ _ _ _ _
   | exact ih5 _ _ _ _ _ _ _ _ _
   | exact ih6 _ _ _ _ _ _ _ _ _ _ _ _ _
   | exact ih7 _ _ _ _ _ _ _ _ _ _
   | exact cellarlaw9_wakes.mono _
   | exact cellarref7_Load.mono _ _ _ _ _ _ _ _ _
   | exact mem_Load.mono _ _ _ _ _ _ _ _ _
   | exact LeO.none _
   | refine LeO.ite ?_ ?_
   | refine LeO.bind ?_ (fun _ => ?_)
  ·intro y0 y1 y2 y3 y4 y5 y6 y7
   unfold cellarlaw9_MemEdges.l3
   repeat' first
   | (with_reducible exact ih0 _ _ _ _ _)
   | (with_reducible exact ih1 _ _ _ _ _ _ _)
   | (with_reducible exact ih2 _ _ _ _ _ _ _ _ _ _ _ _)
   | (with_reducible exact ih3 _ _ _ _ _ _ _)
   | (with_reducible exact ih4 _ _ _ _ _ _ _ _)
   | (with_reducible exact ih5 _ _ _ _ _ _ _ _ _)
   | (with_reducible exact ih6 _ _ _ _ _ _ _ _ _ _ _ _ _)
   | (with_reducible exact ih7 _ _ _ _ _ _ _ _ _ _)
   | (with_reducible exact cellarlaw9_wakes.mono _)
   | (with_reducible exact cellarref7_Load.mono _ _ _ _ _ _ _ _ _)
   | (with_reducible exact mem_Load.mono _ _ _ _ _ _ _ _ _)
   | (with_reducible exact LeO.refl _)
   | (with_reducible exact LeO.none _)
   | (with_reducible refine LeO.ite ?_ ?_)
   | (with_reducible refine LeO.bind ?_ (fun _ => ?_))
   | exact ih0 _ _ _ _ _
   | exact ih1 _ _ _ _ _ _ _
   | exact ih2 _ _ _ _ _ _ _ _ _ _ _ _
   | exact ih3 _ _ _ _ _ _ _
   | exact ih4 _ _ _ _ _ _ _ _
   | exact ih5 _ _ _ _ _ _ _ _ _
   | exact ih6 _ _ _ _ _ _ _ _ _ _ _ _ _
   | exact ih7 _ _ _ _ _ _ _ _ _ _
   | exact cellarlaw9_wakes.mono _
   | exact cellarref7_Load.mono _ _ _ _ _ _ _ _ _
   | exact mem_Load.mono _ _ _ _ _ _ _ _ _
   | exact LeO.none _
   | refine LeO.ite ?_ ?_
   | refine LeO.bind ?_ (fun _ => ?_)
  ·intro y0 y1 y2 y3 y4 y5 y6 y7 y8
   unfold cellarlaw9_MemEdges.l4
   repeat' first
   | (with_reducible exact ih0 _ _ _ _ _)
   | (with_reducible exact ih1 _ _ _ _ _ _ _)
   | (with_reducible exact ih2 _ _ _ _ _ _ _ _ _ _ _ _)
   | (with_reducible exact ih3 _ _ _ _ _ _ _)
   | (with_reducible exact ih4 _ _ _ _ _ _ _ _)
   | (with_reducible exact ih5 _ _ _ _ _ _ _ _ _)
   | (with_reducible exact ih6 _ _ _ _ _ _ _ _ _ _ _ _ _)
   | (with_reducible exact ih7 _ _ _ _ _ _ _ _ _ _)
   | (with_reducible exact cellarlaw9_wakes.mono _)
   | (with_reducible exact cellarref7_Load.mono _ _ _ _ _ _ _ _ _)
   | (with_reducible exact mem_Load.mono _ _ _ _ _ _ _ _ _)
   | (with_reducible exact LeO.refl _)
   | (with_reducible exact LeO.none _)
   | (with_reducible refine LeO.ite ?_ ?_)
   | (with_reducible refine LeO.bind ?_ (fun _ => ?_))
   | exact ih0 _ _ _ _ _
   | exact ih1 _ _ _ _ _ _ _
   | exact ih2 _ _ _ _ _ _ _ _ _ _ _ _
   | exact ih3 _ _ _ _ _ _ _
   | exact ih4 _ _ _ _ _ _ _ _
   | exact ih5 _ _ _ _ _ _ _ _ _
   | exact ih6 _ _ _ _ _ _ _ _ _ _ _ _ _
   | exact ih7 _ _ _ _ _ _ _ _ _ _
   | exact cellarlaw9_wakes.mono _
   | exact cellarref7_Load.mono _ _ _ _ _ _ _ _ _
   | exact mem_Load.mono _ _ _ _ _ _ _ _ _
   | exact LeO.none _
   | refine LeO.ite ?_ ?_
   | refine LeO.bind ?_ (fun _ => ?_)
  ·intro y0 y1 y2 y3 y4 y5 y6 y7 y8 y9 y10 y11 y12
   unfold cellarlaw9_MemEdges.j6
   repeat' first
   | (with_reducible exact ih0 _ _ _ _ _)
   | (with_reducible exact ih1 _ _ _ _ _ _ _)
   | (with_reducible exact ih2 _ _ _ _ _ _ _ _ _ _ _ _)
   | (with_reducible exact ih3 _ _ _ _ _ _ _)
   | (with_reducible exact ih4 _ _ _ _ _ _ _ _)
   | (with_reducible exact ih5 _ _ _ _ _ _ _ _ _)
   | (with_reducible exact ih6 _ _ _ _ _ _ _ _ _ _ _ _ _)
   | (with_reducible exact ih7 _ _ _ _ _ _ _ _ _ _)
   | (with_reducible exact cellarlaw9_wakes.mono _)
   | (with_reducible exact cellarref7_Load.mono _ _ _ _ _ _ _ _ _)
   | (with_reducible exact mem_Load.mono _ _ _ _ _ _ _ _ _)
   | (with_reducible exact LeO.refl _)
   | (with_reducible exact LeO.none _)
   | (with_reducible refine LeO.ite ?_ ?_)
   | (with_reducible refine LeO.bind ?_ (fun _ => ?_))
   | exact ih0 _ _ _ _ _
   | exact ih1 _ _ _ _ _ _ _
   | exact ih2 _ _ _ _ _ _ _ _ _ _ _ _
   | exact ih3 _ _ _ _ _ _ _
   | exact ih4 _ _ _ _ _ _ _ _
   | exact ih5 _ _ _ _ _ _ _ _ _
   | exact ih6 _ _ _ _ _ _ _ _ _ _ _ _ _
   | exact ih7 _ _ _ _ _ _ _ _ _ _
   | exact cellarlaw9_wakes.mono _
   | exact cellarref7_Load.mono _ _ _ _ _ _ _ _ _
   | exact mem_Load.mono _ _ _ _ _ _ _ _ _
   | exact LeO.none _
   | refine LeO.ite ?_ ?_
   | refine LeO.bind ?_ (fun _ => ?_)
  ·intro y0 y1 y2 y3 y4 y5 y6 y7 y8 y9
   unfold cellarlaw9_MemEdges.j7
   repeat' first
   | (with_reducible exact ih0 _ _ _ _ _)
   | (with_reducible exact ih1 _ _ _ _ _ _ _)
   | (with_reducible exact ih2 _ _ _ _ _ _ _ _ _ _ _ _)
   | (with_reducible exact ih3 _ _ _ _ _ _ _)
   | (with_reducible exact ih4 _ _ _ _ _ _ _ _)
   | (with_reducible exact ih5 _ _ _ _ _ _ _ _ _)
   | (with_reducible exact ih6 _ _ _ _ _ _ _ _ _ _ _ _ _)
   | (with_reducible exact ih7 _ _ _ _ _ _ _ _ _ _)
   | (with_reducible exact cellarlaw9_wakes.mono _)
   | (with_reducible exact cellarref7_Load.mono _ _ _ _ _ _ _ _ _)
   | (with_reducible exact mem_Load.mono _ _ _ _ _ _ _ _ _)
   | (with_reducible exact LeO.refl _)
   | (with_reducible exact LeO.none _)
   | (with_reducible refine LeO.ite ?_ ?_)
   | (with_reducible refine LeO.bind ?_ (fun _ => ?_))
   | exact ih0 _ _ _ _ _
   | exact ih1 _ _ _ _ _ _ _
   | exact ih2 _ _ _ _ _ _ _ _ _ _ _ _
   | exact ih3 _ _ _ _ _ _ _
   | exact ih4 _ _ _ _ _ _ _ _
   | exact ih5 _ _ _ _ _ _ _ _ _
   | exact ih6 _ _ _ _ _ _ _ _ _ _ _ _ _
   | exact ih7 _ _ _ _ _ _ _ _ _ _
   | exact cellarlaw9_wakes.mono _
   | exact cellarref7_Load.mono _ _ _ _ _ _ _ _ _
   | exact mem_Load.mono _ _ _ _ _ _ _ _ _
   | exact LeO.none _
   | refine LeO.ite ?_ ?_
   | refine LeO.bind ?_ (fun _ => ?_)
theorem cellarlaw9_MemEdges.mono : ∀ a0 a1 a2 a3 k, LeO (cellarlaw9_MemEdges.f k a0 a1 a2 a3) (cellarlaw9_MemEdges.f (k + 1) a0 a1 a2 a3) := by
 intro a0 a1 a2 a3 k
 obtain ⟨ih0, ih1, ih2, ih3, ih4, ih5, ih6, ih7⟩ := cellarlaw9_MemEdges.mono_l k
 unfold cellarlaw9_MemEdges.f
 repeat' first
   | (with_reducible exact ih0 _ _ _ _ _)
   | (with_reducible exact ih1 _ _ _ _ _ _ _)
   | (with_reducible exact ih2 _ _ _ _ _ _ _ _ _ _ _ _)
   | (with_reducible exact ih3 _ _ _ _ _ _ _)
   | (with_reducible exact ih4 _ _ _ _ _ _ _ _)
   | (with_reducible exact ih5 _ _ _ _ _ _ _ _ _)
   | (with_reducible exact ih6 _ _ _ _ _ _ _ _ _ _ _ _ _)
   | (with_reducible exact ih7 _ _ _ _ _ _ _ _ _ _)
   | (with_reducible exact cellarlaw9_wakes.mono _)
   | (with_reducible exact cellarref7_Load.mono _ _ _ _ _ _ _ _ _)
   | (with_reducible exact mem_Load.mono _ _ _ _ _ _ _ _ _)
   | (with_reducible exact LeO.refl _)
   | (with_reducible exact LeO.none _)
   | (with_reducible refine LeO.ite ?_ ?_)
   | (with_reducible refine LeO.bind ?_ (fun _ => ?_))
   | exact ih0 _ _ _ _ _
   | exact ih1 _ _ _ _ _ _ _
   | exact ih2 _ _ _ _ _ _ _ _ _ _ _ _
   | exact ih3 _ _ _ _ _ _ _
   | exact ih4 _ _ _ _ _ _ _ _
   | exact ih5 _ _ _ _ _ _ _ _ _
   | exact ih6 _ _ _ _ _ _ _ _ _ _ _ _ _
   | exact ih7 _ _ _ _ _ _ _ _ _ _
   | exact cellarlaw9_wakes.mono _
   | exact cellarref7_Load.mono _ _ _ _ _ _ _ _ _
   | exact mem_Load.mono _ _ _ _ _ _ _ _ _
   | exact LeO.none _
   | refine LeO.ite ?_ ?_
   | refine LeO.bind ?_ (fun _ => ?_)
set_option maxHeartbeats 60000000 in
set_option maxRecDepth 100000 in
theorem cellarlaw9_MemEdges.calls (k : Nat) (A0_0 : Option Addr) (c0_0 : Nat) (l0_0 : List (List (S76))) (A0_1 : Option Addr) (c0_1 : Nat) (l0_1 : List (S62)) (A0_2 : Option Addr) (c0_2 : Nat) (l0_2 : List Int) (A0_3 : Option Addr) (c0_3 : Nat) (l0_3 : List (S29)) (r : Bool) (w : World) (hr0_0 : Kd.C (Kd.slice 76 k76) w A0_0 l0_0.length l0_0) (hc0_0 : l0_0.length ≤ c0_0) (hr0_1 : Kd.C k62 w A0_1 l0_1.length l0_1) (hc0_1 : l0_1.length ≤ c0_1) (hr0_2 : Kd.C (Kd.int .i64) w A0_2 l0_2.length l0_2) (hc0_2 : l0_2.length ≤ c0_2) (hr0_3 : Kd.C k29 w A0_3 l0_3.length l0_3) (hc0_3 : l0_3.length ≤ c0_3) (h : cellarlaw9_MemEdges.f k l0_0 l0_1 l0_2 l0_3 = some r) :
  Calls Try.prog 6 #[.agg #[.slice A0_0 l0_0.length c0_0, .slice A0_1 l0_1.length c0_1, .slice A0_2 l0_2.length c0_2, .slice A0_3 l0_3.length c0_3]] w fun e w' => e = .returned (.bool r) ∧ Below w.heap.size w w' := by
 have hu54 := Try.underlying54
 have hu74 := Try.underlying74
 have hu76 := Try.underlying76
 have hu62 := Try.underlying62
 have hu29 := Try.underlying29
 have HR0_0 := Aside0.mk hr0_0
 have HC0_0 := Aside0.mk hc0_0
 clear hr0_0 hc0_0
 have HR0_1 := Aside0.mk hr0_1
 have HC0_1 := Aside0.mk hc0_1
 clear hr0_1 hc0_1
 have HR0_2 := Aside0.mk hr0_2
 have HC0_2 := Aside0.mk hc0_2
 clear hr0_2 hc0_2
 have HR0_3 := Aside0.mk hr0_3
 have HC0_3 := Aside0.mk hc0_3
 clear hr0_3 hc0_3
 have HB := Aside0.mk (Below.refl w.heap.size w)
 have H : (cellarlaw9_MemEdges.l0 k 0 l0_0 l0_1 l0_2 l0_3) = some r := h
 clear h
 have H' := Aside0.mk H
 clear H
 go_enter Try.func6, Try.ntmps6
 go_wp2_with (first | ((with_reducible refine gate_dst (N := 1) rfl ?_); refine box_event ?hg (N := 1) ?hd (cs := #[.slice A0_0 l0_0.length c0_0, .slice A0_1 l0_1.length c0_1, .slice A0_2 l0_2.length c0_2, .slice A0_3 l0_3.length c0_3]) (t := 54) ?hr ?_; (case hd => rfl); (case hg => rfl); (case hr => first | (go_simp; done) | (go_simp; rfl)); intro gb270 hg w2 hbox hb; have n0_ := Aside0.mk (below_step (zw0 HB.out) hb); have n1_ := Aside0.mk (hbox); have n2_ := Aside0.mk ((by rw [hg]; exact (below_size (zw0 HB.out)) : w.heap.size ≤ gb270)); have n3_ := Aside0.mk ((by rw [hg]; exact (below_size (zw0 HB.out)) : w.heap.size ≤ gb270)); clear HB; have HB := n0_; have BK270 := n1_; have GW270 := n2_; have GE270 := n3_; clear n0_ n1_ n2_ n3_; clear hb hbox hg))
 go_loopg [3] k (fun kq v3 w' => ∃ (x3_1 : Int), v3 = .int .i64 x3_1 ∧ Aside0 (cellarlaw9_MemEdges.l0 kq x3_1 l0_0 l0_1 l0_2 l0_3 = some r) ∧ Aside0 (kq ≤ k) ∧ Aside0 (w'.heap[gb270]? = some (.cells #[(.slice A0_0 l0_0.length c0_0), (.slice A0_1 l0_1.length c0_1), (.slice A0_2 l0_2.length c0_2), (.slice A0_3 l0_3.length c0_3)] 54 (0, 0))) ∧ Aside0 (Below w.heap.size w w'))
 case atStart => exact ⟨(0), (by first | rfl | (simp; done) | (simp [*]; done)), H', ⟨Nat.le_refl _⟩, ⟨zb BK270.out⟩, ⟨zw1 HB.out GE270.out⟩⟩
 case round =>
  clear H'
  try clear p2
  obtain ⟨x3_1, rfl, HA, HK1, BK270, HB⟩ := hrel
  cases gk with
  | zero => exact absurd HA.out (by simp [cellarlaw9_MemEdges.l0])
  | succ k1 =>
   have H := HA.out
   clear HA
   simp only [cellarlaw9_MemEdges.l0] at H
   by_cases c3 : x3_1 ≤ 6
   ·rw [if_pos c3] at H
    have c3b0 : decide (x3_1 ≤ 6) = true := decide_eq_true c3
    clear c3
    have H' := Aside0.mk H
    clear H
    go_wp2
    go_loopg [4, 5] k1 (fun kq v4 v5 w' => ∃ (x4_2 : List (S74)) (x5_2 : Int), v5 = .int .i64 x5_2 ∧ Aside0 (cellarlaw9_MemEdges.l1 kq x3_1 x4_2 x5_2 l0_0 l0_1 l0_2 l0_3 = some r) ∧ Aside0 (kq ≤ k1) ∧ Aside0 (Kd.R k74 74 w' w.heap.size (fun _ => True) v4 x4_2) ∧ Aside0 (w'.heap[gb270]? = some (.cells #[(.slice A0_0 l0_0.length c0_0), (.slice A0_1 l0_1.length c0_1), (.slice A0_2 l0_2.length c0_2), (.slice A0_3 l0_3.length c0_3)] 54 (0, 0))) ∧ Aside0 (Below w.heap.size w w'))
    case atStart => exact ⟨(([] : List (S74))), (0), (by first | rfl | (simp; done) | (simp [*]; done)), H', ⟨Nat.le_refl _⟩, ⟨by first | exact Kd.R_nil _ _ _ _ _ | exact Kd.N_nil _ _ _ _ _ | exact Kd.V_nil _ _ _ _ _ | exact Kd.Q_nil _ _ _ _ _ | exact Kd.S_nil _ _ _ _ _⟩, ⟨zb BK270.out⟩, ⟨zw1 HB.out GE270.out⟩⟩
    case round =>
     clear H'
     try clear p2
     try clear c3
     try clear c3b0
     try clear p2
     obtain ⟨x4_2, x5_2, rfl, HA, HK2, HO_4, BK270, HB⟩ := hrel
     cases gk with
     | zero => exact absurd HA.out (by simp [cellarlaw9_MemEdges.l1])
     | succ k2 =>
      have H := HA.out
      clear HA
      simp only [cellarlaw9_MemEdges.l1] at H
      by_cases c4 : x5_2 < x3_1
      ·rw [if_pos c4] at H
       have c4b0 : decide (x5_2 < x3_1) = true := decide_eq_true c4
       clear c4
       have HC5 := Aside0.mk H
       clear H
       go_upto_if 37 with (first | ((with_reducible refine gate_dst (N := 6) rfl ?_); refine box_event ?hg (N := 6) ?hd (cs := #[.int .i64 0, .int .i64 0, .int .i64 0, .int .i64 0, .int .i64 0]) (t := 74) ?hr ?_; (case hd => rfl); (case hg => rfl); (case hr => first | (go_simp; done) | (go_simp; rfl)); intro gb271 hg w6 hbox hb; have n0_ := Aside0.mk (Kd.R_below (Kd.R_elderB (by (with_reducible repeat (first | apply Kd.R_alloc | apply Kd.R_drewN | apply Kd.R_drew)); exact HO_4.out) gb271 (Nat.le_of_eq hg.symm)) hb); have n1_ := Aside0.mk (blk_below (g := gb270) (o := .cells #[.slice A0_0 l0_0.length c0_0, .slice A0_1 l0_1.length c0_1, .slice A0_2 l0_2.length c0_2, .slice A0_3 l0_3.length c0_3] 54 (0, 0)) (zb BK270.out) hb); have n2_ := Aside0.mk (below_step (zw1 HB.out GE270.out) hb); have n3_ := Aside0.mk (hbox); have n4_ := Aside0.mk ((by rw [hg]; exact (below_size (zw1 HB.out GE270.out)) : w.heap.size ≤ gb271)); have n5_ := Aside0.mk ((by rw [hg]; exact (below_size (zw1 HB.out GE270.out)) : w.heap.size ≤ gb271)); have n6_ := Aside0.mk ((by rw [hg]; exact Nat.ne_of_lt (blk_lt (g := gb270) (o := .cells #[.slice A0_0 l0_0.length c0_0, .slice A0_1 l0_1.length c0_1, .slice A0_2 l0_2.length c0_2, .slice A0_3 l0_3.length c0_3] 54 (0, 0)) (zb BK270.out)) : gb270 ≠ gb271)); have n7_ := Aside0.mk ((by rw [hg]; exact Nat.ne_of_gt (blk_lt (g := gb270) (o := .cells #[.slice A0_0 l0_0.length c0_0, .slice A0_1 l0_1.length c0_1, .slice A0_2 l0_2.length c0_2, .slice A0_3 l0_3.length c0_3] 54 (0, 0)) (zb BK270.out)) : gb271 ≠ gb270)); clear HO_4; clear BK270; clear HB; have HO_4 := n0_; have BK270 := n1_; have HB := n2_; have BK271 := n3_; have GW271 := n4_; have GE271 := n5_; have NB270_271 := n6_; have NB271_270 := n7_; clear n0_ n1_ n2_ n3_ n4_ n5_ n6_ n7_; clear hb hbox hg; have hnb7 := NB271_270.out; have hnc7 := NB270_271.out; have hcz8_0 : w6.cell? ⟨gb271, 0, none⟩ = some (.int .i64 0) := (blk_cell BK271.out 0).trans rfl; have hcz8_1 : w6.cell? ⟨gb271, 1, none⟩ = some (.int .i64 0) := (blk_cell BK271.out 1).trans rfl; have hcz8_2 : w6.cell? ⟨gb271, 2, none⟩ = some (.int .i64 0) := (blk_cell BK271.out 2).trans rfl; have hcz8_3 : w6.cell? ⟨gb271, 3, none⟩ = some (.int .i64 0) := (blk_cell BK271.out 3).trans rfl; have hcz8_4 : w6.cell? ⟨gb271, 4, none⟩ = some (.int .i64 0) := (blk_cell BK271.out 4).trans rfl; have hfz8_0 := blk_frozen BK271.out 0; have hfz8_1 := blk_frozen BK271.out 1; have hfz8_2 := blk_frozen BK271.out 2; have hfz8_3 := blk_frozen BK271.out 3; have hfz8_4 := blk_frozen BK271.out 4; have hcz9_0 : w6.cell? ⟨gb270, 0, none⟩ = some (.slice A0_0 l0_0.length c0_0) := (blk_cell BK270.out 0).trans rfl; have hcz9_1 : w6.cell? ⟨gb270, 1, none⟩ = some (.slice A0_1 l0_1.length c0_1) := (blk_cell BK270.out 1).trans rfl; have hcz9_2 : w6.cell? ⟨gb270, 2, none⟩ = some (.slice A0_2 l0_2.length c0_2) := (blk_cell BK270.out 2).trans rfl; have hcz9_3 : w6.cell? ⟨gb270, 3, none⟩ = some (.slice A0_3 l0_3.length c0_3) := (blk_cell BK270.out 3).trans rfl; have hfz9_0 := blk_frozen BK270.out 0; have hfz9_1 := blk_frozen BK270.out 1; have hfz9_2 := blk_frozen BK270.out 2; have hfz9_3 := blk_frozen BK270.out 3))
       (try simp only [Act.put, List.setIfInBounds_toArray, List.set_cons_zero, List.set_cons_succ])
       go_cut [] (fun wc => ∃ (kq : Nat) (x272000_4 : Int) (x272001_4 : Int) (x272002_4 : Int) (x272003_4 : Int) (x272004_4 : Int), Aside0 (cellarlaw9_MemEdges.j2 kq x3_1 x4_2 x5_2 l0_0 l0_1 l0_2 l0_3 x272000_4 x272001_4 x272002_4 x272003_4 x272004_4 = some r) ∧ Aside0 (kq ≤ k2) ∧ Aside0 (Kd.R k74 74 wc w.heap.size (fun k_ => k_ ≠ gb271) u4 x4_2) ∧ Aside0 (wc.heap[gb270]? = some (.cells #[(.slice A0_0 l0_0.length c0_0), (.slice A0_1 l0_1.length c0_1), (.slice A0_2 l0_2.length c0_2), (.slice A0_3 l0_3.length c0_3)] 54 (0, 0))) ∧ Aside0 (wc.heap[gb271]? = some (.cells #[.int .i64 x272000_4, .int .i64 x272001_4, .int .i64 x272002_4, .int .i64 x272003_4, .int .i64 x272004_4] 74 (0, 0))) ∧ Aside0 (Below w.heap.size w wc))
       case first =>
        have H := HC5.out
        clear HC5
        by_cases c10 : x5_2 = (Int.tmod (wrap64 ((l0_2.length : Int) + x3_1)) 7)
        ·rw [if_pos c10] at H
         have c10b0 : (x5_2 == (Int.tmod (wrap64 ((l0_2.length : Int) + x3_1)) 7)) = true := beq_iff_eq.mpr c10
         have c10b1 : (x5_2 != (Int.tmod (wrap64 ((l0_2.length : Int) + x3_1)) 7)) = false := bne_eq_false_iff_eq.mpr c10
         clear c10
         (first | rw [c10b0] | (simp only [i64_w, i32_w]; rw [c10b0]) | skip)
         have H' := Aside0.mk H
         clear H
         have hnb11 := NB271_270.out
         have hnc11 := NB270_271.out
         have hcz12_0 : w6.cell? ⟨gb271, 0, none⟩ = some (.int .i64 0) := (blk_cell BK271.out 0).trans rfl
         have hcz12_1 : w6.cell? ⟨gb271, 1, none⟩ = some (.int .i64 0) := (blk_cell BK271.out 1).trans rfl
         have hcz12_2 : w6.cell? ⟨gb271, 2, none⟩ = some (.int .i64 0) := (blk_cell BK271.out 2).trans rfl
         have hcz12_3 : w6.cell? ⟨gb271, 3, none⟩ = some (.int .i64 0) := (blk_cell BK271.out 3).trans rfl
         have hcz12_4 : w6.cell? ⟨gb271, 4, none⟩ = some (.int .i64 0) := (blk_cell BK271.out 4).trans rfl
         have hfz12_0 := blk_frozen BK271.out 0
         have hfz12_1 := blk_frozen BK271.out 1
         have hfz12_2 := blk_frozen BK271.out 2
         have hfz12_3 := blk_frozen BK271.out 3
         have hfz12_4 := blk_frozen BK271.out 4
         go_wp2
         go_meet
         case rel => exact ⟨_, (0), (0), (0), (0), (0), H', ⟨by have := HK1.out; have := HK2.out; first | omega | exact Nat.le_refl _⟩, ⟨by (with_reducible repeat (first | apply Kd.R_alloc | apply Kd.R_drewN | apply Kd.R_drew)); exact Kd.R_mono (Kd.R_far (p := ⟨gb271, 4, none⟩) (Kd.R_far (p := ⟨gb271, 3, none⟩) (Kd.R_far (p := ⟨gb271, 2, none⟩) (Kd.R_far (p := ⟨gb271, 1, none⟩) (Kd.R_far (p := ⟨gb271, 0, none⟩) (Kd.R_far (p := ⟨gb271, 4, none⟩) (Kd.R_far (p := ⟨gb271, 3, none⟩) (Kd.R_far (p := ⟨gb271, 2, none⟩) (Kd.R_far (p := ⟨gb271, 1, none⟩) (Kd.R_far (p := ⟨gb271, 0, none⟩) (Kd.R_mono HO_4.out (fun k_ hk => (⟨hk, hk.2⟩ : _ ∧ k_ ≠ gb271))) (fun _ hk => hk.2) (.int .i64 1)) (fun _ hk => hk.2) (.int .i64 (wrap64 (x5_2 * 50)))) (fun _ hk => hk.2) (.int .i64 0)) (fun _ hk => hk.2) (.int .i64 0)) (fun _ hk => hk.2) (.int .i64 0)) (fun _ hk => hk.2) (.int .i64 0)) (fun _ hk => hk.2) (.int .i64 0)) (fun _ hk => hk.2) (.int .i64 0)) (fun _ hk => hk.2) (.int .i64 0)) (fun _ hk => hk.2) (.int .i64 0)) (fun _ hk => hk.1.2)⟩, ⟨zf1 BK270.out NB270_271.out⟩, ⟨by (with_reducible repeat (first | refine blk_drewN ?_ _ | refine blk_drew ?_ | refine blk_alloc ?_ _)); refine blk_put (cs := #[.int .i64 0, .int .i64 0, .int .i64 0, .int .i64 0, .int .i64 0]) ?_ 4 _ rfl; (with_reducible repeat (first | refine blk_drewN ?_ _ | refine blk_drew ?_ | refine blk_alloc ?_ _)); refine blk_put (cs := #[.int .i64 0, .int .i64 0, .int .i64 0, .int .i64 0, .int .i64 0]) ?_ 3 _ rfl; (with_reducible repeat (first | refine blk_drewN ?_ _ | refine blk_drew ?_ | refine blk_alloc ?_ _)); refine blk_put (cs := #[.int .i64 0, .int .i64 0, .int .i64 0, .int .i64 0, .int .i64 0]) ?_ 2 _ rfl; (with_reducible repeat (first | refine blk_drewN ?_ _ | refine blk_drew ?_ | refine blk_alloc ?_ _)); refine blk_put (cs := #[.int .i64 0, .int .i64 (wrap64 (x5_2 * 50)), .int .i64 0, .int .i64 0, .int .i64 0]) ?_ 1 _ rfl; (with_reducible repeat (first | refine blk_drewN ?_ _ | refine blk_drew ?_ | refine blk_alloc ?_ _)); refine blk_put (cs := #[.int .i64 1, .int .i64 (wrap64 (x5_2 * 50)), .int .i64 0, .int .i64 0, .int .i64 0]) ?_ 0 _ rfl; (with_reducible repeat (first | refine blk_drewN ?_ _ | refine blk_drew ?_ | refine blk_alloc ?_ _)); refine blk_put (cs := #[.int .i64 1, .int .i64 (wrap64 (x5_2 * 50)), .int .i64 0, .int .i64 0, .int .i64 0]) ?_ 4 _ rfl; (with_reducible repeat (first | refine blk_drewN ?_ _ | refine blk_drew ?_ | refine blk_alloc ?_ _)); refine blk_put (cs := #[.int .i64 1, .int .i64 (wrap64 (x5_2 * 50)), .int .i64 0, .int .i64 0, .int .i64 0]) ?_ 3 _ rfl; (with_reducible repeat (first | refine blk_drewN ?_ _ | refine blk_drew ?_ | refine blk_alloc ?_ _)); refine blk_put (cs := #[.int .i64 1, .int .i64 (wrap64 (x5_2 * 50)), .int .i64 0, .int .i64 0, .int .i64 0]) ?_ 2 _ rfl; (with_reducible repeat (first | refine blk_drewN ?_ _ | refine blk_drew ?_ | refine blk_alloc ?_ _)); refine blk_put (cs := #[.int .i64 1, .int .i64 0, .int .i64 0, .int .i64 0, .int .i64 0]) ?_ 1 _ rfl; (with_reducible repeat (first | refine blk_drewN ?_ _ | refine blk_drew ?_ | refine blk_alloc ?_ _)); refine blk_put (cs := #[.int .i64 0, .int .i64 0, .int .i64 0, .int .i64 0, .int .i64 0]) ?_ 0 _ rfl; (with_reducible repeat (first | refine blk_drewN ?_ _ | refine blk_drew ?_ | refine blk_alloc ?_ _)); exact BK271.out⟩, ⟨zw2 HB.out GE270.out GE271.out⟩⟩
        ·rw [if_neg c10] at H
         have c10b0 : (x5_2 == (Int.tmod (wrap64 ((l0_2.length : Int) + x3_1)) 7)) = false := beq_eq_false_iff_ne.mpr c10
         have c10b1 : (x5_2 != (Int.tmod (wrap64 ((l0_2.length : Int) + x3_1)) 7)) = true := bne_iff_ne.mpr c10
         (first | rw [c10b0] | (simp only [i64_w, i32_w]; rw [c10b0]) | skip)
         have H' := Aside0.mk H
         clear H
         go_wp2
         go_meet
         case rel => exact ⟨_, (1), (wrap64 (x5_2 * 50)), (0), (0), (0), H', ⟨by have := HK1.out; have := HK2.out; first | omega | exact Nat.le_refl _⟩, ⟨by (with_reducible repeat (first | apply Kd.R_alloc | apply Kd.R_drewN | apply Kd.R_drew)); exact Kd.R_mono (Kd.R_far (p := ⟨gb271, 4, none⟩) (Kd.R_far (p := ⟨gb271, 3, none⟩) (Kd.R_far (p := ⟨gb271, 2, none⟩) (Kd.R_far (p := ⟨gb271, 1, none⟩) (Kd.R_far (p := ⟨gb271, 0, none⟩) (Kd.R_mono HO_4.out (fun k_ hk => (⟨hk, hk.2⟩ : _ ∧ k_ ≠ gb271))) (fun _ hk => hk.2) (.int .i64 1)) (fun _ hk => hk.2) (.int .i64 (wrap64 (x5_2 * 50)))) (fun _ hk => hk.2) (.int .i64 0)) (fun _ hk => hk.2) (.int .i64 0)) (fun _ hk => hk.2) (.int .i64 0)) (fun _ hk => hk.1.2)⟩, ⟨zf1 BK270.out NB270_271.out⟩, ⟨by (with_reducible repeat (first | refine blk_drewN ?_ _ | refine blk_drew ?_ | refine blk_alloc ?_ _)); refine blk_put (cs := #[.int .i64 1, .int .i64 (wrap64 (x5_2 * 50)), .int .i64 0, .int .i64 0, .int .i64 0]) ?_ 4 _ rfl; (with_reducible repeat (first | refine blk_drewN ?_ _ | refine blk_drew ?_ | refine blk_alloc ?_ _)); refine blk_put (cs := #[.int .i64 1, .int .i64 (wrap64 (x5_2 * 50)), .int .i64 0, .int .i64 0, .int .i64 0]) ?_ 3 _ rfl; (with_reducible repeat (first | refine blk_drewN ?_ _ | refine blk_drew ?_ | refine blk_alloc ?_ _)); refine blk_put (cs := #[.int .i64 1, .int .i64 (wrap64 (x5_2 * 50)), .int .i64 0, .int .i64 0, .int .i64 0]) ?_ 2 _ rfl; (with_reducible repeat (first | refine blk_drewN ?_ _ | refine blk_drew ?_ | refine blk_alloc ?_ _)); refine blk_put (cs := #[.int .i64 1, .int .i64 0, .int .i64 0, .int .i64 0, .int .i64 0]) ?_ 1 _ rfl; (with_reducible repeat (first | refine blk_drewN ?_ _ | refine blk_drew ?_ | refine blk_alloc ?_ _)); refine blk_put (cs := #[.int .i64 0, .int .i64 0, .int .i64 0, .int .i64 0, .int .i64 0]) ?_ 0 _ rfl; (with_reducible repeat (first | refine blk_drewN ?_ _ | refine blk_drew ?_ | refine blk_alloc ?_ _)); exact BK271.out⟩, ⟨zw2 HB.out GE270.out GE271.out⟩⟩
       case rest => as_aux_lemma =>
        clear HC5
        try clear c1
        try clear p2
        try clear c3
        try clear c3b0
        try clear c4
        try clear c4b0
        try clear c6
        try clear p6
        try clear c7
        try clear c10
        try clear c10b0
        try clear c10b1
        try clear c11
        try clear hcz12_0
        try clear hcz12_1
        try clear hcz12_2
        try clear hcz12_3
        try clear hcz12_4
        try clear hcz8_0
        try clear hcz8_1
        try clear hcz8_2
        try clear hcz8_3
        try clear hcz8_4
        try clear hcz9_0
        try clear hcz9_1
        try clear hcz9_2
        try clear hcz9_3
        try clear hfz12_0
        try clear hfz12_1
        try clear hfz12_2
        try clear hfz12_3
        try clear hfz12_4
        try clear hfz8_0
        try clear hfz8_1
        try clear hfz8_2
        try clear hfz8_3
        try clear hfz8_4
        try clear hfz9_0
        try clear hfz9_1
        try clear hfz9_2
        try clear hfz9_3
        try clear p2
        obtain ⟨kq, x272000_4, x272001_4, x272002_4, x272003_4, x272004_4, HA, HJ4, HO_4, BK270, BK271, HB⟩ := hcut
        cases kq with
        | zero => exact absurd HA.out (by simp [cellarlaw9_MemEdges.j2])
        | succ kj4 =>
         have H := HA.out
         clear HA
         simp only [cellarlaw9_MemEdges.j2] at H
         by_cases c13 : x4_2.length < 3518437208883
         ·rw [if_pos c13] at H
          have LMc13 := Aside0.mk c13
          clear c13
          obtain ⟨y272, hy272⟩ : ∃ y_ : List (S74), y_ = (x4_2 ++ [(⟨x272000_4, x272001_4, x272002_4, x272003_4, x272004_4⟩ : S74)]) := ⟨_, rfl⟩
          replace H : (cellarlaw9_MemEdges.l1 kj4 x3_1 y272 (wrap64 (x5_2 + 1)) l0_0 l0_1 l0_2 l0_3) = some r := by first | (rw [hy272]; with_reducible exact H) | (have H2_ := (Option.bind_some _ _).symm.trans H; rw [hy272]; with_reducible exact H2_) | (have H2_ := (Option.bind_some _ _).symm.trans H; with_reducible exact H2_) | with_reducible exact H | (rw [hy272]; exact H) | exact H
          have Ny272 := Aside0.mk hy272
          clear hy272
          have H' := Aside0.mk H
          clear H
          have hnb14 := NB271_270.out
          have hnc14 := NB270_271.out
          have hcz15_0 : wc.cell? ⟨gb271, 0, none⟩ = some (.int .i64 x272000_4) := (blk_cell BK271.out 0).trans rfl
          have hcz15_1 : wc.cell? ⟨gb271, 1, none⟩ = some (.int .i64 x272001_4) := (blk_cell BK271.out 1).trans rfl
          have hcz15_2 : wc.cell? ⟨gb271, 2, none⟩ = some (.int .i64 x272002_4) := (blk_cell BK271.out 2).trans rfl
          have hcz15_3 : wc.cell? ⟨gb271, 3, none⟩ = some (.int .i64 x272003_4) := (blk_cell BK271.out 3).trans rfl
          have hcz15_4 : wc.cell? ⟨gb271, 4, none⟩ = some (.int .i64 x272004_4) := (blk_cell BK271.out 4).trans rfl
          have hfz15_0 := blk_frozen BK271.out 0
          have hfz15_1 := blk_frozen BK271.out 1
          have hfz15_2 := blk_frozen BK271.out 2
          have hfz15_3 := blk_frozen BK271.out 3
          have hfz15_4 := blk_frozen BK271.out 4
          go_wp2_with (first | ((with_reducible refine gate_builtin (b := .append) (xs := #[.tmp 39, .tmp 41]) rfl ?_); at_builtin; refine Kd.R_append k74 (w0 := w) w.heap.size rfl (.tmp 39) (.tmp 41) 72 74 (.agg #[(.int .i64 0), (.int .i64 0), (.int .i64 0), (.int .i64 0), (.int .i64 0)]) 40 rfl Try.underlying72 info74 rfl (by decide) (by omega) u4 x4_2 (⟨x272000_4, x272001_4, x272002_4, x272003_4, x272004_4⟩ : S74) [.int .i64 x272000_4, .int .i64 x272001_4, .int .i64 x272002_4, .int .i64 x272003_4, .int .i64 x272004_4] (fun k_ => k_ ≠ gb271) (fun _ => False) rfl rfl ?aP (fun _ hk => hk.elim) ?aF ?aO ?aB ?aS ?aL ?_; (case aP => exact k74_mkM _ _ _ (⟨x272000_4, x272001_4, x272002_4, x272003_4, x272004_4⟩ : S74)); (case aB => exact (zw2 HB.out GE270.out GE271.out)); (case aF => exact (fun k_ hk => Kd.freshB (g := gb271) (o := .cells #[.int .i64 x272000_4, .int .i64 x272001_4, .int .i64 x272002_4, .int .i64 x272003_4, .int .i64 x272004_4] 74 (0, 0)) (zb BK271.out) k_ hk)); (case aO => exact (by (with_reducible repeat (first | apply Kd.R_alloc | apply Kd.R_drewN | apply Kd.R_drew)); exact HO_4.out)); (case aS => exact (below_size (zw2 HB.out GE270.out GE271.out))); (case aL => have := LMc13.out; omega); intro v273 w16 ho hb hg hat; rw [← Ny272.out] at ho; have n0_ := Aside0.mk (blk_grown (g := gb270) (o := .cells #[.slice A0_0 l0_0.length c0_0, .slice A0_1 l0_1.length c0_1, .slice A0_2 l0_2.length c0_2, .slice A0_3 l0_3.length c0_3] 54 (0, 0)) (zb BK270.out) hg (Kd.R_ne HO_4.out BK270.out (by decide))); have n1_ := Aside0.mk (blk_grown (g := gb271) (o := .cells #[.int .i64 x272000_4, .int .i64 x272001_4, .int .i64 x272002_4, .int .i64 x272003_4, .int .i64 x272004_4] 74 (0, 0)) (zb BK271.out) hg (Kd.R_away HO_4.out (fun _ hk => hk))); have n2_ := Aside0.mk (hb); have n3_ := Aside0.mk (ho); clear BK270; clear BK271; clear HB; clear HO_4; have BK270 := n0_; have BK271 := n1_; have HB := n2_; have HO274 := n3_; clear n0_ n1_ n2_ n3_; clear ho hb hg hat))
          go_roundg kj4
          case measure => have := HK1.out; have := HK2.out; have := HJ4.out; omega
          case rel => exact ⟨(y272), (wrap64 (x5_2 + 1)), (by first | rfl | (simp; done) | (simp [*]; done)), H', ⟨by have := HK1.out; have := HK2.out; have := HJ4.out; omega⟩, ⟨by (with_reducible repeat (first | apply Kd.R_alloc | apply Kd.R_drewN | apply Kd.R_drew)); exact Kd.R_mono HO274.out (fun _ hk => trivial)⟩, ⟨zb BK270.out⟩, ⟨zw2 HB.out GE270.out GE271.out⟩⟩
         ·rw [if_neg c13] at H
          exact absurd H (by simp)
      ·rw [if_neg c4] at H
       have c4b0 : decide (x5_2 < x3_1) = false := decide_eq_false c4
       clear c4
       obtain ⟨y275, hy275⟩ : ∃ y_ : List (S76), y_ = (([(⟨0, ([] : List (S74))⟩ : S76), (⟨1, x4_2⟩ : S76), (⟨2, ([] : List (S74))⟩ : S76), (⟨3, ([] : List (S74))⟩ : S76), (⟨0, ([] : List (S74))⟩ : S76)] : List (S76))) := ⟨_, rfl⟩
       replace H : (cellarlaw9_MemEdges.l2 k2 x3_1 y275 0 l0_0 l0_1 l0_2 l0_3) = some r := by first | (rw [hy275]; with_reducible exact H) | (have H2_ := (Option.bind_some _ _).symm.trans H; rw [hy275]; with_reducible exact H2_) | (have H2_ := (Option.bind_some _ _).symm.trans H; with_reducible exact H2_) | with_reducible exact H | (rw [hy275]; exact H) | exact H
       have Ny275 := Aside0.mk hy275
       clear hy275
       have H' := Aside0.mk H
       clear H
       obtain ⟨Ao17, co17, eo17⟩ := Kd.R_slice HO_4.out
       subst eo17
       go_wp2_with (first | ((with_reducible refine gate_dst (N := 49) rfl ?_); refine Kd.N_lit k76 _ 76 ?hg (N' := 49) ?hd (xs := ([(⟨0, ([] : List (S74))⟩ : S76), (⟨1, x4_2⟩ : S76), (⟨2, ([] : List (S74))⟩ : S76), (⟨3, ([] : List (S74))⟩ : S76), (⟨0, ([] : List (S74))⟩ : S76)] : List (S76))) (inner := [.int .i64 0, .slice none 0 0, .int .i64 1, .slice Ao17 x4_2.length co17, .int .i64 2, .slice none 0 0, .int .i64 3, .slice none 0 0, .int .i64 0, .slice none 0 0]) (ok := (fun k_ => k_ ≠ gb270)) (okp := (fun k_ => k_ ≠ gb270)) ?hr ?hp (fun _ hk => hk) ((show ∀ k_, wr.heap.size ≤ k_ → (fun k_ => k_ ≠ gb270) k_ from fun k_ hk => Kd.freshB (g := gb270) (o := .cells #[.slice A0_0 l0_0.length c0_0, .slice A0_1 l0_1.length c0_1, .slice A0_2 l0_2.length c0_2, .slice A0_3 l0_3.length c0_3] 54 (0, 0)) (zb BK270.out) k_ hk) _ (Nat.le_refl _)) (Below.refl _ _) (Nat.le_refl _) (by simp) ?_; (case hd => rfl); (case hg => rfl); (case hr => first | (go_simp; done) | (go_simp; rfl)); (case hp => exact (Reps.c2 (show Kd.FK k76 _ _ (⟨0, ([] : List (S74))⟩ : S76) [.int .i64 0, .slice none 0 0] from (k76_mkF _ _ (⟨0, ([] : List (S74))⟩ : S76) (Nat.le_refl _) (Kd.F_nil _ _ _))) (Reps.c2 (show Kd.FK k76 _ _ (⟨1, x4_2⟩ : S76) [.int .i64 1, .slice Ao17 x4_2.length co17] from (k76_mkF _ _ (⟨1, x4_2⟩ : S76) (Kd.R_reads' (Kd.R_mono (ok' := (fun k_ => k_ ≠ gb270)) (Kd.R_types (HO_4.out) BK270.out (by decide)) (fun k_ hk => hk.2))).2.1 (Kd.R_F (Kd.R_mono (ok' := (fun k_ => k_ ≠ gb270)) (Kd.R_types (HO_4.out) BK270.out (by decide)) (fun k_ hk => hk.2))))) (Reps.c2 (show Kd.FK k76 _ _ (⟨2, ([] : List (S74))⟩ : S76) [.int .i64 2, .slice none 0 0] from (k76_mkF _ _ (⟨2, ([] : List (S74))⟩ : S76) (Nat.le_refl _) (Kd.F_nil _ _ _))) (Reps.c2 (show Kd.FK k76 _ _ (⟨3, ([] : List (S74))⟩ : S76) [.int .i64 3, .slice none 0 0] from (k76_mkF _ _ (⟨3, ([] : List (S74))⟩ : S76) (Nat.le_refl _) (Kd.F_nil _ _ _))) (Reps.c2 (show Kd.FK k76 _ _ (⟨0, ([] : List (S74))⟩ : S76) [.int .i64 0, .slice none 0 0] from (k76_mkF _ _ (⟨0, ([] : List (S74))⟩ : S76) (Nat.le_refl _) (Kd.F_nil _ _ _))) (Reps.none _ _))))))); intro v276 w18 ho19 hb hg_ hnew_; clear hg_ hnew_; (first | rw [← Ny275.out] at ho19 | (simp only [Int.reduceToNat] at ho19; rw [← Ny275.out] at ho19)); have n0_ := Aside0.mk (Kd.N_lower ho19 (below_size (zw1 HB.out GE270.out))); have n1_ := Aside0.mk (blk_below (g := gb270) (o := .cells #[.slice A0_0 l0_0.length c0_0, .slice A0_1 l0_1.length c0_1, .slice A0_2 l0_2.length c0_2, .slice A0_3 l0_3.length c0_3] 54 (0, 0)) (zb BK270.out) hb); have n2_ := Aside0.mk (below_step (zw1 HB.out GE270.out) hb); clear BK270; clear HB; clear HO_4; have HO277 := n0_; have BK270 := n1_; have HB := n2_; clear n0_ n1_ n2_; clear hb ho19))
       go_loopg [8] k2 (fun kq v8 w' => ∃ (x8_3 : Int), v8 = .int .i64 x8_3 ∧ Aside0 (cellarlaw9_MemEdges.l2 kq x3_1 y275 x8_3 l0_0 l0_1 l0_2 l0_3 = some r) ∧ Aside0 (kq ≤ k2) ∧ Aside0 (Kd.N k76 76 w' w.heap.size (fun k_ => k_ ≠ gb270) v276 y275) ∧ Aside0 (w'.heap[gb270]? = some (.cells #[(.slice A0_0 l0_0.length c0_0), (.slice A0_1 l0_1.length c0_1), (.slice A0_2 l0_2.length c0_2), (.slice A0_3 l0_3.length c0_3)] 54 (0, 0))) ∧ Aside0 (Below w.heap.size w w'))
       case atStart => exact ⟨(0), (by first | rfl | (simp; done) | (simp [*]; done)), H', ⟨Nat.le_refl _⟩, ⟨by (with_reducible repeat (first | apply Kd.N_alloc | apply Kd.N_drewN | apply Kd.N_drew)); exact HO277.out⟩, ⟨zb BK270.out⟩, ⟨zw1 HB.out GE270.out⟩⟩
       case round =>
        clear H'
        try clear c1
        try clear c2
        try clear p2
        try clear c3
        try clear c3b0
        try clear c4
        try clear c4b0
        try clear c6
        try clear p6
        try clear c7
        try clear c10
        try clear c10b0
        try clear c10b1
        try clear c11
        try clear c13
        try clear c14
        try clear hcz12_0
        try clear hcz12_1
        try clear hcz12_2
        try clear hcz12_3
        try clear hcz12_4
        try clear hcz15_0
        try clear hcz15_1
        try clear hcz15_2
        try clear hcz15_3
        try clear hcz15_4
        try clear hcz8_0
        try clear hcz8_1
        try clear hcz8_2
        try clear hcz8_3
        try clear hcz8_4
        try clear hcz9_0
        try clear hcz9_1
        try clear hcz9_2
        try clear hcz9_3
        try clear hfz12_0
        try clear hfz12_1
        try clear hfz12_2
        try clear hfz12_3
        try clear hfz12_4
        try clear hfz15_0
        try clear hfz15_1
        try clear hfz15_2
        try clear hfz15_3
        try clear hfz15_4
        try clear hfz8_0
        try clear hfz8_1
        try clear hfz8_2
        try clear hfz8_3
        try clear hfz8_4
        try clear hfz9_0
        try clear hfz9_1
        try clear hfz9_2
        try clear hfz9_3
        try clear p2
        try clear p6
        obtain ⟨x8_3, rfl, HA, HK3, HO_7, BK270, HB⟩ := hrel
        cases gk with
        | zero => exact absurd HA.out (by simp [cellarlaw9_MemEdges.l2])
        | succ k3 =>
         have H := HA.out
         clear HA
         simp only [cellarlaw9_MemEdges.l2] at H
         by_cases c20 : x8_3 ≤ (wrap64 (x3_1 + 2))
         ·rw [if_pos c20] at H
          have c20b0 : decide (x8_3 ≤ (wrap64 (x3_1 + 2))) = true := decide_eq_true c20
          clear c20
          have H' := Aside0.mk H
          clear H
          go_wp2
          go_loopg [9] k3 (fun kq v9 w' => ∃ (x9_4 : Int), v9 = .int .i64 x9_4 ∧ Aside0 (cellarlaw9_MemEdges.l3 kq x3_1 y275 x8_3 x9_4 l0_0 l0_1 l0_2 l0_3 = some r) ∧ Aside0 (kq ≤ k3) ∧ Aside0 (Kd.N k76 76 w' w.heap.size (fun k_ => k_ ≠ gb270) v276 y275) ∧ Aside0 (w'.heap[gb270]? = some (.cells #[(.slice A0_0 l0_0.length c0_0), (.slice A0_1 l0_1.length c0_1), (.slice A0_2 l0_2.length c0_2), (.slice A0_3 l0_3.length c0_3)] 54 (0, 0))) ∧ Aside0 (Below w.heap.size w w'))
          case atStart => exact ⟨(1), (by first | rfl | (simp; done) | (simp [*]; done)), H', ⟨Nat.le_refl _⟩, ⟨by (with_reducible repeat (first | apply Kd.N_alloc | apply Kd.N_drewN | apply Kd.N_drew)); exact HO_7.out⟩, ⟨zb BK270.out⟩, ⟨zw1 HB.out GE270.out⟩⟩
          case round =>
           clear H'
           try clear c1
           try clear c2
           try clear p2
           try clear c3
           try clear c3b0
           try clear c4
           try clear c4b0
           try clear c6
           try clear p6
           try clear c7
           try clear c10
           try clear c10b0
           try clear c10b1
           try clear c11
           try clear c13
           try clear c14
           try clear c20
           try clear c20b0
           try clear hcz12_0
           try clear hcz12_1
           try clear hcz12_2
           try clear hcz12_3
           try clear hcz12_4
           try clear hcz15_0
           try clear hcz15_1
           try clear hcz15_2
           try clear hcz15_3
           try clear hcz15_4
           try clear hcz8_0
           try clear hcz8_1
           try clear hcz8_2
           try clear hcz8_3
           try clear hcz8_4
           try clear hcz9_0
           try clear hcz9_1
           try clear hcz9_2
           try clear hcz9_3
           try clear hfz12_0
           try clear hfz12_1
           try clear hfz12_2
           try clear hfz12_3
           try clear hfz12_4
           try clear hfz15_0
           try clear hfz15_1
           try clear hfz15_2
           try clear hfz15_3
           try clear hfz15_4
           try clear hfz8_0
           try clear hfz8_1
           try clear hfz8_2
           try clear hfz8_3
           try clear hfz8_4
           try clear hfz9_0
           try clear hfz9_1
           try clear hfz9_2
           try clear hfz9_3
           try clear p2
           try clear p6
           obtain ⟨x9_4, rfl, HA, HK4, HO_7, BK270, HB⟩ := hrel
           cases gk with
           | zero => exact absurd HA.out (by simp [cellarlaw9_MemEdges.l3])
           | succ k4 =>
            have H := HA.out
            clear HA
            simp only [cellarlaw9_MemEdges.l3] at H
            by_cases c21 : x9_4 ≤ 7
            ·rw [if_pos c21] at H
             have c21b0 : decide (x9_4 ≤ 7) = true := decide_eq_true c21
             clear c21
             have H' := Aside0.mk H
             clear H
             go_wp2
             go_loopg [10] k4 (fun kq v10 w' => ∃ (x10_5 : Int), v10 = .int .i64 x10_5 ∧ Aside0 (cellarlaw9_MemEdges.l4 kq x3_1 y275 x8_3 x9_4 x10_5 l0_0 l0_1 l0_2 l0_3 = some r) ∧ Aside0 (kq ≤ k4) ∧ Aside0 (Kd.N k76 76 w' w.heap.size (fun k_ => k_ ≠ gb270) v276 y275) ∧ Aside0 (w'.heap[gb270]? = some (.cells #[(.slice A0_0 l0_0.length c0_0), (.slice A0_1 l0_1.length c0_1), (.slice A0_2 l0_2.length c0_2), (.slice A0_3 l0_3.length c0_3)] 54 (0, 0))) ∧ Aside0 (Below w.heap.size w w'))
             case atStart => exact ⟨(0), (by first | rfl | (simp; done) | (simp [*]; done)), H', ⟨Nat.le_refl _⟩, ⟨by (with_reducible repeat (first | apply Kd.N_alloc | apply Kd.N_drewN | apply Kd.N_drew)); exact HO_7.out⟩, ⟨zb BK270.out⟩, ⟨zw1 HB.out GE270.out⟩⟩
             case round =>
              clear H'
              try clear c1
              try clear c2
              try clear p2
              try clear c3
              try clear c3b0
              try clear c4
              try clear c4b0
              try clear c6
              try clear p6
              try clear c7
              try clear c10
              try clear c10b0
              try clear c10b1
              try clear c11
              try clear c13
              try clear c14
              try clear c20
              try clear c20b0
              try clear c21
              try clear c21b0
              try clear hcz12_0
              try clear hcz12_1
              try clear hcz12_2
              try clear hcz12_3
              try clear hcz12_4
              try clear hcz15_0
              try clear hcz15_1
              try clear hcz15_2
              try clear hcz15_3
              try clear hcz15_4
              try clear hcz8_0
              try clear hcz8_1
              try clear hcz8_2
              try clear hcz8_3
              try clear hcz8_4
              try clear hcz9_0
              try clear hcz9_1
              try clear hcz9_2
              try clear hcz9_3
              try clear hfz12_0
              try clear hfz12_1
              try clear hfz12_2
              try clear hfz12_3
              try clear hfz12_4
              try clear hfz15_0
              try clear hfz15_1
              try clear hfz15_2
              try clear hfz15_3
              try clear hfz15_4
              try clear hfz8_0
              try clear hfz8_1
              try clear hfz8_2
              try clear hfz8_3
              try clear hfz8_4
              try clear hfz9_0
              try clear hfz9_1
              try clear hfz9_2
              try clear hfz9_3
              try clear p2
              try clear p6
              obtain ⟨x10_5, rfl, HA, HK5, HO_7, BK270, HB⟩ := hrel
              cases gk with
              | zero => exact absurd HA.out (by simp [cellarlaw9_MemEdges.l4])
              | succ k5 =>
               have H := HA.out
               clear HA
               simp only [cellarlaw9_MemEdges.l4] at H
               by_cases c22 : x10_5 < 5
               ·rw [if_pos c22] at H
                have c22b0 : decide (x10_5 < 5) = true := decide_eq_true c22
                clear c22
                have HC23 := Aside0.mk H
                clear H
                go_upto_if 68 with (first | ((with_reducible refine gate_dst (N := 11) rfl ?_); refine box_event ?hg (N := 11) ?hd (cs := #[.bool false, .int .i64 0, .int .i64 0, .int .i64 0]) (t := 62) ?hr ?_; (case hd => rfl); (case hg => rfl); (case hr => first | (go_simp; done) | (go_simp; rfl)); intro gb278 hg w24 hbox hb; have n0_ := Aside0.mk (Kd.N_below (Kd.N_elderB (by (with_reducible repeat (first | apply Kd.N_alloc | apply Kd.N_drewN | apply Kd.N_drew)); exact HO_7.out) gb278 (Nat.le_of_eq hg.symm)) hb); have n1_ := Aside0.mk (blk_below (g := gb270) (o := .cells #[.slice A0_0 l0_0.length c0_0, .slice A0_1 l0_1.length c0_1, .slice A0_2 l0_2.length c0_2, .slice A0_3 l0_3.length c0_3] 54 (0, 0)) (zb BK270.out) hb); have n2_ := Aside0.mk (below_step (zw1 HB.out GE270.out) hb); have n3_ := Aside0.mk (hbox); have n4_ := Aside0.mk ((by rw [hg]; exact (below_size (zw1 HB.out GE270.out)) : w.heap.size ≤ gb278)); have n5_ := Aside0.mk ((by rw [hg]; exact (below_size (zw1 HB.out GE270.out)) : w.heap.size ≤ gb278)); have n6_ := Aside0.mk ((by rw [hg]; exact Nat.ne_of_lt (blk_lt (g := gb270) (o := .cells #[.slice A0_0 l0_0.length c0_0, .slice A0_1 l0_1.length c0_1, .slice A0_2 l0_2.length c0_2, .slice A0_3 l0_3.length c0_3] 54 (0, 0)) (zb BK270.out)) : gb270 ≠ gb278)); have n7_ := Aside0.mk ((by rw [hg]; exact Nat.ne_of_gt (blk_lt (g := gb270) (o := .cells #[.slice A0_0 l0_0.length c0_0, .slice A0_1 l0_1.length c0_1, .slice A0_2 l0_2.length c0_2, .slice A0_3 l0_3.length c0_3] 54 (0, 0)) (zb BK270.out)) : gb278 ≠ gb270)); clear HO_7; clear BK270; clear HB; have HO_7 := n0_; have BK270 := n1_; have HB := n2_; have BK278 := n3_; have GW278 := n4_; have GE278 := n5_; have NB270_278 := n6_; have NB278_270 := n7_; clear n0_ n1_ n2_ n3_ n4_ n5_ n6_ n7_; clear hb hbox hg; have hnb25 := NB278_270.out; have hnc25 := NB270_278.out; have hcz26_0 : w24.cell? ⟨gb278, 0, none⟩ = some (.bool false) := (blk_cell BK278.out 0).trans rfl; have hcz26_1 : w24.cell? ⟨gb278, 1, none⟩ = some (.int .i64 0) := (blk_cell BK278.out 1).trans rfl; have hcz26_2 : w24.cell? ⟨gb278, 2, none⟩ = some (.int .i64 0) := (blk_cell BK278.out 2).trans rfl; have hcz26_3 : w24.cell? ⟨gb278, 3, none⟩ = some (.int .i64 0) := (blk_cell BK278.out 3).trans rfl; have hfz26_0 := blk_frozen BK278.out 0; have hfz26_1 := blk_frozen BK278.out 1; have hfz26_2 := blk_frozen BK278.out 2; have hfz26_3 := blk_frozen BK278.out 3))
                (try simp only [Act.put, List.setIfInBounds_toArray, List.set_cons_zero, List.set_cons_succ])
                go_cut [] (fun wc => ∃ (kq : Nat) (x279003_22 : Int), Aside0 (cellarlaw9_MemEdges.j6 kq x3_1 y275 x8_3 x9_4 x10_5 l0_0 l0_1 l0_2 l0_3 true 0 x10_5 x279003_22 = some r) ∧ Aside0 (kq ≤ k5) ∧ Aside0 (Kd.N k76 76 wc w.heap.size (fun k_ => k_ ≠ gb270 ∧ k_ ≠ gb278) v276 y275) ∧ Aside0 (wc.heap[gb270]? = some (.cells #[(.slice A0_0 l0_0.length c0_0), (.slice A0_1 l0_1.length c0_1), (.slice A0_2 l0_2.length c0_2), (.slice A0_3 l0_3.length c0_3)] 54 (0, 0))) ∧ Aside0 (wc.heap[gb278]? = some (.cells #[.bool true, .int .i64 0, .int .i64 x10_5, .int .i64 x279003_22] 62 (0, 0))) ∧ Aside0 (Below w.heap.size w wc))
                case first =>
                 have H := HC23.out
                 clear HC23
                 by_cases c27 : x10_5 = 0
                 ·rw [if_pos c27] at H
                  have c27b0 : (x10_5 == 0) = true := beq_iff_eq.mpr c27
                  have c27b1 : (x10_5 != 0) = false := bne_eq_false_iff_eq.mpr c27
                  clear c27
                  (first | rw [c27b0] | (simp only [i64_w, i32_w]; rw [c27b0]) | skip)
                  have H' := Aside0.mk H
                  clear H
                  have hnb28 := NB278_270.out
                  have hnc28 := NB270_278.out
                  have hcz29_0 : w24.cell? ⟨gb278, 0, none⟩ = some (.bool false) := (blk_cell BK278.out 0).trans rfl
                  have hcz29_1 : w24.cell? ⟨gb278, 1, none⟩ = some (.int .i64 0) := (blk_cell BK278.out 1).trans rfl
                  have hcz29_2 : w24.cell? ⟨gb278, 2, none⟩ = some (.int .i64 0) := (blk_cell BK278.out 2).trans rfl
                  have hcz29_3 : w24.cell? ⟨gb278, 3, none⟩ = some (.int .i64 0) := (blk_cell BK278.out 3).trans rfl
                  have hfz29_0 := blk_frozen BK278.out 0
                  have hfz29_1 := blk_frozen BK278.out 1
                  have hfz29_2 := blk_frozen BK278.out 2
                  have hfz29_3 := blk_frozen BK278.out 3
                  go_wp2
                  go_meet
                  case rel => exact ⟨_, (0), H', ⟨by have := HK1.out; have := HK2.out; have := HK3.out; have := HK4.out; have := HK5.out; first | omega | exact Nat.le_refl _⟩, ⟨by (with_reducible repeat (first | apply Kd.N_alloc | apply Kd.N_drewN | apply Kd.N_drew)); exact Kd.N_mono (Kd.N_far (p := ⟨gb278, 3, none⟩) (Kd.N_far (p := ⟨gb278, 3, none⟩) (Kd.N_far (p := ⟨gb278, 2, none⟩) (Kd.N_far (p := ⟨gb278, 1, none⟩) (Kd.N_far (p := ⟨gb278, 0, none⟩) (Kd.N_mono HO_7.out (fun k_ hk => (⟨hk, hk.2⟩ : _ ∧ k_ ≠ gb278))) (fun _ hk => hk.2) (.bool true)) (fun _ hk => hk.2) (.int .i64 0)) (fun _ hk => hk.2) (.int .i64 x10_5)) (fun _ hk => hk.2) (.int .i64 x8_3)) (fun _ hk => hk.2) (.int .i64 0)) (fun _ hk => ⟨hk.1.1, hk.1.2⟩)⟩, ⟨zf1 BK270.out NB270_278.out⟩, ⟨by (with_reducible repeat (first | refine blk_drewN ?_ _ | refine blk_drew ?_ | refine blk_alloc ?_ _)); refine blk_put (cs := #[.bool true, .int .i64 0, .int .i64 x10_5, .int .i64 x8_3]) ?_ 3 _ rfl; (with_reducible repeat (first | refine blk_drewN ?_ _ | refine blk_drew ?_ | refine blk_alloc ?_ _)); refine blk_put (cs := #[.bool true, .int .i64 0, .int .i64 x10_5, .int .i64 0]) ?_ 3 _ rfl; (with_reducible repeat (first | refine blk_drewN ?_ _ | refine blk_drew ?_ | refine blk_alloc ?_ _)); refine blk_put (cs := #[.bool true, .int .i64 0, .int .i64 0, .int .i64 0]) ?_ 2 _ rfl; (with_reducible repeat (first | refine blk_drewN ?_ _ | refine blk_drew ?_ | refine blk_alloc ?_ _)); refine blk_put (cs := #[.bool true, .int .i64 0, .int .i64 0, .int .i64 0]) ?_ 1 _ rfl; (with_reducible repeat (first | refine blk_drewN ?_ _ | refine blk_drew ?_ | refine blk_alloc ?_ _)); refine blk_put (cs := #[.bool false, .int .i64 0, .int .i64 0, .int .i64 0]) ?_ 0 _ rfl; (with_reducible repeat (first | refine blk_drewN ?_ _ | refine blk_drew ?_ | refine blk_alloc ?_ _)); exact BK278.out⟩, ⟨zw2 HB.out GE270.out GE278.out⟩⟩
                 ·rw [if_neg c27] at H
                  have c27b0 : (x10_5 == 0) = false := beq_eq_false_iff_ne.mpr c27
                  have c27b1 : (x10_5 != 0) = true := bne_iff_ne.mpr c27
                  (first | rw [c27b0] | (simp only [i64_w, i32_w]; rw [c27b0]) | skip)
                  have H' := Aside0.mk H
                  clear H
                  go_wp2
                  go_meet
                  case rel => exact ⟨_, (x8_3), H', ⟨by have := HK1.out; have := HK2.out; have := HK3.out; have := HK4.out; have := HK5.out; first | omega | exact Nat.le_refl _⟩, ⟨by (with_reducible repeat (first | apply Kd.N_alloc | apply Kd.N_drewN | apply Kd.N_drew)); exact Kd.N_mono (Kd.N_far (p := ⟨gb278, 3, none⟩) (Kd.N_far (p := ⟨gb278, 2, none⟩) (Kd.N_far (p := ⟨gb278, 1, none⟩) (Kd.N_far (p := ⟨gb278, 0, none⟩) (Kd.N_mono HO_7.out (fun k_ hk => (⟨hk, hk.2⟩ : _ ∧ k_ ≠ gb278))) (fun _ hk => hk.2) (.bool true)) (fun _ hk => hk.2) (.int .i64 0)) (fun _ hk => hk.2) (.int .i64 x10_5)) (fun _ hk => hk.2) (.int .i64 x8_3)) (fun _ hk => ⟨hk.1.1, hk.1.2⟩)⟩, ⟨zf1 BK270.out NB270_278.out⟩, ⟨by (with_reducible repeat (first | refine blk_drewN ?_ _ | refine blk_drew ?_ | refine blk_alloc ?_ _)); refine blk_put (cs := #[.bool true, .int .i64 0, .int .i64 x10_5, .int .i64 0]) ?_ 3 _ rfl; (with_reducible repeat (first | refine blk_drewN ?_ _ | refine blk_drew ?_ | refine blk_alloc ?_ _)); refine blk_put (cs := #[.bool true, .int .i64 0, .int .i64 0, .int .i64 0]) ?_ 2 _ rfl; (with_reducible repeat (first | refine blk_drewN ?_ _ | refine blk_drew ?_ | refine blk_alloc ?_ _)); refine blk_put (cs := #[.bool true, .int .i64 0, .int .i64 0, .int .i64 0]) ?_ 1 _ rfl; (with_reducible repeat (first | refine blk_drewN ?_ _ | refine blk_drew ?_ | refine blk_alloc ?_ _)); refine blk_put (cs := #[.bool false, .int .i64 0, .int .i64 0, .int .i64 0]) ?_ 0 _ rfl; (with_reducible repeat (first | refine blk_drewN ?_ _ | refine blk_drew ?_ | refine blk_alloc ?_ _)); exact BK278.out⟩, ⟨zw2 HB.out GE270.out GE278.out⟩⟩
                case rest => as_aux_lemma =>
                 clear HC23
                 try clear c1
                 try clear c2
                 try clear p2
                 try clear c3
                 try clear c3b0
                 try clear c4
                 try clear c4b0
                 try clear c6
                 try clear p6
                 try clear c7
                 try clear c10
                 try clear c10b0
                 try clear c10b1
                 try clear c11
                 try clear c13
                 try clear c14
                 try clear c20
                 try clear c20b0
                 try clear c21
                 try clear c21b0
                 try clear c22
                 try clear c22b0
                 try clear c25
                 try clear c27
                 try clear c27b0
                 try clear c27b1
                 try clear c28
                 try clear hcz12_0
                 try clear hcz12_1
                 try clear hcz12_2
                 try clear hcz12_3
                 try clear hcz12_4
                 try clear hcz15_0
                 try clear hcz15_1
                 try clear hcz15_2
                 try clear hcz15_3
                 try clear hcz15_4
                 try clear hcz26_0
                 try clear hcz26_1
                 try clear hcz26_2
                 try clear hcz26_3
                 try clear hcz29_0
                 try clear hcz29_1
                 try clear hcz29_2
                 try clear hcz29_3
                 try clear hcz8_0
                 try clear hcz8_1
                 try clear hcz8_2
                 try clear hcz8_3
                 try clear hcz8_4
                 try clear hcz9_0
                 try clear hcz9_1
                 try clear hcz9_2
                 try clear hcz9_3
                 try clear hfz12_0
                 try clear hfz12_1
                 try clear hfz12_2
                 try clear hfz12_3
                 try clear hfz12_4
                 try clear hfz15_0
                 try clear hfz15_1
                 try clear hfz15_2
                 try clear hfz15_3
                 try clear hfz15_4
                 try clear hfz26_0
                 try clear hfz26_1
                 try clear hfz26_2
                 try clear hfz26_3
                 try clear hfz29_0
                 try clear hfz29_1
                 try clear hfz29_2
                 try clear hfz29_3
                 try clear hfz8_0
                 try clear hfz8_1
                 try clear hfz8_2
                 try clear hfz8_3
                 try clear hfz8_4
                 try clear hfz9_0
                 try clear hfz9_1
                 try clear hfz9_2
                 try clear hfz9_3
                 try clear p2
                 try clear p6
                 obtain ⟨kq, x279003_22, HA, HJ22, HO_7, BK270, BK278, HB⟩ := hcut
                 cases kq with
                 | zero => exact absurd HA.out (by simp [cellarlaw9_MemEdges.j6])
                 | succ kj22 =>
                  have H := HA.out
                  clear HA
                  simp only [cellarlaw9_MemEdges.j6] at H
                  replace H := Option.bind_eq_some_iff.mp H
                  obtain ⟨⟨t280, t281, t282, t283, t284, t285⟩, A300, H⟩ := H
                  replace H : ((cellarref7_Load.f kj22 ((Int.tmod x8_3 2) == 0) (wrap64 (2 + (wrap64 (2 * (Int.tmod x3_1 2))))) y275 true 0 x10_5 x279003_22 x9_4).bind fun bt287 => ((cellarlaw9_num.f t285).bind fun t293 => (if t293 = 0 then (if (!(t280 == bt287.1) || (!(t281 == bt287.2.1) || (!(t282 == bt287.2.2.1) || (!(t283 == bt287.2.2.2.1))))) = true then (cellarlaw9_MemEdges.j7 kj22 x3_1 y275 x8_3 x9_4 x10_5 true l0_0 l0_1 l0_2 l0_3) else (cellarlaw9_MemEdges.j7 kj22 x3_1 y275 x8_3 x9_4 x10_5 (t284 != bt287.2.2.2.2) l0_0 l0_1 l0_2 l0_3)) else (cellarlaw9_MemEdges.j7 kj22 x3_1 y275 x8_3 x9_4 x10_5 true l0_0 l0_1 l0_2 l0_3)))) = some r := H
                  have A30 := Aside0.mk A300
                  clear A300
                  replace H := Option.bind_eq_some_iff.mp H
                  obtain ⟨⟨t287, t288, t289, t290, t291⟩, A310, H⟩ := H
                  replace H : ((cellarlaw9_num.f t285).bind fun t293 => (if t293 = 0 then (if (!(t280 == t287) || (!(t281 == t288) || (!(t282 == t289) || (!(t283 == t290))))) = true then (cellarlaw9_MemEdges.j7 kj22 x3_1 y275 x8_3 x9_4 x10_5 true l0_0 l0_1 l0_2 l0_3) else (cellarlaw9_MemEdges.j7 kj22 x3_1 y275 x8_3 x9_4 x10_5 (t284 != t291) l0_0 l0_1 l0_2 l0_3)) else (cellarlaw9_MemEdges.j7 kj22 x3_1 y275 x8_3 x9_4 x10_5 true l0_0 l0_1 l0_2 l0_3))) = some r := H
                  have A31 := Aside0.mk A310
                  clear A310
                  have HC32 := Aside0.mk H
                  clear H
                  go_upto_region 28 with (first | ((with_reducible refine gate_dst (N := 12) rfl ?_); refine box_event ?hg (N := 12) ?hd (cs := #[.bool false, .int .i64 0]) (t := 29) ?hr ?_; (case hd => rfl); (case hg => rfl); (case hr => first | (go_simp; done) | (go_simp; rfl)); intro gb279 hg w33 hbox hb; have n0_ := Aside0.mk (Kd.N_below (Kd.N_elderB (by (with_reducible repeat (first | apply Kd.N_alloc | apply Kd.N_drewN | apply Kd.N_drew)); exact HO_7.out) gb279 (Nat.le_of_eq hg.symm)) hb); have n1_ := Aside0.mk (blk_below (g := gb270) (o := .cells #[.slice A0_0 l0_0.length c0_0, .slice A0_1 l0_1.length c0_1, .slice A0_2 l0_2.length c0_2, .slice A0_3 l0_3.length c0_3] 54 (0, 0)) (zb BK270.out) hb); have n2_ := Aside0.mk (blk_below (g := gb278) (o := .cells #[.bool true, .int .i64 0, .int .i64 x10_5, .int .i64 x279003_22] 62 (0, 0)) (zb BK278.out) hb); have n3_ := Aside0.mk (below_step (zw2 HB.out GE270.out GE278.out) hb); have n4_ := Aside0.mk (hbox); have n5_ := Aside0.mk ((by rw [hg]; exact (below_size (zw2 HB.out GE270.out GE278.out)) : w.heap.size ≤ gb279)); have n6_ := Aside0.mk ((by rw [hg]; exact (below_size (zw2 HB.out GE270.out GE278.out)) : w.heap.size ≤ gb279)); have n7_ := Aside0.mk ((by rw [hg]; exact Nat.ne_of_lt (blk_lt (g := gb270) (o := .cells #[.slice A0_0 l0_0.length c0_0, .slice A0_1 l0_1.length c0_1, .slice A0_2 l0_2.length c0_2, .slice A0_3 l0_3.length c0_3] 54 (0, 0)) (zb BK270.out)) : gb270 ≠ gb279)); have n8_ := Aside0.mk ((by rw [hg]; exact Nat.ne_of_gt (blk_lt (g := gb270) (o := .cells #[.slice A0_0 l0_0.length c0_0, .slice A0_1 l0_1.length c0_1, .slice A0_2 l0_2.length c0_2, .slice A0_3 l0_3.length c0_3] 54 (0, 0)) (zb BK270.out)) : gb279 ≠ gb270)); have n9_ := Aside0.mk ((by rw [hg]; exact Nat.ne_of_lt (blk_lt (g := gb278) (o := .cells #[.bool true, .int .i64 0, .int .i64 x10_5, .int .i64 x279003_22] 62 (0, 0)) (zb BK278.out)) : gb278 ≠ gb279)); have n10_ := Aside0.mk ((by rw [hg]; exact Nat.ne_of_gt (blk_lt (g := gb278) (o := .cells #[.bool true, .int .i64 0, .int .i64 x10_5, .int .i64 x279003_22] 62 (0, 0)) (zb BK278.out)) : gb279 ≠ gb278)); clear HO_7; clear BK270; clear BK278; clear HB; have HO_7 := n0_; have BK270 := n1_; have BK278 := n2_; have HB := n3_; have BK279 := n4_; have GW279 := n5_; have GE279 := n6_; have NB270_279 := n7_; have NB279_270 := n8_; have NB278_279 := n9_; have NB279_278 := n10_; clear n0_ n1_ n2_ n3_ n4_ n5_ n6_ n7_ n8_ n9_ n10_; clear hb hbox hg; have hnb34 := NB279_270.out; have hnc34 := NB270_279.out; have hnb35 := NB279_278.out; have hnc35 := NB278_279.out; have hcz36_0 : w33.cell? ⟨gb279, 0, none⟩ = some (.bool false) := (blk_cell BK279.out 0).trans rfl; have hcz36_1 : w33.cell? ⟨gb279, 1, none⟩ = some (.int .i64 0) := (blk_cell BK279.out 1).trans rfl; have hfz36_0 := blk_frozen BK279.out 0; have hfz36_1 := blk_frozen BK279.out 1; have hnb37 := NB278_270.out; have hnc37 := NB270_278.out; have hcz38_0 : w33.cell? ⟨gb278, 0, none⟩ = some (.bool true) := (blk_cell BK278.out 0).trans rfl; have hcz38_1 : w33.cell? ⟨gb278, 1, none⟩ = some (.int .i64 0) := (blk_cell BK278.out 1).trans rfl; have hcz38_2 : w33.cell? ⟨gb278, 2, none⟩ = some (.int .i64 x10_5) := (blk_cell BK278.out 2).trans rfl; have hcz38_3 : w33.cell? ⟨gb278, 3, none⟩ = some (.int .i64 x279003_22) := (blk_cell BK278.out 3).trans rfl; have hfz38_0 := blk_frozen BK278.out 0; have hfz38_1 := blk_frozen BK278.out 1; have hfz38_2 := blk_frozen BK278.out 2; have hfz38_3 := blk_frozen BK278.out 3; obtain ⟨Ao39, co39, eo39⟩ := Kd.N_slice HO_7.out; subst eo39) | ((with_reducible refine gate_callee (f := 39) rfl ?_); refine goesL_ (some 83) rfl rfl Try.func39 (by kernel_rfl) rfl #[.agg #[.bool ((Int.tmod x8_3 2) == 0), .int .i64 (wrap64 (2 + (wrap64 (2 * (Int.tmod x3_1 2)))))], .slice Ao39 y275.length co39, .agg #[.bool true, .int .i64 0, .int .i64 x10_5, .int .i64 x279003_22], .int .i64 x9_4] rfl (by (try simp only [List.map_toArray, List.map_cons, List.map_nil]); first | done | rfl | (simp only [List.length_drop, List.length_take]; rfl)) ?_; (with_reducible refine (mem_Load.calls kj22 ((Int.tmod x8_3 2) == 0) (wrap64 (2 + (wrap64 (2 * (Int.tmod x3_1 2))))) _ _ y275 true 0 x10_5 x279003_22 x9_4 t280 t281 t282 t283 t284 t285 _ ?side1 ?side2 A30.out).mono ?_); (case side1 => refine (Kd.N_reads' (e := 76) (base := w.heap.size) (ok := fun k_ => ((k_ ≠ gb270 ∧ k_ ≠ gb278) ∧ k_ ≠ gb279)) (n := y275.length) (c := co39) ?_).2.2; exact (by (with_reducible repeat (first | apply Kd.N_alloc | apply Kd.N_drewN | apply Kd.N_drew)); exact (Kd.N_mono (Kd.N_far (p := ⟨gb279, 1, none⟩) (Kd.N_far (p := ⟨gb279, 0, none⟩) (Kd.N_mono HO_7.out (fun k_ hk => (⟨hk, hk.2⟩ : _ ∧ k_ ≠ gb279))) (fun _ hk => hk.2) (.bool ((Int.tmod x8_3 2) == 0))) (fun _ hk => hk.2) (.int .i64 (wrap64 (2 + (wrap64 (2 * (Int.tmod x3_1 2))))))) (fun _ h_ => h_.1)))); (case side2 => exact (Kd.N_reads' HO_7.out).2.1); rintro e w40 ⟨rfl, hb⟩; refine ⟨_, rfl, ?_⟩; have n0_ := Aside0.mk (Kd.N_below (by (with_reducible repeat (first | apply Kd.N_alloc | apply Kd.N_drewN | apply Kd.N_drew)); exact (Kd.N_mono (Kd.N_far (p := ⟨gb279, 1, none⟩) (Kd.N_far (p := ⟨gb279, 0, none⟩) (Kd.N_mono HO_7.out (fun k_ hk => (⟨hk, hk.2⟩ : _ ∧ k_ ≠ gb279))) (fun _ hk => hk.2) (.bool ((Int.tmod x8_3 2) == 0))) (fun _ hk => hk.2) (.int .i64 (wrap64 (2 + (wrap64 (2 * (Int.tmod x3_1 2))))))) (fun _ h_ => h_.1))) hb); have n1_ := Aside0.mk (blk_below (g := gb270) (o := .cells #[.slice A0_0 l0_0.length c0_0, .slice A0_1 l0_1.length c0_1, .slice A0_2 l0_2.length c0_2, .slice A0_3 l0_3.length c0_3] 54 (0, 0)) (zf1 BK270.out NB270_279.out) hb); have n2_ := Aside0.mk (blk_below (g := gb278) (o := .cells #[.bool true, .int .i64 0, .int .i64 x10_5, .int .i64 x279003_22] 62 (0, 0)) (zf1 BK278.out NB278_279.out) hb); have n3_ := Aside0.mk (blk_below (g := gb279) (o := .cells #[.bool ((Int.tmod x8_3 2) == 0), .int .i64 (wrap64 (2 + (wrap64 (2 * (Int.tmod x3_1 2)))))] 29 (0, 0)) (by (with_reducible repeat (first | refine blk_drewN ?_ _ | refine blk_drew ?_ | refine blk_alloc ?_ _)); refine blk_put (cs := #[.bool ((Int.tmod x8_3 2) == 0), .int .i64 0]) ?_ 1 _ rfl; (with_reducible repeat (first | refine blk_drewN ?_ _ | refine blk_drew ?_ | refine blk_alloc ?_ _)); refine blk_put (cs := #[.bool false, .int .i64 0]) ?_ 0 _ rfl; (with_reducible repeat (first | refine blk_drewN ?_ _ | refine blk_drew ?_ | refine blk_alloc ?_ _)); exact BK279.out) hb); have n4_ := Aside0.mk (below_step (zw3 HB.out GE270.out GE278.out GE279.out) hb); clear HO_7; clear BK270; clear BK278; clear BK279; clear HB; have HO_7 := n0_; have BK270 := n1_; have BK278 := n2_; have BK279 := n3_; have HB := n4_; clear n0_ n1_ n2_ n3_ n4_; (try clear hb); (try clear hb2); (try clear hk); (try clear hi)) | ((with_reducible refine gate_dst (N := 13) rfl ?_); refine box_event ?hg (N := 13) ?hd (cs := #[.bool false, .int .i64 0, .int .i64 0, .int .i64 0]) (t := 62) ?hr ?_; (case hd => rfl); (case hg => rfl); (case hr => first | (go_simp; done) | (go_simp; rfl)); intro gb286 hg w41 hbox hb; have n0_ := Aside0.mk (Kd.N_below (Kd.N_elderB (by (with_reducible repeat (first | apply Kd.N_alloc | apply Kd.N_drewN | apply Kd.N_drew)); exact HO_7.out) gb286 (Nat.le_of_eq hg.symm)) hb); have n1_ := Aside0.mk (blk_below (g := gb270) (o := .cells #[.slice A0_0 l0_0.length c0_0, .slice A0_1 l0_1.length c0_1, .slice A0_2 l0_2.length c0_2, .slice A0_3 l0_3.length c0_3] 54 (0, 0)) (zb BK270.out) hb); have n2_ := Aside0.mk (blk_below (g := gb278) (o := .cells #[.bool true, .int .i64 0, .int .i64 x10_5, .int .i64 x279003_22] 62 (0, 0)) (zb BK278.out) hb); have n3_ := Aside0.mk (blk_below (g := gb279) (o := .cells #[.bool ((Int.tmod x8_3 2) == 0), .int .i64 (wrap64 (2 + (wrap64 (2 * (Int.tmod x3_1 2)))))] 29 (0, 0)) (zb BK279.out) hb); have n4_ := Aside0.mk (below_step (zw3 HB.out GE270.out GE278.out GE279.out) hb); have n5_ := Aside0.mk (hbox); have n6_ := Aside0.mk ((by rw [hg]; exact (below_size (zw3 HB.out GE270.out GE278.out GE279.out)) : w.heap.size ≤ gb286)); have n7_ := Aside0.mk ((by rw [hg]; exact (below_size (zw3 HB.out GE270.out GE278.out GE279.out)) : w.heap.size ≤ gb286)); have n8_ := Aside0.mk ((by rw [hg]; exact Nat.ne_of_lt (blk_lt (g := gb270) (o := .cells #[.slice A0_0 l0_0.length c0_0, .slice A0_1 l0_1.length c0_1, .slice A0_2 l0_2.length c0_2, .slice A0_3 l0_3.length c0_3] 54 (0, 0)) (zb BK270.out)) : gb270 ≠ gb286)); have n9_ := Aside0.mk ((by rw [hg]; exact Nat.ne_of_gt (blk_lt (g := gb270) (o := .cells #[.slice A0_0 l0_0.length c0_0, .slice A0_1 l0_1.length c0_1, .slice A0_2 l0_2.length c0_2, .slice A0_3 l0_3.length c0_3] 54 (0, 0)) (zb BK270.out)) : gb286 ≠ gb270)); have n10_ := Aside0.mk ((by rw [hg]; exact Nat.ne_of_lt (blk_lt (g := gb278) (o := .cells #[.bool true, .int .i64 0, .int .i64 x10_5, .int .i64 x279003_22] 62 (0, 0)) (zb BK278.out)) : gb278 ≠ gb286)); have n11_ := Aside0.mk ((by rw [hg]; exact Nat.ne_of_gt (blk_lt (g := gb278) (o := .cells #[.bool true, .int .i64 0, .int .i64 x10_5, .int .i64 x279003_22] 62 (0, 0)) (zb BK278.out)) : gb286 ≠ gb278)); have n12_ := Aside0.mk ((by rw [hg]; exact Nat.ne_of_lt (blk_lt (g := gb279) (o := .cells #[.bool ((Int.tmod x8_3 2) == 0), .int .i64 (wrap64 (2 + (wrap64 (2 * (Int.tmod x3_1 2)))))] 29 (0, 0)) (zb BK279.out)) : gb279 ≠ gb286)); have n13_ := Aside0.mk ((by rw [hg]; exact Nat.ne_of_gt (blk_lt (g := gb279) (o := .cells #[.bool ((Int.tmod x8_3 2) == 0), .int .i64 (wrap64 (2 + (wrap64 (2 * (Int.tmod x3_1 2)))))] 29 (0, 0)) (zb BK279.out)) : gb286 ≠ gb279)); clear HO_7; clear BK270; clear BK278; clear BK279; clear HB; have HO_7 := n0_; have BK270 := n1_; have BK278 := n2_; have BK279 := n3_; have HB := n4_; have BK286 := n5_; have GW286 := n6_; have GE286 := n7_; have NB270_286 := n8_; have NB286_270 := n9_; have NB278_286 := n10_; have NB286_278 := n11_; have NB279_286 := n12_; have NB286_279 := n13_; clear n0_ n1_ n2_ n3_ n4_ n5_ n6_ n7_ n8_ n9_ n10_ n11_ n12_ n13_; clear hb hbox hg; have hnb42 := NB286_270.out; have hnc42 := NB270_286.out; have hnb43 := NB286_278.out; have hnc43 := NB278_286.out; have hnb44 := NB286_279.out; have hnc44 := NB279_286.out; have hcz45_0 : w41.cell? ⟨gb286, 0, none⟩ = some (.bool false) := (blk_cell BK286.out 0).trans rfl; have hcz45_1 : w41.cell? ⟨gb286, 1, none⟩ = some (.int .i64 0) := (blk_cell BK286.out 1).trans rfl; have hcz45_2 : w41.cell? ⟨gb286, 2, none⟩ = some (.int .i64 0) := (blk_cell BK286.out 2).trans rfl; have hcz45_3 : w41.cell? ⟨gb286, 3, none⟩ = some (.int .i64 0) := (blk_cell BK286.out 3).trans rfl; have hfz45_0 := blk_frozen BK286.out 0; have hfz45_1 := blk_frozen BK286.out 1; have hfz45_2 := blk_frozen BK286.out 2; have hfz45_3 := blk_frozen BK286.out 3; have hcz46_0 : w41.cell? ⟨gb279, 0, none⟩ = some (.bool ((Int.tmod x8_3 2) == 0)) := (blk_cell BK279.out 0).trans rfl; have hcz46_1 : w41.cell? ⟨gb279, 1, none⟩ = some (.int .i64 (wrap64 (2 + (wrap64 (2 * (Int.tmod x3_1 2)))))) := (blk_cell BK279.out 1).trans rfl; have hfz46_0 := blk_frozen BK279.out 0; have hfz46_1 := blk_frozen BK279.out 1; have hcz47_0 : w41.cell? ⟨gb278, 0, none⟩ = some (.bool true) := (blk_cell BK278.out 0).trans rfl; have hcz47_1 : w41.cell? ⟨gb278, 1, none⟩ = some (.int .i64 0) := (blk_cell BK278.out 1).trans rfl; have hcz47_2 : w41.cell? ⟨gb278, 2, none⟩ = some (.int .i64 x10_5) := (blk_cell BK278.out 2).trans rfl; have hcz47_3 : w41.cell? ⟨gb278, 3, none⟩ = some (.int .i64 x279003_22) := (blk_cell BK278.out 3).trans rfl; have hfz47_0 := blk_frozen BK278.out 0; have hfz47_1 := blk_frozen BK278.out 1; have hfz47_2 := blk_frozen BK278.out 2; have hfz47_3 := blk_frozen BK278.out 3) | ((with_reducible refine gate_callee (f := 40) rfl ?_); refine goesL_ (some 92) rfl rfl Try.func40 (by kernel_rfl) rfl #[.agg #[.bool ((Int.tmod x8_3 2) == 0), .int .i64 (wrap64 (2 + (wrap64 (2 * (Int.tmod x3_1 2)))))], .slice Ao39 y275.length co39, .agg #[.bool true, .int .i64 0, .int .i64 x10_5, .int .i64 x279003_22], .int .i64 x9_4] rfl (by (try simp only [List.map_toArray, List.map_cons, List.map_nil]); first | done | rfl | (simp only [List.length_drop, List.length_take]; rfl)) ?_; (with_reducible refine (cellarref7_Load.calls kj22 ((Int.tmod x8_3 2) == 0) (wrap64 (2 + (wrap64 (2 * (Int.tmod x3_1 2))))) _ _ y275 true 0 x10_5 x279003_22 x9_4 t287 t288 t289 t290 t291 _ ?side1 ?side2 A31.out).mono ?_); (case side1 => refine (Kd.N_reads' (e := 76) (base := w.heap.size) (ok := fun k_ => (((k_ ≠ gb270 ∧ k_ ≠ gb278) ∧ k_ ≠ gb279) ∧ k_ ≠ gb286)) (n := y275.length) (c := co39) ?_).2.2; exact (by (with_reducible repeat (first | apply Kd.N_alloc | apply Kd.N_drewN | apply Kd.N_drew)); exact (Kd.N_mono (Kd.N_far (p := ⟨gb286, 3, none⟩) (Kd.N_far (p := ⟨gb286, 2, none⟩) (Kd.N_far (p := ⟨gb286, 1, none⟩) (Kd.N_far (p := ⟨gb286, 0, none⟩) (Kd.N_mono HO_7.out (fun k_ hk => (⟨hk, hk.2⟩ : _ ∧ k_ ≠ gb286))) (fun _ hk => hk.2) (.bool t280)) (fun _ hk => hk.2) (.int .i64 t281)) (fun _ hk => hk.2) (.int .i64 t282)) (fun _ hk => hk.2) (.int .i64 t283)) (fun _ h_ => h_.1)))); (case side2 => exact (Kd.N_reads' HO_7.out).2.1); rintro e w48 ⟨rfl, hb⟩; refine ⟨_, rfl, ?_⟩; have n0_ := Aside0.mk (Kd.N_below (by (with_reducible repeat (first | apply Kd.N_alloc | apply Kd.N_drewN | apply Kd.N_drew)); exact (Kd.N_mono (Kd.N_far (p := ⟨gb286, 3, none⟩) (Kd.N_far (p := ⟨gb286, 2, none⟩) (Kd.N_far (p := ⟨gb286, 1, none⟩) (Kd.N_far (p := ⟨gb286, 0, none⟩) (Kd.N_mono HO_7.out (fun k_ hk => (⟨hk, hk.2⟩ : _ ∧ k_ ≠ gb286))) (fun _ hk => hk.2) (.bool t280)) (fun _ hk => hk.2) (.int .i64 t281)) (fun _ hk => hk.2) (.int .i64 t282)) (fun _ hk => hk.2) (.int .i64 t283)) (fun _ h_ => h_.1))) hb); have n1_ := Aside0.mk (blk_below (g := gb270) (o := .cells #[.slice A0_0 l0_0.length c0_0, .slice A0_1 l0_1.length c0_1, .slice A0_2 l0_2.length c0_2, .slice A0_3 l0_3.length c0_3] 54 (0, 0)) (zf1 BK270.out NB270_286.out) hb); have n2_ := Aside0.mk (blk_below (g := gb278) (o := .cells #[.bool true, .int .i64 0, .int .i64 x10_5, .int .i64 x279003_22] 62 (0, 0)) (zf1 BK278.out NB278_286.out) hb); have n3_ := Aside0.mk (blk_below (g := gb279) (o := .cells #[.bool ((Int.tmod x8_3 2) == 0), .int .i64 (wrap64 (2 + (wrap64 (2 * (Int.tmod x3_1 2)))))] 29 (0, 0)) (zf1 BK279.out NB279_286.out) hb); have n4_ := Aside0.mk (blk_below (g := gb286) (o := .cells #[.bool t280, .int .i64 t281, .int .i64 t282, .int .i64 t283] 62 (0, 0)) (by (with_reducible repeat (first | refine blk_drewN ?_ _ | refine blk_drew ?_ | refine blk_alloc ?_ _)); refine blk_put (cs := #[.bool t280, .int .i64 t281, .int .i64 t282, .int .i64 0]) ?_ 3 _ rfl; (with_reducible repeat (first | refine blk_drewN ?_ _ | refine blk_drew ?_ | refine blk_alloc ?_ _)); refine blk_put (cs := #[.bool t280, .int .i64 t281, .int .i64 0, .int .i64 0]) ?_ 2 _ rfl; (with_reducible repeat (first | refine blk_drewN ?_ _ | refine blk_drew ?_ | refine blk_alloc ?_ _)); refine blk_put (cs := #[.bool t280, .int .i64 0, .int .i64 0, .int .i64 0]) ?_ 1 _ rfl; (with_reducible repeat (first | refine blk_drewN ?_ _ | refine blk_drew ?_ | refine blk_alloc ?_ _)); refine blk_put (cs := #[.bool false, .int .i64 0, .int .i64 0, .int .i64 0]) ?_ 0 _ rfl; (with_reducible repeat (first | refine blk_drewN ?_ _ | refine blk_drew ?_ | refine blk_alloc ?_ _)); exact BK286.out) hb); have n5_ := Aside0.mk (below_step (zw4 HB.out GE270.out GE278.out GE279.out GE286.out) hb); clear HO_7; clear BK270; clear BK278; clear BK279; clear BK286; clear HB; have HO_7 := n0_; have BK270 := n1_; have BK278 := n2_; have BK279 := n3_; have BK286 := n4_; have HB := n5_; clear n0_ n1_ n2_ n3_ n4_ n5_; (try clear hb); (try clear hb2); (try clear hk); (try clear hi)) | ((with_reducible refine gate_dst (N := 16) rfl ?_); refine box_event ?hg (N := 16) ?hd (cs := #[.bool false, .int .i64 0, .int .i64 0, .int .i64 0]) (t := 62) ?hr ?_; (case hd => rfl); (case hg => rfl); (case hr => first | (go_simp; done) | (go_simp; rfl)); intro gb292 hg w49 hbox hb; have n0_ := Aside0.mk (Kd.N_below (Kd.N_elderB (by (with_reducible repeat (first | apply Kd.N_alloc | apply Kd.N_drewN | apply Kd.N_drew)); exact HO_7.out) gb292 (Nat.le_of_eq hg.symm)) hb); have n1_ := Aside0.mk (blk_below (g := gb270) (o := .cells #[.slice A0_0 l0_0.length c0_0, .slice A0_1 l0_1.length c0_1, .slice A0_2 l0_2.length c0_2, .slice A0_3 l0_3.length c0_3] 54 (0, 0)) (zb BK270.out) hb); have n2_ := Aside0.mk (blk_below (g := gb278) (o := .cells #[.bool true, .int .i64 0, .int .i64 x10_5, .int .i64 x279003_22] 62 (0, 0)) (zb BK278.out) hb); have n3_ := Aside0.mk (blk_below (g := gb279) (o := .cells #[.bool ((Int.tmod x8_3 2) == 0), .int .i64 (wrap64 (2 + (wrap64 (2 * (Int.tmod x3_1 2)))))] 29 (0, 0)) (zb BK279.out) hb); have n4_ := Aside0.mk (blk_below (g := gb286) (o := .cells #[.bool t280, .int .i64 t281, .int .i64 t282, .int .i64 t283] 62 (0, 0)) (zb BK286.out) hb); have n5_ := Aside0.mk (below_step (zw4 HB.out GE270.out GE278.out GE279.out GE286.out) hb); have n6_ := Aside0.mk (hbox); have n7_ := Aside0.mk ((by rw [hg]; exact (below_size (zw4 HB.out GE270.out GE278.out GE279.out GE286.out)) : w.heap.size ≤ gb292)); have n8_ := Aside0.mk ((by rw [hg]; exact (below_size (zw4 HB.out GE270.out GE278.out GE279.out GE286.out)) : w.heap.size ≤ gb292)); have n9_ := Aside0.mk ((by rw [hg]; exact Nat.ne_of_lt (blk_lt (g := gb270) (o := .cells #[.slice A0_0 l0_0.length c0_0, .slice A0_1 l0_1.length c0_1, .slice A0_2 l0_2.length c0_2, .slice A0_3 l0_3.length c0_3] 54 (0, 0)) (zb BK270.out)) : gb270 ≠ gb292)); have n10_ := Aside0.mk ((by rw [hg]; exact Nat.ne_of_gt (blk_lt (g := gb270) (o := .cells #[.slice A0_0 l0_0.length c0_0, .slice A0_1 l0_1.length c0_1, .slice A0_2 l0_2.length c0_2, .slice A0_3 l0_3.length c0_3] 54 (0, 0)) (zb BK270.out)) : gb292 ≠ gb270)); have n11_ := Aside0.mk ((by rw [hg]; exact Nat.ne_of_lt (blk_lt (g := gb278) (o := .cells #[.bool true, .int .i64 0, .int .i64 x10_5, .int .i64 x279003_22] 62 (0, 0)) (zb BK278.out)) : gb278 ≠ gb292)); have n12_ := Aside0.mk ((by rw [hg]; exact Nat.ne_of_gt (blk_lt (g := gb278) (o := .cells #[.bool true, .int .i64 0, .int .i64 x10_5, .int .i64 x279003_22] 62 (0, 0)) (zb BK278.out)) : gb292 ≠ gb278)); have n13_ := Aside0.mk ((by rw [hg]; exact Nat.ne_of_lt (blk_lt (g := gb279) (o := .cells #[.bool ((Int.tmod x8_3 2) == 0), .int .i64 (wrap64 (2 + (wrap64 (2 * (Int.tmod x3_1 2)))))] 29 (0, 0)) (zb BK279.out)) : gb279 ≠ gb292)); have n14_ := Aside0.mk ((by rw [hg]; exact Nat.ne_of_gt (blk_lt (g := gb279) (o := .cells #[.bool ((Int.tmod x8_3 2) == 0), .int .i64 (wrap64 (2 + (wrap64 (2 * (Int.tmod x3_1 2)))))] 29 (0, 0)) (zb BK279.out)) : gb292 ≠ gb279)); have n15_ := Aside0.mk ((by rw [hg]; exact Nat.ne_of_lt (blk_lt (g := gb286) (o := .cells #[.bool t280, .int .i64 t281, .int .i64 t282, .int .i64 t283] 62 (0, 0)) (zb BK286.out)) : gb286 ≠ gb292)); have n16_ := Aside0.mk ((by rw [hg]; exact Nat.ne_of_gt (blk_lt (g := gb286) (o := .cells #[.bool t280, .int .i64 t281, .int .i64 t282, .int .i64 t283] 62 (0, 0)) (zb BK286.out)) : gb292 ≠ gb286)); clear HO_7; clear BK270; clear BK278; clear BK279; clear BK286; clear HB; have HO_7 := n0_; have BK270 := n1_; have BK278 := n2_; have BK279 := n3_; have BK286 := n4_; have HB := n5_; have BK292 := n6_; have GW292 := n7_; have GE292 := n8_; have NB270_292 := n9_; have NB292_270 := n10_; have NB278_292 := n11_; have NB292_278 := n12_; have NB279_292 := n13_; have NB292_279 := n14_; have NB286_292 := n15_; have NB292_286 := n16_; clear n0_ n1_ n2_ n3_ n4_ n5_ n6_ n7_ n8_ n9_ n10_ n11_ n12_ n13_ n14_ n15_ n16_; clear hb hbox hg; have hnb50 := NB292_270.out; have hnc50 := NB270_292.out; have hnb51 := NB292_278.out; have hnc51 := NB278_292.out; have hnb52 := NB292_279.out; have hnc52 := NB279_292.out; have hnb53 := NB292_286.out; have hnc53 := NB286_292.out; have hcz54_0 : w49.cell? ⟨gb292, 0, none⟩ = some (.bool false) := (blk_cell BK292.out 0).trans rfl; have hcz54_1 : w49.cell? ⟨gb292, 1, none⟩ = some (.int .i64 0) := (blk_cell BK292.out 1).trans rfl; have hcz54_2 : w49.cell? ⟨gb292, 2, none⟩ = some (.int .i64 0) := (blk_cell BK292.out 2).trans rfl; have hcz54_3 : w49.cell? ⟨gb292, 3, none⟩ = some (.int .i64 0) := (blk_cell BK292.out 3).trans rfl; have hfz54_0 := blk_frozen BK292.out 0; have hfz54_1 := blk_frozen BK292.out 1; have hfz54_2 := blk_frozen BK292.out 2; have hfz54_3 := blk_frozen BK292.out 3))
                  (try simp only [Act.put, List.setIfInBounds_toArray, List.set_cons_zero, List.set_cons_succ])
                  go_cut [107] (fun v107 wc => ∃ (kq : Nat) (x107_31 : Bool), v107 = .bool x107_31 ∧ Aside0 (cellarlaw9_MemEdges.j7 kq x3_1 y275 x8_3 x9_4 x10_5 x107_31 l0_0 l0_1 l0_2 l0_3 = some r) ∧ Aside0 (kq ≤ kj22) ∧ Aside0 (Kd.N k76 76 wc w.heap.size (fun k_ => k_ ≠ gb270 ∧ k_ ≠ gb278 ∧ k_ ≠ gb279 ∧ k_ ≠ gb286 ∧ k_ ≠ gb292) (.slice Ao39 y275.length co39) y275) ∧ Aside0 (wc.heap[gb270]? = some (.cells #[(.slice A0_0 l0_0.length c0_0), (.slice A0_1 l0_1.length c0_1), (.slice A0_2 l0_2.length c0_2), (.slice A0_3 l0_3.length c0_3)] 54 (0, 0))) ∧ Aside0 (wc.heap[gb278]? = some (.cells #[.bool true, .int .i64 0, .int .i64 x10_5, .int .i64 x279003_22] 62 (0, 0))) ∧ Aside0 (wc.heap[gb279]? = some (.cells #[.bool ((Int.tmod x8_3 2) == 0), .int .i64 (wrap64 (2 + (wrap64 (2 * (Int.tmod x3_1 2)))))] 29 (0, 0))) ∧ Aside0 (wc.heap[gb286]? = some (.cells #[.bool t280, .int .i64 t281, .int .i64 t282, .int .i64 t283] 62 (0, 0))) ∧ Aside0 (wc.heap[gb292]? = some (.cells #[.bool t287, .int .i64 t288, .int .i64 t289, .int .i64 t290] 62 (0, 0))) ∧ Aside0 (Below w.heap.size w wc))
                  case first =>
                   have H := HC32.out
                   clear HC32
                   replace H := Option.bind_eq_some_iff.mp H
                   obtain ⟨t293, A550, H⟩ := H
                   replace H : (if t293 = 0 then (if (!(t280 == t287) || (!(t281 == t288) || (!(t282 == t289) || (!(t283 == t290))))) = true then (cellarlaw9_MemEdges.j7 kj22 x3_1 y275 x8_3 x9_4 x10_5 true l0_0 l0_1 l0_2 l0_3) else (cellarlaw9_MemEdges.j7 kj22 x3_1 y275 x8_3 x9_4 x10_5 (t284 != t291) l0_0 l0_1 l0_2 l0_3)) else (cellarlaw9_MemEdges.j7 kj22 x3_1 y275 x8_3 x9_4 x10_5 true l0_0 l0_1 l0_2 l0_3)) = some r := H
                   have A55 := Aside0.mk A550
                   clear A550
                   by_cases c56 : t293 = 0
                   ·rw [if_pos c56] at H
                    have c56b0 : (t293 == 0) = true := beq_iff_eq.mpr c56
                    have c56b1 : (t293 != 0) = false := bne_eq_false_iff_eq.mpr c56
                    clear c56
                    (first | rw [c56b0] | (simp only [i64_w, i32_w]; rw [c56b0]) | skip)
                    by_cases c57 : (!(t280 == t287) || (!(t281 == t288) || (!(t282 == t289) || (!(t283 == t290))))) = true
                    ·rw [if_pos c57] at H
                     have c57b0 : (!(t280 == t287) || (!(t281 == t288) || (!(t282 == t289) || (!(t283 == t290))))) = true := c57
                     clear c57
                     have H' := Aside0.mk H
                     clear H
                     go_wp2_with (first | ((with_reducible refine gate_callee (f := 35) rfl ?_); refine goesL_ (some 96) rfl rfl Try.func35 (by kernel_rfl) rfl #[.int .i64 t285] rfl (by (try simp only [List.map_toArray, List.map_cons, List.map_nil]); first | done | rfl | (simp only [List.length_drop, List.length_take]; rfl)) ?_; (with_reducible refine (cellarlaw9_num.calls t285 t293 _ A55.out).mono ?_); rintro e w' ⟨rfl, ⟨nd, rfl⟩⟩; refine ⟨_, rfl, ?_⟩; have hnb58 := NB286_270.out; have hnc58 := NB270_286.out; have hnb59 := NB286_278.out; have hnc59 := NB278_286.out; have hnb60 := NB286_279.out; have hnc60 := NB279_286.out; have hnb61 := NB286_292.out; have hnc61 := NB292_286.out; have hcz62_0 : w49.cell? ⟨gb286, 0, none⟩ = some (.bool t280) := (blk_cell BK286.out 0).trans rfl; have hcz62_1 : w49.cell? ⟨gb286, 1, none⟩ = some (.int .i64 t281) := (blk_cell BK286.out 1).trans rfl; have hcz62_2 : w49.cell? ⟨gb286, 2, none⟩ = some (.int .i64 t282) := (blk_cell BK286.out 2).trans rfl; have hcz62_3 : w49.cell? ⟨gb286, 3, none⟩ = some (.int .i64 t283) := (blk_cell BK286.out 3).trans rfl; have hfz62_0 := blk_frozen BK286.out 0; have hfz62_1 := blk_frozen BK286.out 1; have hfz62_2 := blk_frozen BK286.out 2; have hfz62_3 := blk_frozen BK286.out 3; have hnb63 := NB292_270.out; have hnc63 := NB270_292.out; have hnb64 := NB292_278.out; have hnc64 := NB278_292.out; have hnb65 := NB292_279.out; have hnc65 := NB279_292.out; have hcz66_0 : w49.cell? ⟨gb292, 0, none⟩ = some (.bool false) := (blk_cell BK292.out 0).trans rfl; have hcz66_1 : w49.cell? ⟨gb292, 1, none⟩ = some (.int .i64 0) := (blk_cell BK292.out 1).trans rfl; have hcz66_2 : w49.cell? ⟨gb292, 2, none⟩ = some (.int .i64 0) := (blk_cell BK292.out 2).trans rfl; have hcz66_3 : w49.cell? ⟨gb292, 3, none⟩ = some (.int .i64 0) := (blk_cell BK292.out 3).trans rfl; have hfz66_0 := blk_frozen BK292.out 0; have hfz66_1 := blk_frozen BK292.out 1; have hfz66_2 := blk_frozen BK292.out 2; have hfz66_3 := blk_frozen BK292.out 3))
                     go_meet
                     case rel => exact ⟨_, (true), (by first | rfl | (simp; done) | (simp [*]; done)), H', ⟨by have := HK1.out; have := HK2.out; have := HK3.out; have := HK4.out; have := HK5.out; have := HJ22.out; first | omega | exact Nat.le_refl _⟩, ⟨by (with_reducible repeat (first | apply Kd.N_alloc | apply Kd.N_drewN | apply Kd.N_drew)); exact Kd.N_mono (Kd.N_far (p := ⟨gb292, 3, none⟩) (Kd.N_far (p := ⟨gb292, 2, none⟩) (Kd.N_far (p := ⟨gb292, 1, none⟩) (Kd.N_far (p := ⟨gb292, 0, none⟩) (Kd.N_mono HO_7.out (fun k_ hk => (⟨hk, hk.2⟩ : _ ∧ k_ ≠ gb292))) (fun _ hk => hk.2) (.bool t287)) (fun _ hk => hk.2) (.int .i64 t288)) (fun _ hk => hk.2) (.int .i64 t289)) (fun _ hk => hk.2) (.int .i64 t290)) (fun _ hk => ⟨hk.1.1.1.1.1, ⟨hk.1.1.1.1.2, ⟨hk.1.1.1.2, ⟨hk.1.1.2, hk.1.2⟩⟩⟩⟩)⟩, ⟨zf1 BK270.out NB270_292.out⟩, ⟨zf1 BK278.out NB278_292.out⟩, ⟨zf1 BK279.out NB279_292.out⟩, ⟨zf1 BK286.out NB286_292.out⟩, ⟨by (with_reducible repeat (first | refine blk_drewN ?_ _ | refine blk_drew ?_ | refine blk_alloc ?_ _)); refine blk_put (cs := #[.bool t287, .int .i64 t288, .int .i64 t289, .int .i64 0]) ?_ 3 _ rfl; (with_reducible repeat (first | refine blk_drewN ?_ _ | refine blk_drew ?_ | refine blk_alloc ?_ _)); refine blk_put (cs := #[.bool t287, .int .i64 t288, .int .i64 0, .int .i64 0]) ?_ 2 _ rfl; (with_reducible repeat (first | refine blk_drewN ?_ _ | refine blk_drew ?_ | refine blk_alloc ?_ _)); refine blk_put (cs := #[.bool t287, .int .i64 0, .int .i64 0, .int .i64 0]) ?_ 1 _ rfl; (with_reducible repeat (first | refine blk_drewN ?_ _ | refine blk_drew ?_ | refine blk_alloc ?_ _)); refine blk_put (cs := #[.bool false, .int .i64 0, .int .i64 0, .int .i64 0]) ?_ 0 _ rfl; (with_reducible repeat (first | refine blk_drewN ?_ _ | refine blk_drew ?_ | refine blk_alloc ?_ _)); exact BK292.out⟩, ⟨by repeat (first | (with_reducible first | exact HB.out | apply below_alloc | apply pw_below_drewN | apply below_drew1 | refine below_set ?_ GE270.out | refine below_set ?_ GE278.out | refine below_set ?_ GE279.out | refine below_set ?_ GE286.out | refine below_set ?_ GE292.out) | exact HB.out)⟩⟩
                    ·rw [if_neg c57] at H
                     have c57b0 : (!(t280 == t287) || (!(t281 == t288) || (!(t282 == t289) || (!(t283 == t290))))) = false := by simpa using c57
                     clear c57
                     have H' := Aside0.mk H
                     clear H
                     go_wp2_with (first | ((with_reducible refine gate_callee (f := 35) rfl ?_); refine goesL_ (some 96) rfl rfl Try.func35 (by kernel_rfl) rfl #[.int .i64 t285] rfl (by (try simp only [List.map_toArray, List.map_cons, List.map_nil]); first | done | rfl | (simp only [List.length_drop, List.length_take]; rfl)) ?_; (with_reducible refine (cellarlaw9_num.calls t285 t293 _ A55.out).mono ?_); rintro e w' ⟨rfl, ⟨nd, rfl⟩⟩; refine ⟨_, rfl, ?_⟩; have hnb67 := NB286_270.out; have hnc67 := NB270_286.out; have hnb68 := NB286_278.out; have hnc68 := NB278_286.out; have hnb69 := NB286_279.out; have hnc69 := NB279_286.out; have hnb70 := NB286_292.out; have hnc70 := NB292_286.out; have hcz71_0 : w49.cell? ⟨gb286, 0, none⟩ = some (.bool t280) := (blk_cell BK286.out 0).trans rfl; have hcz71_1 : w49.cell? ⟨gb286, 1, none⟩ = some (.int .i64 t281) := (blk_cell BK286.out 1).trans rfl; have hcz71_2 : w49.cell? ⟨gb286, 2, none⟩ = some (.int .i64 t282) := (blk_cell BK286.out 2).trans rfl; have hcz71_3 : w49.cell? ⟨gb286, 3, none⟩ = some (.int .i64 t283) := (blk_cell BK286.out 3).trans rfl; have hfz71_0 := blk_frozen BK286.out 0; have hfz71_1 := blk_frozen BK286.out 1; have hfz71_2 := blk_frozen BK286.out 2; have hfz71_3 := blk_frozen BK286.out 3; have hnb72 := NB292_270.out; have hnc72 := NB270_292.out; have hnb73 := NB292_278.out; have hnc73 := NB278_292.out; have hnb74 := NB292_279.out; have hnc74 := NB279_292.out; have hcz75_0 : w49.cell? ⟨gb292, 0, none⟩ = some (.bool false) := (blk_cell BK292.out 0).trans rfl; have hcz75_1 : w49.cell? ⟨gb292, 1, none⟩ = some (.int .i64 0) := (blk_cell BK292.out 1).trans rfl; have hcz75_2 : w49.cell? ⟨gb292, 2, none⟩ = some (.int .i64 0) := (blk_cell BK292.out 2).trans rfl; have hcz75_3 : w49.cell? ⟨gb292, 3, none⟩ = some (.int .i64 0) := (blk_cell BK292.out 3).trans rfl; have hfz75_0 := blk_frozen BK292.out 0; have hfz75_1 := blk_frozen BK292.out 1; have hfz75_2 := blk_frozen BK292.out 2; have hfz75_3 := blk_frozen BK292.out 3))
                     go_meet
                     case rel => exact ⟨_, ((t284 != t291)), (by first | rfl | (simp; done) | (simp [*]; done)), H', ⟨by have := HK1.out; have := HK2.out; have := HK3.out; have := HK4.out; have := HK5.out; have := HJ22.out; first | omega | exact Nat.le_refl _⟩, ⟨by (with_reducible repeat (first | apply Kd.N_alloc | apply Kd.N_drewN | apply Kd.N_drew)); exact Kd.N_mono (Kd.N_far (p := ⟨gb292, 3, none⟩) (Kd.N_far (p := ⟨gb292, 2, none⟩) (Kd.N_far (p := ⟨gb292, 1, none⟩) (Kd.N_far (p := ⟨gb292, 0, none⟩) (Kd.N_mono HO_7.out (fun k_ hk => (⟨hk, hk.2⟩ : _ ∧ k_ ≠ gb292))) (fun _ hk => hk.2) (.bool t287)) (fun _ hk => hk.2) (.int .i64 t288)) (fun _ hk => hk.2) (.int .i64 t289)) (fun _ hk => hk.2) (.int .i64 t290)) (fun _ hk => ⟨hk.1.1.1.1.1, ⟨hk.1.1.1.1.2, ⟨hk.1.1.1.2, ⟨hk.1.1.2, hk.1.2⟩⟩⟩⟩)⟩, ⟨zf1 BK270.out NB270_292.out⟩, ⟨zf1 BK278.out NB278_292.out⟩, ⟨zf1 BK279.out NB279_292.out⟩, ⟨zf1 BK286.out NB286_292.out⟩, ⟨by (with_reducible repeat (first | refine blk_drewN ?_ _ | refine blk_drew ?_ | refine blk_alloc ?_ _)); refine blk_put (cs := #[.bool t287, .int .i64 t288, .int .i64 t289, .int .i64 0]) ?_ 3 _ rfl; (with_reducible repeat (first | refine blk_drewN ?_ _ | refine blk_drew ?_ | refine blk_alloc ?_ _)); refine blk_put (cs := #[.bool t287, .int .i64 t288, .int .i64 0, .int .i64 0]) ?_ 2 _ rfl; (with_reducible repeat (first | refine blk_drewN ?_ _ | refine blk_drew ?_ | refine blk_alloc ?_ _)); refine blk_put (cs := #[.bool t287, .int .i64 0, .int .i64 0, .int .i64 0]) ?_ 1 _ rfl; (with_reducible repeat (first | refine blk_drewN ?_ _ | refine blk_drew ?_ | refine blk_alloc ?_ _)); refine blk_put (cs := #[.bool false, .int .i64 0, .int .i64 0, .int .i64 0]) ?_ 0 _ rfl; (with_reducible repeat (first | refine blk_drewN ?_ _ | refine blk_drew ?_ | refine blk_alloc ?_ _)); exact BK292.out⟩, ⟨by repeat (first | (with_reducible first | exact HB.out | apply below_alloc | apply pw_below_drewN | apply below_drew1 | refine below_set ?_ GE270.out | refine below_set ?_ GE278.out | refine below_set ?_ GE279.out | refine below_set ?_ GE286.out | refine below_set ?_ GE292.out) | exact HB.out)⟩⟩
                   ·rw [if_neg c56] at H
                    have c56b0 : (t293 == 0) = false := beq_eq_false_iff_ne.mpr c56
                    have c56b1 : (t293 != 0) = true := bne_iff_ne.mpr c56
                    (first | rw [c56b0] | (simp only [i64_w, i32_w]; rw [c56b0]) | skip)
                    have H' := Aside0.mk H
                    clear H
                    go_wp2_with (first | ((with_reducible refine gate_callee (f := 35) rfl ?_); refine goesL_ (some 96) rfl rfl Try.func35 (by kernel_rfl) rfl #[.int .i64 t285] rfl (by (try simp only [List.map_toArray, List.map_cons, List.map_nil]); first | done | rfl | (simp only [List.length_drop, List.length_take]; rfl)) ?_; (with_reducible refine (cellarlaw9_num.calls t285 t293 _ A55.out).mono ?_); rintro e w' ⟨rfl, ⟨nd, rfl⟩⟩; refine ⟨_, rfl, ?_⟩))
                    go_meet
                    case rel => exact ⟨_, (true), (by first | rfl | (simp; done) | (simp [*]; done)), H', ⟨by have := HK1.out; have := HK2.out; have := HK3.out; have := HK4.out; have := HK5.out; have := HJ22.out; first | omega | exact Nat.le_refl _⟩, ⟨by (with_reducible repeat (first | apply Kd.N_alloc | apply Kd.N_drewN | apply Kd.N_drew)); exact Kd.N_mono (Kd.N_far (p := ⟨gb292, 3, none⟩) (Kd.N_far (p := ⟨gb292, 2, none⟩) (Kd.N_far (p := ⟨gb292, 1, none⟩) (Kd.N_far (p := ⟨gb292, 0, none⟩) (Kd.N_mono HO_7.out (fun k_ hk => (⟨hk, hk.2⟩ : _ ∧ k_ ≠ gb292))) (fun _ hk => hk.2) (.bool t287)) (fun _ hk => hk.2) (.int .i64 t288)) (fun _ hk => hk.2) (.int .i64 t289)) (fun _ hk => hk.2) (.int .i64 t290)) (fun _ hk => ⟨hk.1.1.1.1.1, ⟨hk.1.1.1.1.2, ⟨hk.1.1.1.2, ⟨hk.1.1.2, hk.1.2⟩⟩⟩⟩)⟩, ⟨zf1 BK270.out NB270_292.out⟩, ⟨zf1 BK278.out NB278_292.out⟩, ⟨zf1 BK279.out NB279_292.out⟩, ⟨zf1 BK286.out NB286_292.out⟩, ⟨by (with_reducible repeat (first | refine blk_drewN ?_ _ | refine blk_drew ?_ | refine blk_alloc ?_ _)); refine blk_put (cs := #[.bool t287, .int .i64 t288, .int .i64 t289, .int .i64 0]) ?_ 3 _ rfl; (with_reducible repeat (first | refine blk_drewN ?_ _ | refine blk_drew ?_ | refine blk_alloc ?_ _)); refine blk_put (cs := #[.bool t287, .int .i64 t288, .int .i64 0, .int .i64 0]) ?_ 2 _ rfl; (with_reducible repeat (first | refine blk_drewN ?_ _ | refine blk_drew ?_ | refine blk_alloc ?_ _)); refine blk_put (cs := #[.bool t287, .int .i64 0, .int .i64 0, .int .i64 0]) ?_ 1 _ rfl; (with_reducible repeat (first | refine blk_drewN ?_ _ | refine blk_drew ?_ | refine blk_alloc ?_ _)); refine blk_put (cs := #[.bool false, .int .i64 0, .int .i64 0, .int .i64 0]) ?_ 0 _ rfl; (with_reducible repeat (first | refine blk_drewN ?_ _ | refine blk_drew ?_ | refine blk_alloc ?_ _)); exact BK292.out⟩, ⟨by repeat (first | (with_reducible first | exact HB.out | apply below_alloc | apply pw_below_drewN | apply below_drew1 | refine below_set ?_ GE270.out | refine below_set ?_ GE278.out | refine below_set ?_ GE279.out | refine below_set ?_ GE286.out | refine below_set ?_ GE292.out) | exact HB.out)⟩⟩
                  case rest => as_aux_lemma =>
                   clear HC32
                   try clear c1
                   try clear c2
                   try clear p2
                   try clear c3
                   try clear c3b0
                   try clear c4
                   try clear c4b0
                   try clear c5
                   try clear c6
                   try clear p6
                   try clear c7
                   try clear c10
                   try clear c10b0
                   try clear c10b1
                   try clear c11
                   try clear c13
                   try clear c14
                   try clear c20
                   try clear c20b0
                   try clear c21
                   try clear c21b0
                   try clear c22
                   try clear c22b0
                   try clear c25
                   try clear c27
                   try clear c27b0
                   try clear c27b1
                   try clear c28
                   try clear c34
                   try clear c35
                   try clear c37
                   try clear c39
                   try clear c40
                   try clear c42
                   try clear c43
                   try clear c44
                   try clear c50
                   try clear c51
                   try clear c52
                   try clear c53
                   try clear c56
                   try clear c56b0
                   try clear c56b1
                   try clear c57
                   try clear c57b0
                   try clear c58
                   try clear c59
                   try clear c60
                   try clear c61
                   try clear c63
                   try clear c64
                   try clear p64
                   try clear c65
                   try clear c67
                   try clear c68
                   try clear c69
                   try clear c70
                   try clear c72
                   try clear c73
                   try clear c74
                   try clear hcz12_0
                   try clear hcz12_1
                   try clear hcz12_2
                   try clear hcz12_3
                   try clear hcz12_4
                   try clear hcz15_0
                   try clear hcz15_1
                   try clear hcz15_2
                   try clear hcz15_3
                   try clear hcz15_4
                   try clear hcz26_0
                   try clear hcz26_1
                   try clear hcz26_2
                   try clear hcz26_3
                   try clear hcz29_0
                   try clear hcz29_1
                   try clear hcz29_2
                   try clear hcz29_3
                   try clear hcz36_0
                   try clear hcz36_1
                   try clear hcz38_0
                   try clear hcz38_1
                   try clear hcz38_2
                   try clear hcz38_3
                   try clear hcz45_0
                   try clear hcz45_1
                   try clear hcz45_2
                   try clear hcz45_3
                   try clear hcz46_0
                   try clear hcz46_1
                   try clear hcz47_0
                   try clear hcz47_1
                   try clear hcz47_2
                   try clear hcz47_3
                   try clear hcz54_0
                   try clear hcz54_1
                   try clear hcz54_2
                   try clear hcz54_3
                   try clear hcz62_0
                   try clear hcz62_1
                   try clear hcz62_2
                   try clear hcz62_3
                   try clear hcz66_0
                   try clear hcz66_1
                   try clear hcz66_2
                   try clear hcz66_3
                   try clear hcz71_0
                   try clear hcz71_1
                   try clear hcz71_2
                   try clear hcz71_3
                   try clear hcz75_0
                   try clear hcz75_1
                   try clear hcz75_2
                   try clear hcz75_3
                   try clear hcz8_0
                   try clear hcz8_1
                   try clear hcz8_2
                   try clear hcz8_3
                   try clear hcz8_4
                   try clear hcz9_0
                   try clear hcz9_1
                   try clear hcz9_2
                   try clear hcz9_3
                   try clear hfz12_0
                   try clear hfz12_1
                   try clear hfz12_2
                   try clear hfz12_3
                   try clear hfz12_4
                   try clear hfz15_0
                   try clear hfz15_1
                   try clear hfz15_2
                   try clear hfz15_3
                   try clear hfz15_4
                   try clear hfz26_0
                   try clear hfz26_1
                   try clear hfz26_2
                   try clear hfz26_3
                   try clear hfz29_0
                   try clear hfz29_1
                   try clear hfz29_2
                   try clear hfz29_3
                   try clear hfz36_0
                   try clear hfz36_1
                   try clear hfz38_0
                   try clear hfz38_1
                   try clear hfz38_2
                   try clear hfz38_3
                   try clear hfz45_0
                   try clear hfz45_1
                   try clear hfz45_2
                   try clear hfz45_3
                   try clear hfz46_0
                   try clear hfz46_1
                   try clear hfz47_0
                   try clear hfz47_1
                   try clear hfz47_2
                   try clear hfz47_3
                   try clear hfz54_0
                   try clear hfz54_1
                   try clear hfz54_2
                   try clear hfz54_3
                   try clear hfz62_0
                   try clear hfz62_1
                   try clear hfz62_2
                   try clear hfz62_3
                   try clear hfz66_0
                   try clear hfz66_1
                   try clear hfz66_2
                   try clear hfz66_3
                   try clear hfz71_0
                   try clear hfz71_1
                   try clear hfz71_2
                   try clear hfz71_3
                   try clear hfz75_0
                   try clear hfz75_1
                   try clear hfz75_2
                   try clear hfz75_3
                   try clear hfz8_0
                   try clear hfz8_1
                   try clear hfz8_2
                   try clear hfz8_3
                   try clear hfz8_4
                   try clear hfz9_0
                   try clear hfz9_1
                   try clear hfz9_2
                   try clear hfz9_3
                   try clear p2
                   try clear p6
                   obtain ⟨kq, x107_31, rfl, HA, HJ31, HO_7, BK270, BK278, BK279, BK286, BK292, HB⟩ := hcut
                   cases kq with
                   | zero => exact absurd HA.out (by simp [cellarlaw9_MemEdges.j7])
                   | succ kj31 =>
                    have H := HA.out
                    clear HA
                    simp only [cellarlaw9_MemEdges.j7] at H
                    by_cases c76 : x107_31 = true
                    ·subst c76
                     have H1 : (some false) = some r := by rw [if_pos rfl] at H; exact H
                     clear H
                     have H := H1
                     clear H1
                     obtain rfl := Option.some.inj H
                     go_wp2
                     go_ret
                     exact ⟨by first | rfl | (simp [errW_none, errW_some] <;> rfl) | (simp [*, errW_none, errW_some] <;> rfl), by repeat (first | (with_reducible first | exact HB.out | apply below_alloc | apply pw_below_drewN | apply below_drew1 | refine below_set ?_ GE270.out | refine below_set ?_ GE278.out | refine below_set ?_ GE279.out | refine below_set ?_ GE286.out | refine below_set ?_ GE292.out) | exact HB.out)⟩
                    ·replace c76 := Bool.eq_false_iff.mpr c76
                     subst c76
                     have H1 : (cellarlaw9_MemEdges.l4 kj31 x3_1 y275 x8_3 x9_4 (wrap64 (x10_5 + 1)) l0_0 l0_1 l0_2 l0_3) = some r := by rw [if_neg (show ¬ (false = true) by decide)] at H; exact H
                     clear H
                     have H := H1
                     clear H1
                     have H' := Aside0.mk H
                     clear H
                     go_wp2
                     go_roundg kj31
                     case measure => have := HK1.out; have := HK2.out; have := HK3.out; have := HK4.out; have := HK5.out; have := HJ22.out; have := HJ31.out; omega
                     case rel => exact ⟨(wrap64 (x10_5 + 1)), (by first | rfl | (simp; done) | (simp [*]; done)), H', ⟨by have := HK1.out; have := HK2.out; have := HK3.out; have := HK4.out; have := HK5.out; have := HJ22.out; have := HJ31.out; omega⟩, ⟨by (with_reducible repeat (first | apply Kd.N_alloc | apply Kd.N_drewN | apply Kd.N_drew)); exact Kd.N_mono HO_7.out (fun _ hk => hk.1)⟩, ⟨zb BK270.out⟩, ⟨by repeat (first | (with_reducible first | exact HB.out | apply below_alloc | apply pw_below_drewN | apply below_drew1 | refine below_set ?_ GE270.out | refine below_set ?_ GE278.out | refine below_set ?_ GE279.out | refine below_set ?_ GE286.out | refine below_set ?_ GE292.out) | exact HB.out)⟩⟩
               ·rw [if_neg c22] at H
                have c22b0 : decide (x10_5 < 5) = false := decide_eq_false c22
                clear c22
                have H' := Aside0.mk H
                clear H
                go_wp2
                go_roundg k5
                case measure => have := HK1.out; have := HK2.out; have := HK3.out; have := HK4.out; have := HK5.out; omega
                case rel => exact ⟨(wrap64 (x9_4 + 1)), (by first | rfl | (simp; done) | (simp [*]; done)), H', ⟨by have := HK1.out; have := HK2.out; have := HK3.out; have := HK4.out; have := HK5.out; omega⟩, ⟨by (with_reducible repeat (first | apply Kd.N_alloc | apply Kd.N_drewN | apply Kd.N_drew)); exact HO_7.out⟩, ⟨zb BK270.out⟩, ⟨zw1 HB.out GE270.out⟩⟩
            ·rw [if_neg c21] at H
             have c21b0 : decide (x9_4 ≤ 7) = false := decide_eq_false c21
             clear c21
             have H' := Aside0.mk H
             clear H
             go_wp2
             go_roundg k4
             case measure => have := HK1.out; have := HK2.out; have := HK3.out; have := HK4.out; omega
             case rel => exact ⟨(wrap64 (x8_3 + 1)), (by first | rfl | (simp; done) | (simp [*]; done)), H', ⟨by have := HK1.out; have := HK2.out; have := HK3.out; have := HK4.out; omega⟩, ⟨by (with_reducible repeat (first | apply Kd.N_alloc | apply Kd.N_drewN | apply Kd.N_drew)); exact HO_7.out⟩, ⟨zb BK270.out⟩, ⟨zw1 HB.out GE270.out⟩⟩
         ·rw [if_neg c20] at H
          have c20b0 : decide (x8_3 ≤ (wrap64 (x3_1 + 2))) = false := decide_eq_false c20
          clear c20
          have H' := Aside0.mk H
          clear H
          go_wp2
          go_roundg k3
          case measure => have := HK1.out; have := HK2.out; have := HK3.out; omega
          case rel => exact ⟨(wrap64 (x3_1 + 1)), (by first | rfl | (simp; done) | (simp [*]; done)), H', ⟨by have := HK1.out; have := HK2.out; have := HK3.out; omega⟩, ⟨zb BK270.out⟩, ⟨zw1 HB.out GE270.out⟩⟩
   ·rw [if_neg c3] at H
    have c3b0 : decide (x3_1 ≤ 6) = false := decide_eq_false c3
    clear c3
    replace H := Option.bind_eq_some_iff.mp H
    obtain ⟨t294, A770, H⟩ := H
    replace H : (if t294 = true then ((cellarlaw9_wakes.f k1).bind fun t295 => (some t295)) else (some false)) = some r := H
    have A77 := Aside0.mk A770
    clear A770
    by_cases c78 : t294 = true
    ·subst c78
     have H1 : ((cellarlaw9_wakes.f k1).bind fun t295 => (some t295)) = some r := by rw [if_pos rfl] at H; exact H
     clear H
     have H := H1
     clear H1
     replace H := Option.bind_eq_some_iff.mp H
     obtain ⟨t295, A790, H⟩ := H
     replace H : (some t295) = some r := H
     have A79 := Aside0.mk A790
     clear A790
     obtain rfl := Option.some.inj H
     go_wp2_with (first | ((with_reducible refine gate_callee (f := 41) rfl ?_); refine goesL_ (some 108) rfl rfl Try.func41 (by kernel_rfl) rfl #[.int .i64 7] rfl (by (try simp only [List.map_toArray, List.map_cons, List.map_nil]); first | done | rfl | (simp only [List.length_drop, List.length_take]; rfl)) ?_; (with_reducible refine (cellarref1_Kind.calls 7 true _ A77.out).mono ?_); rintro e w' ⟨rfl, ⟨nd, rfl⟩⟩; refine ⟨_, rfl, ?_⟩) | (go_at_call 38; (with_reducible refine (cellarlaw9_wakes.calls k1  t295 _ A79.out).mono ?_); rintro e w80 ⟨rfl, hb⟩; have n0_ := Aside0.mk (blk_below (g := gb270) (o := .cells #[.slice A0_0 l0_0.length c0_0, .slice A0_1 l0_1.length c0_1, .slice A0_2 l0_2.length c0_2, .slice A0_3 l0_3.length c0_3] 54 (0, 0)) (zb BK270.out) hb); have n1_ := Aside0.mk (below_step (zw1 HB.out GE270.out) hb); clear BK270; clear HB; have BK270 := n0_; have HB := n1_; clear n0_ n1_; (try clear hb); (try clear hb2); (try clear hk); (try clear hi)))
     go_ret
     exact ⟨by first | rfl | (simp [errW_none, errW_some] <;> rfl) | (simp [*, errW_none, errW_some] <;> rfl), zw1 HB.out GE270.out⟩
    ·replace c78 := Bool.eq_false_iff.mpr c78
     subst c78
     have H1 : (some false) = some r := by rw [if_neg (show ¬ (false = true) by decide)] at H; exact H
     clear H
     have H := H1
     clear H1
     obtain rfl := Option.some.inj H
     go_wp2_with (first | ((with_reducible refine gate_callee (f := 41) rfl ?_); refine goesL_ (some 108) rfl rfl Try.func41 (by kernel_rfl) rfl #[.int .i64 7] rfl (by (try simp only [List.map_toArray, List.map_cons, List.map_nil]); first | done | rfl | (simp only [List.length_drop, List.length_take]; rfl)) ?_; (with_reducible refine (cellarref1_Kind.calls 7 false _ A77.out).mono ?_); rintro e w' ⟨rfl, ⟨nd, rfl⟩⟩; refine ⟨_, rfl, ?_⟩))
     go_ret
     exact ⟨by first | rfl | (simp [errW_none, errW_some] <;> rfl) | (simp [*, errW_none, errW_some] <;> rfl), zw1 HB.out GE270.out⟩

end Go.Proofs.Ytjoplkillkhiaaa.C
