/- The pure statement of MemOver: over plain lists and numbers, for every argument in range the law's function answers true: of the argument a length's rest by five alone is looked at; each of the five cases is worked out. -/
import Derived.Test.YtjoplkillkhiaaaCx13
import Derived.Test.YtjoplkillkhiaaaArgC
import Derived.Test.YtjoplkillkhiaaaEvs
namespace Go.Proofs.Ytjoplkillkhiaaa.PureC
open Go.RowKit Go.Proofs.YtjoplkillkhiaaaW.PrintWords Go.Proofs.Ytjoplkillkhiaaa.Evs Go.Proofs.Ytjoplkillkhiaaa.C
section
variable (M : List (List S76)) (S : List S62) (N N' : List Int) (A : List S29)
theorem congO (hN : (N.length : Int) % 5 = (N'.length : Int) % 5) : ∀ k,
    (∀ x3 : Int, cellarlaw9_MemOver.l0 k x3 M S N A = cellarlaw9_MemOver.l0 k x3 M S N' A) ∧
    (∀ (x3 : Int) (x16 : List S76) (b c : Bool) (d : Int) (e : Bool) (f g h : Int), cellarlaw9_MemOver.j1 k x3 x16 b M S N A c d e f g h = cellarlaw9_MemOver.j1 k x3 x16 b M S N' A c d e f g h) ∧
    (∀ (x3 : Int) (b : Bool), cellarlaw9_MemOver.j2 k x3 b M S N A = cellarlaw9_MemOver.j2 k x3 b M S N' A)
  | 0 => ⟨fun _ => by simp only [cellarlaw9_MemOver.l0], fun _ _ _ _ _ _ _ _ _ => by simp only [cellarlaw9_MemOver.j1], fun _ _ => by simp only [cellarlaw9_MemOver.j2]⟩
  | k + 1 => by
    obtain ⟨i0, i1, i2⟩ := congO hN k
    refine ⟨fun x3 => ?_, fun x3 x16 b c d e f g h => ?_, fun x3 b => ?_⟩
    · rw [cellarlaw9_MemOver.l0, cellarlaw9_MemOver.l0]
      simp only [hN, i1]
    · rw [cellarlaw9_MemOver.j1, cellarlaw9_MemOver.j1]
      simp only [i2]
    · rw [cellarlaw9_MemOver.j2, cellarlaw9_MemOver.j2]
      simp only [i0]
end
section
variable (M : List (List S76)) (S : List S62) (A : List S29)
set_option maxRecDepth 100000
theorem o0 : cellarlaw9_MemOver.f 60 M S [] A = some true := by kernel_rfl
theorem o1 : cellarlaw9_MemOver.f 60 M S [0] A = some true := by kernel_rfl
theorem o2 : cellarlaw9_MemOver.f 60 M S [0, 0] A = some true := by kernel_rfl
theorem o3 : cellarlaw9_MemOver.f 60 M S [0, 0, 0] A = some true := by kernel_rfl
theorem o4 : cellarlaw9_MemOver.f 60 M S [0, 0, 0, 0] A = some true := by kernel_rfl
end
theorem MemOver (l0 : List (List S76)) (l1 : List S62) (l2 : List Int) (l3 : List S29) (_h : Arg54 l0 l1 l2 l3) : ∃ k, cellarlaw9_MemOver.f k l0 l1 l2 l3 = some true := by
  have go : ∀ N' : List Int, N'.length < 5 → l2.length % 5 = N'.length → cellarlaw9_MemOver.f 60 l0 l1 N' l3 = some true → ∃ k, cellarlaw9_MemOver.f k l0 l1 l2 l3 = some true := fun N' h' hm hc =>
    ⟨60, ((congO l0 l1 l2 N' l3 (by omega) 60).1 0).trans hc⟩
  have hlt := Nat.mod_lt l2.length (by decide : 0 < 5)
  generalize hr : l2.length % 5 = r at hlt
  match r, hlt with
  | 0, _ => exact go [] (by decide) hr (o0 l0 l1 l3)
  | 1, _ => exact go [0] (by decide) hr (o1 l0 l1 l3)
  | 2, _ => exact go [0, 0] (by decide) hr (o2 l0 l1 l3)
  | 3, _ => exact go [0, 0, 0] (by decide) hr (o3 l0 l1 l3)
  | 4, _ => exact go [0, 0, 0, 0] (by decide) hr (o4 l0 l1 l3)
end Go.Proofs.Ytjoplkillkhiaaa.PureC
