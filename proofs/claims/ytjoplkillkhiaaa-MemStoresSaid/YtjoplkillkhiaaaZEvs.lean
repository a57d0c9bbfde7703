/- Words of this session on rounds and loops: from some number of rounds on a loop answers so. -/
import Derived.Test.YtjoplkillkhiaaaZWords
import Derived.Test.YtjoplkillkhiaaaZMore
namespace Go.Proofs.Ytjoplkillkhiaaa.Evs
open Go.RowKit Go.Proofs.YtjoplkillkhiaaaW.PrintWords
theorem Ev.pos {α : Type} {c : Prop} [Decidable c] {A B : Nat → Option α} {r : α} (hc : c) (h : Ev A r) : Ev (fun k => if c then A k else B k) r := by
  obtain ⟨K, h⟩ := h
  refine ⟨K, fun k hk => ?_⟩
  show (if c then A k else B k) = some r
  rw [if_pos hc]
  exact h k hk
theorem Ev.neg {α : Type} {c : Prop} [Decidable c] {A B : Nat → Option α} {r : α} (hc : ¬ c) (h : Ev B r) : Ev (fun k => if c then A k else B k) r := by
  obtain ⟨K, h⟩ := h
  refine ⟨K, fun k hk => ?_⟩
  show (if c then A k else B k) = some r
  rw [if_neg hc]
  exact h k hk
theorem Ev.cond {α : Type} {c : Prop} [Decidable c] {A B : Nat → Option α} {r : α} (h : c → Ev A r) (h' : ¬ c → Ev B r) : Ev (fun k => if c then A k else B k) r := by
  by_cases hc : c
  · exact Ev.pos hc (h hc)
  · exact Ev.neg hc (h' hc)
theorem Ev.bindS {α β : Type} {x : Option α} {a : α} {f : Nat → α → Option β} {r : β} (hx : x = some a) (h : Ev (fun k => f k a) r) : Ev (fun k => x.bind (f k)) r := by
  subst hx
  exact h
theorem Ev.plus {α : Type} {g : Nat → Option α} {r : α} (c : Nat) (h : ∀ k, g (k + c) = some r) : Ev g r := by
  refine ⟨c, fun k hk => ?_⟩
  have := h (k - c)
  rwa [Nat.sub_add_cancel hk] at this
theorem Ev.val {α : Type} {x : Option α} {r : α} (h : x = some r) : Ev (fun _ => x) r := ⟨0, fun _ _ => h⟩
theorem Ev.at_ {α : Type} {g : Nat → Option α} {r : α} (h : Ev g r) : ∃ k, g k = some r := by
  obtain ⟨K, h⟩ := h
  exact ⟨K, h K (Nat.le_refl _)⟩
/-- Downward. -/
theorem down {Q : Int → Prop} {lo hi : Int} (h : Q hi) (s : ∀ i, lo ≤ i → i < hi → Q (i + 1) → Q i) (i : Int) (h0 : lo ≤ i) (h1 : i ≤ hi) : Q i := by
  obtain ⟨d, hd⟩ : ∃ d : Nat, hi - i = d := ⟨(hi - i).toNat, by omega⟩
  induction d generalizing i with
  | zero =>
    have : i = hi := by omega
    subst this
    exact h
  | succ d ih => exact s i h0 (by omega) (ih (i + 1) (by omega) (by omega) (by omega))
theorem w64 {z : Int} (h0 : -9223372036854775808 ≤ z) (h1 : z ≤ 9223372036854775807) : wrap64 z = z := by unfold wrap64; omega
end Go.Proofs.Ytjoplkillkhiaaa.Evs
