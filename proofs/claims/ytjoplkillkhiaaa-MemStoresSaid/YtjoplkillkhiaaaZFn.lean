/- Predicates handed to the library: what slices.IndexFunc and slices.ContainsFunc tell, as plain functions of a list, and what is asked of the predicate. -/
import Derived.Test.YtjoplkillkhiaaaZWords
import Derived.Test.YtjoplkillkhiaaaZMore
import Derived.Shelf.Abstract
import Derived.Laws.IdiomCopy
import Derived.Lib.SliceRun
namespace Go.Proofs.Ytjoplkillkhiaaa.Fn
open Go.RowKit Go.Proofs.YtjoplkillkhiaaaW.PrintWords
/-- Is there one in the list? It is asked from the first on. -/
def anyO {α : Type} (p : α → Option Bool) : List α → Option Bool
  | [] => some false
  | x :: xs => (p x).bind fun b => if b = true then some true else anyO p xs
/-- Where the first is; -1: nowhere. -/
def idxO {α : Type} (p : α → Option Bool) (i : Int) : List α → Option Int
  | [] => some (-1)
  | x :: xs => (p x).bind fun b => if b = true then some i else idxO p (i + 1) xs
theorem idx_any {α : Type} (p : α → Option Bool) : ∀ (l : List α) (i : Int) (r : Bool), 0 ≤ i → anyO p l = some r → ∃ j, idxO p i l = some j ∧ decide (0 ≤ j) = r
  | [], i, r, hi, h => ⟨-1, rfl, by simp only [anyO, Option.some.injEq] at h; rw [← h]; decide⟩
  | x :: xs, i, r, hi, h => by
    simp only [anyO] at h
    simp only [idxO]
    obtain ⟨b, hb, h⟩ := Option.bind_eq_some_iff.1 h
    rw [hb, Option.bind_some]
    cases b with
    | true =>
      rw [if_pos rfl] at h
      injection h with h
      exact ⟨i, by rw [if_pos rfl], by rw [← h]; exact decide_eq_true hi⟩
    | false =>
      rw [if_neg (by decide)] at h
      rw [if_neg (by decide)]
      exact idx_any p xs (i + 1) r (by omega) h
theorem any_le {α : Type} {p q : α → Option Bool} (h : ∀ x, LeO (p x) (q x)) : ∀ l : List α, LeO (anyO p l) (anyO q l)
  | [] => LeO.refl _
  | x :: xs => LeO.bind (h x) (fun _ => LeO.ite (LeO.refl _) (any_le h xs))
/-- A predicate that is total: the list's own 'any'. -/
theorem any_some {α : Type} {p : α → Option Bool} {f : α → Bool} (h : ∀ x, p x = some (f x)) : ∀ l : List α, anyO p l = some (l.any f)
  | [] => rfl
  | x :: xs => by
    simp only [anyO, h x, Option.bind_some, List.any_cons]
    cases f x with
    | true => rfl
    | false => simpa using any_some h xs
theorem any_mem {α : Type} {p : α → Option Bool} {f : α → Bool} : ∀ l : List α, (∀ x, x ∈ l → p x = some (f x)) → anyO p l = some (l.any f)
  | [], _ => rfl
  | x :: xs, h => by
    simp only [anyO, h x List.mem_cons_self, Option.bind_some, List.any_cons]
    cases f x with
    | true => rfl
    | false => simpa using any_mem xs (fun y hy => h y (List.mem_cons_of_mem _ hy))
/-- What is asked of a predicate: at every element, in every later world, its answer; what was there is as it was. -/
def PredK {α : Type} (P : Program) (d : Kd α) (g : Nat) (lb : Array Value) (val : List Value → Value) (p : α → Option Bool) (w : World) : Prop :=
  ∀ (W : World) (x : α) (cs : List Value) (b : Bool), Below w.heap.size w W → d.K W x cs → p x = some b → Calls P g (#[val cs] ++ lb) W fun e w' => e = .returned (.bool b) ∧ Below W.heap.size W w'
theorem sw_lt (a b : Int) (h0 : 0 ≤ a) (h : a < b) : a.toNat < b.toNat := by omega
theorem sw_ne (n m : Nat) (h : n < m) : (n = m) = False := eq_false (by omega)
theorem sw_ne' (n m : Nat) (h : n < m) : (m = n) = False := eq_false (by omega)
/-- Two elements' cells are apart. -/
theorem swn (s n m d : Nat) (h : n < m) (hd : d < s) : ((n * s + d = m * s) = False) ∧ ((m * s + d = n * s) = False) ∧ ((n * s = m * s + d) = False) ∧ ((m * s = n * s + d) = False) := by
  have h1 : n * s + s ≤ m * s := by rw [← Nat.succ_mul]; exact Nat.mul_le_mul_right _ h
  exact ⟨eq_false (by omega), eq_false (by omega), eq_false (by omega), eq_false (by omega)⟩
end Go.Proofs.Ytjoplkillkhiaaa.Fn
