/- Phrases that the print repeats, as lemmas whose last argument is found by the print's own tactic. -/
import Derived.Test.YtjoplkillkhiaaaZWords
import Derived.Test.YtjoplkillkhiaaaZLast
namespace Go.Proofs.Ytjoplkillkhiaaa.Fn
open Go.RowKit Go.Proofs.YtjoplkillkhiaaaW.PrintWords Go.Proofs.YtjoplkillkhiaaaW.PrintLast
theorem zfar {w : World} {a : Addr} {v : Value} {g : Nat} (h : w.cell? a = some v) (hg : w.heap.size ≤ g) : a.block ≠ g := Nat.ne_of_lt (Nat.lt_of_lt_of_le (World.block_lt_of_cell? _ _ h) hg)
theorem zx {P Q : Prop} (h : P) (f : P → Q := by intro h_; first | (with_reducible exact h_) | (rw [add_block]; with_reducible exact h_) | (rw [add_block] at h_; first | (with_reducible exact h_) | (rw [add_block]; with_reducible exact h_) | (dsimp only; with_reducible exact h_)) | (dsimp only; with_reducible exact h_) | exact h_ | (rw [add_block]; exact h_) | (show (Addr.add _ _).block ≠ _; rw [add_block]; exact h_) | (dsimp only; exact h_)) : Q := f h
theorem zy {P Q : Prop} (h : P) (f : P → Q := by intro h_; first | (rw [add_block]; exact h_) | (show (Addr.add _ _).block ≠ _; rw [add_block]; exact h_) | exact h_) : Q := f h
theorem zb {P Q : Prop} (h : P) (f : P → Q := by intro h_; (with_reducible repeat (first | refine blk_drewN ?_ _ | refine blk_drew ?_ | refine blk_alloc ?_ _)); exact h_) : Q := f h
theorem zf1 {P A Q : Prop} (h : P) (a : A) (f : P → A → Q := by intro h_ a_; (repeat (first | (with_reducible first | refine blk_drewN ?_ _ | refine blk_drew ?_ | refine blk_alloc ?_ _) | refine blk_far ?_ a_ _)); exact h_) : Q := f h a
theorem zf2 {P A B Q : Prop} (h : P) (a : A) (b : B) (f : P → A → B → Q := by intro h_ a_ b_; (repeat (first | (with_reducible first | refine blk_drewN ?_ _ | refine blk_drew ?_ | refine blk_alloc ?_ _) | refine blk_far ?_ a_ _ | refine blk_far ?_ b_ _)); exact h_) : Q := f h a b
theorem zw0 {P Q : Prop} (h : P) (f : P → Q := by intro h_; repeat (first | (with_reducible first | exact h_ | apply below_alloc | apply pw_below_drewN | apply below_drew1) | exact h_)) : Q := f h
theorem zw1 {P A Q : Prop} (h : P) (a : A) (f : P → A → Q := by intro h_ a_; repeat (first | (with_reducible first | exact h_ | apply below_alloc | apply pw_below_drewN | apply below_drew1 | refine below_set ?_ a_) | exact h_)) : Q := f h a
theorem zw2 {P A B Q : Prop} (h : P) (a : A) (b : B) (f : P → A → B → Q := by intro h_ a_ b_; repeat (first | (with_reducible first | exact h_ | apply below_alloc | apply pw_below_drewN | apply below_drew1 | refine below_set ?_ a_ | refine below_set ?_ b_) | exact h_)) : Q := f h a b
theorem zw3 {P A B C Q : Prop} (h : P) (a : A) (b : B) (c : C) (f : P → A → B → C → Q := by intro h_ a_ b_ c_; repeat (first | (with_reducible first | exact h_ | apply below_alloc | apply pw_below_drewN | apply below_drew1 | refine below_set ?_ a_ | refine below_set ?_ b_ | refine below_set ?_ c_) | exact h_)) : Q := f h a b c
theorem zw4 {P A B C D Q : Prop} (h : P) (a : A) (b : B) (c : C) (d : D) (f : P → A → B → C → D → Q := by intro h_ a_ b_ c_ d_; repeat (first | (with_reducible first | exact h_ | apply below_alloc | apply pw_below_drewN | apply below_drew1 | refine below_set ?_ a_ | refine below_set ?_ b_ | refine below_set ?_ c_ | refine below_set ?_ d_) | exact h_)) : Q := f h a b c d
theorem zdec {p : Prop} [Decidable p] (h : decide p = true := by first | (with_reducible assumption) | assumption) : p := of_decide_eq_true h
end Go.Proofs.Ytjoplkillkhiaaa.Fn
