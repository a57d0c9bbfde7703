/- The operators of one number and the casts: the program's answers are the reference's; the loops over kinds and numbers answer true. No Go and no memory in it. -/
import Derived.Test.YtjhgpankffdnaaaAx10
import Derived.Test.YtjhgpankffdnaaaPlainA
namespace Go.Proofs.Ytjhgpankffdnaaa.A
open Go.RowKit Go.Proofs.YtjhgpankffdnaaaW.PrintWords Go.Proofs.YtjhgpankffdnaaaW.PrintLast Go.Proofs.YtjhgpankffdnaaaW.PrintMore Go.Proofs.Ytjhgpankffdnaaa.Evs
set_option linter.unusedVariables false
set_option linter.unusedSimpArgs false

section
variable {kind w h P : Int} {s : Bool} (K : KD kind w h P s)
include K
/-- What an operator of one tells. -/
def one (s : Bool) (w h P op a : Int) : Int × Int := if op = 5 then two s w h P 9 0 a else if op = 6 then (Go.bits .xor .i64 (-1) a % P, 0) else (if a = 0 then 1 else 0, 0)
theorem KD.do1 (k : Nat) (op a : Int) (a0 : 0 ≤ a) (a1 : a < P) : alu_Do1.f (k + 4) op kind a = some (one s w h P op a) := by
  unfold alu_Do1.f one
  by_cases o5 : op = 5
  · rw [if_pos o5, if_pos o5, K.do_ k 9 0 a (by omega) (by omega) a0 a1, Option.bind_some]
  rw [if_neg o5, if_neg o5]
  by_cases o6 : op = 6
  · rw [if_pos o6, if_pos o6, K.of, Option.bind_some, K.cut, Option.bind_some]
  · rw [if_neg o6, if_neg o6, told_some, Option.bind_some]
    simp
theorem KD.rone (k : Nat) (op a : Int) (a0 : 0 ≤ a) (a1 : a < P) : cellarref1_One.f (k + 4) op kind a = some (one s w h P op a) := by
  unfold cellarref1_One.f one
  by_cases o5 : op = 5
  · rw [if_pos o5, if_pos o5, K.rtwo k 9 0 a (by omega) (by omega) a0 a1, Option.bind_some]
  rw [if_neg o5, if_neg o5]
  by_cases o6 : op = 6
  · rw [if_pos o6, if_pos o6, K.wd (k + 2), Option.bind_some, K.wrap, Option.bind_some]
  · rw [if_neg o6, if_neg o6, truth_some, Option.bind_some]
    simp
theorem KD.aone (k : Nat) (op a : Int) (h0 : 5 ≤ op) (h1 : op ≤ 7) :
    alu_One.f (k + 4) op kind a = some (if 0 ≤ a ∧ a < P then ((one s w h P op a).1, (one s w h P op a).2, 0) else (0, 0, 1)) := by
  unfold alu_One.f alu_IsOne.f
  rw [if_pos (by omega), Option.bind_some, decide_eq_true h1, if_pos rfl, K.isk, Option.bind_some, if_pos rfl, K.of, Option.bind_some, K.is, Option.bind_some]
  by_cases c : 0 ≤ a ∧ a < P
  · rw [decide_eq_true c, if_pos rfl, if_pos c, K.do1 k op a c.1 c.2, Option.bind_some]
  · rw [decide_eq_false c, if_neg (by decide), if_neg c]
theorem KD.may1 (k : Nat) (op : Int) (h0 : 5 ≤ op) (h1 : op ≤ 7) : cellarref1_MayOne.f (k + 2) op kind = some true := by
  have := K.w1
  unfold cellarref1_MayOne.f cellarref0_Between.f
  rw [if_pos (by omega), Option.bind_some, decide_eq_true h1, if_pos rfl, K.wd, Option.bind_some, decide_eq_true (by omega)]
end
theorem one_form (k : Nat) (op kind a : Int) (h : ¬ (5 ≤ op ∧ op ≤ 7) ∨ (kind < 1 ∨ 6 < kind)) : alu_One.f (k + 4) op kind a = some (0, 0, 1) := by
  unfold alu_One.f alu_IsOne.f
  by_cases o : op ≥ 5
  · rw [if_pos o, Option.bind_some]
    by_cases o2 : op ≤ 7
    · rw [decide_eq_true o2, if_pos rfl, no_isk kind (by omega), Option.bind_some, if_neg (by decide)]
    · rw [decide_eq_false o2, if_neg (by decide)]
  · rw [if_neg o, Option.bind_some, if_neg (by decide)]
theorem may1_form (k : Nat) (op kind : Int) (h : ¬ (5 ≤ op ∧ op ≤ 7) ∨ (kind < 1 ∨ 6 < kind)) : cellarref1_MayOne.f (k + 2) op kind = some false := by
  unfold cellarref1_MayOne.f cellarref0_Between.f
  by_cases o : op ≥ 5
  · rw [if_pos o, Option.bind_some]
    by_cases o2 : op ≤ 7
    · rw [decide_eq_true o2, if_pos rfl, no_kind kind (by omega), Option.bind_some]
      rfl
    · rw [decide_eq_false o2, if_neg (by decide)]
  · rw [if_neg o, Option.bind_some, if_neg (by decide)]

theorem ones_l0 (ops l0 : List Int) (l1 : List ByteArray) (l2 : List S34) (ho : ops.length ≤ 100) (hl : l0.length ≤ 100) (i : Int) (i0 : 0 ≤ i) (i1 : i ≤ ops.length) : Ev (fun k => cellarlaw2_ones.l0 k ops i l0 l1 l2) true := by
  revert i
  refine down (Q := fun i => Ev (fun k => cellarlaw2_ones.l0 k ops i l0 l1 l2) true) ?_ ?_
  · exact Ev.step (fun k => by rw [cellarlaw2_ones.l0]) (Ev.neg (by omega) (Ev.bind (Ev.plus 5 wakes2) (Ev.now _)))
  intro i i0 i1 ih
  refine Ev.step (fun k => by rw [cellarlaw2_ones.l0]) ?_
  refine Ev.pos i1 ?_
  suffices H : ∀ kd : Int, -1 ≤ kd → kd ≤ 12 → Ev (fun k => cellarlaw2_ones.l1 k ops i kd l0 l1 l2) true from H (-1) (by omega) (by omega)
  refine down (Q := fun kd => Ev (fun k => cellarlaw2_ones.l1 k ops i kd l0 l1 l2) true) ?_ ?_
  · refine Ev.step (fun k => by rw [cellarlaw2_ones.l1]) ?_
    refine Ev.neg (by omega) ?_
    rw [w64 (z := i + 1) (by omega) (by omega)]
    exact ih
  intro kind k0 k1 ihk
  obtain ⟨ns, hns, hb⟩ := numbers_ev l0 l1 l2 kind hl
  refine Ev.step (fun k => by rw [cellarlaw2_ones.l1]) ?_
  refine Ev.pos (by omega) (Ev.bind hns ?_)
  suffices H : ∀ j : Int, 0 ≤ j → j ≤ ns.length → Ev (fun k => cellarlaw2_ones.l2 k ops i kind ns j l0 l1 l2) true from H 0 (by omega) (by omega)
  refine down (Q := fun j => Ev (fun k => cellarlaw2_ones.l2 k ops i kind ns j l0 l1 l2) true) ?_ ?_
  · refine Ev.step (fun k => by rw [cellarlaw2_ones.l2]) ?_
    refine Ev.neg (by omega) ?_
    rw [w64 (z := kind + 1) (by omega) (by omega)]
    exact ihk
  intro m m0 m1 ihm
  refine Ev.step (fun k => by rw [cellarlaw2_ones.l2]) ?_
  refine Ev.pos m1 (Ev.pos i0 (Ev.pos i1 (Ev.pos m0 ?_)))
  have out : Ev (fun k => cellarlaw2_ones.j3 k ops i kind ns m 0 0 1 1 0 0 false l0 l1 l2) true := by
    refine Ev.step (fun k => by rw [cellarlaw2_ones.j3]) ?_
    refine Ev.neg (by decide) (Ev.bindS (num_some _) (Ev.pos rfl (Ev.pos rfl (Ev.pos rfl ?_))))
    rw [w64 (z := m + 1) (by omega) (by omega)]
    exact ihm
  by_cases form : ¬ (5 ≤ rd ops i ∧ rd ops i ≤ 7) ∨ (kind < 1 ∨ 6 < kind)
  · refine Ev.bind (Ev.plus 4 fun k => one_form k _ kind _ form) (Ev.bind (Ev.plus 2 fun k => may1_form k _ kind form) (Ev.neg (by decide) out))
  · obtain ⟨w, h, P, s, K⟩ := kd_of kind (by omega) (by omega)
    have fo : 5 ≤ rd ops i ∧ rd ops i ≤ 7 := by omega
    refine Ev.bind (Ev.plus 4 fun k => K.aone k _ _ fo.1 fo.2) (Ev.bind (Ev.plus 2 fun k => K.may1 k _ fo.1 fo.2) (Ev.pos rfl (Ev.bind (Ev.plus 2 K.wd) (Ev.bindS (K.number _) ?_))))
    by_cases c : 0 ≤ rd ns m ∧ rd ns m < P
    · rw [if_pos c, decide_eq_true c]
      refine Ev.step (fun k => by rw [cellarlaw2_ones.j3]) ?_
      refine Ev.pos rfl (Ev.pos i0 (Ev.pos i1 (Ev.pos m0 (Ev.pos m1 (Ev.bind (Ev.plus 4 fun k => K.rone k _ _ c.1 c.2) (Ev.bindS (num_some _) (Ev.pos rfl (Ev.pos rfl (Ev.pos rfl ?_)))))))))
      rw [w64 (z := m + 1) (by omega) (by omega)]
      exact ihm
    · rw [if_neg c, decide_eq_false c]
      exact out
theorem ones_true (ops l0 : List Int) (l1 : List ByteArray) (l2 : List S34) (ho : ops.length ≤ 100) (h : Arg26 l0 l1 l2) : Ev (fun k => cellarlaw2_ones.f k l0 l1 l2 ops) true := by
  obtain ⟨b, hb, hs⟩ := heavy_ev l0 l1 l2 h
  unfold cellarlaw2_ones.f
  refine Ev.bind hb ?_
  cases b with
  | true => exact Ev.pos rfl (Ev.now _)
  | false => exact Ev.neg (by decide) (ones_l0 ops l0 l1 l2 ho (hs rfl).1 0 (by omega) (by omega))

/-! ### Casts -/
theorem KD.turn {kind w h P : Int} {s : Bool} (K : KD kind w h P s) {kind' w' h' P' : Int} {s' : Bool} (K' : KD kind' w' h' P' s') (a : Int) :
    alu_Cast.f kind kind' a = some (if 0 ≤ a ∧ a < P then (sv s h P a % P', 0) else (0, 1)) := by
  unfold alu_Cast.f alu_Turn.f
  rw [K.isk, Option.bind_some, if_pos rfl, K'.isk, Option.bind_some, if_pos rfl, K.of, Option.bind_some, K.is, Option.bind_some]
  by_cases c : 0 ≤ a ∧ a < P
  · rw [decide_eq_true c, if_pos rfl, if_pos c, K.seen a c.1 c.2, Option.bind_some, K'.of, Option.bind_some, K'.cut]
    rfl
  · rw [decide_eq_false c, if_neg (by decide), if_neg c]
theorem KD.rturn {kind w h P : Int} {s : Bool} (K : KD kind w h P s) {kind' w' h' P' : Int} {s' : Bool} (K' : KD kind' w' h' P' s') (k : Nat) (a : Int) (c : 0 ≤ a ∧ a < P) :
    cellarref1_Cast.f (k + 2) kind kind' a = some (sv s h P a % P') := by
  unfold cellarref1_Cast.f
  rw [K.see k a c.1 c.2, Option.bind_some, K'.wd, Option.bind_some, K'.wrap]
  rfl
theorem cast_form (kind kind' a : Int) (h : (kind < 1 ∨ 6 < kind) ∨ (kind' < 1 ∨ 6 < kind')) : alu_Cast.f kind kind' a = some (0, 1) := by
  unfold alu_Cast.f
  by_cases c : kind < 1 ∨ 6 < kind
  · rw [no_isk kind c, Option.bind_some, if_neg (by decide)]
  · obtain ⟨w, hh, P, s, K⟩ := kd_of kind (by omega) (by omega)
    rw [K.isk, Option.bind_some, if_pos rfl, no_isk kind' (by omega), Option.bind_some, if_neg (by decide)]

theorem cast_true (l0 : List Int) (l1 : List ByteArray) (l2 : List S34) (h : Arg26 l0 l1 l2) : Ev (fun k => cellarlaw2_AluCast.f k l0 l1 l2) true := by
  obtain ⟨b, hb, hs⟩ := heavy_ev l0 l1 l2 h
  unfold cellarlaw2_AluCast.f
  refine Ev.bind hb ?_
  cases b with
  | true => exact Ev.pos rfl (Ev.now _)
  | false =>
  refine Ev.neg (by decide) ?_
  have hl := (hs rfl).1
  suffices H : ∀ kd : Int, -1 ≤ kd → kd ≤ 12 → Ev (fun k => cellarlaw2_AluCast.l0 k kd l0 l1 l2) true from H (-1) (by omega) (by omega)
  refine down (Q := fun kd => Ev (fun k => cellarlaw2_AluCast.l0 k kd l0 l1 l2) true) ?_ ?_
  · refine Ev.step (fun k => by rw [cellarlaw2_AluCast.l0]) ?_
    exact Ev.neg (by omega) (Ev.bind (Ev.plus 5 wakes2) (Ev.now _))
  intro kind k0 k1 ihk
  obtain ⟨ns, hns, hb⟩ := numbers_ev l0 l1 l2 kind hl
  refine Ev.step (fun k => by rw [cellarlaw2_AluCast.l0]) ?_
  refine Ev.pos (by omega) (Ev.bind hns ?_)
  suffices H : ∀ kd : Int, -1 ≤ kd → kd ≤ 12 → Ev (fun k => cellarlaw2_AluCast.l1 k kind ns kd l0 l1 l2) true from H (-1) (by omega) (by omega)
  refine down (Q := fun kd => Ev (fun k => cellarlaw2_AluCast.l1 k kind ns kd l0 l1 l2) true) ?_ ?_
  · refine Ev.step (fun k => by rw [cellarlaw2_AluCast.l1]) ?_
    refine Ev.neg (by omega) ?_
    rw [w64 (z := kind + 1) (by omega) (by omega)]
    exact ihk
  intro kind' j0 j1 ihj
  refine Ev.step (fun k => by rw [cellarlaw2_AluCast.l1]) ?_
  refine Ev.pos (by omega) ?_
  suffices H : ∀ j : Int, 0 ≤ j → j ≤ ns.length → Ev (fun k => cellarlaw2_AluCast.l2 k kind ns kind' j l0 l1 l2) true from H 0 (by omega) (by omega)
  refine down (Q := fun j => Ev (fun k => cellarlaw2_AluCast.l2 k kind ns kind' j l0 l1 l2) true) ?_ ?_
  · refine Ev.step (fun k => by rw [cellarlaw2_AluCast.l2]) ?_
    refine Ev.neg (by omega) ?_
    rw [w64 (z := kind' + 1) (by omega) (by omega)]
    exact ihj
  intro m m0 m1 ihm
  refine Ev.step (fun k => by rw [cellarlaw2_AluCast.l2]) ?_
  refine Ev.pos m1 (Ev.pos m0 ?_)
  have out : Ev (fun k => cellarlaw2_AluCast.j3 k kind ns kind' m 0 1 1 0 false l0 l1 l2) true := by
    refine Ev.step (fun k => by rw [cellarlaw2_AluCast.j3]) ?_
    refine Ev.neg (by decide) (Ev.bindS (num_some _) (Ev.pos rfl (Ev.pos rfl ?_)))
    rw [w64 (z := m + 1) (by omega) (by omega)]
    exact ihm
  by_cases n1 : kind < 1 ∨ 6 < kind
  · refine Ev.bindS (cast_form _ _ _ (.inl n1)) (Ev.bind (Ev.plus 2 fun k => no_kind kind n1 k) (Ev.neg (by decide) out))
  obtain ⟨w, hh, P, s, K⟩ := kd_of kind (by omega) (by omega)
  have w1 := K.w1
  by_cases n2 : kind' < 1 ∨ 6 < kind'
  · refine Ev.bindS (cast_form _ _ _ (.inr n2)) (Ev.bind (Ev.plus 2 K.wd) (Ev.pos (show w > 0 by omega) (Ev.bind (Ev.plus 2 fun k => no_kind kind' n2 k) (Ev.neg (by decide) out))))
  obtain ⟨w', hh', P', s', K'⟩ := kd_of kind' (by omega) (by omega)
  have w1' := K'.w1
  refine Ev.bindS (K.turn K' _) (Ev.bind (Ev.plus 2 K.wd) (Ev.pos (show w > 0 by omega) (Ev.bind (Ev.plus 2 K'.wd) (Ev.pos (show w' > 0 by omega) (Ev.bind (Ev.plus 2 K.wd) (Ev.bindS (K.number _) ?_))))))
  by_cases c : 0 ≤ rd ns m ∧ rd ns m < P
  · rw [if_pos c, decide_eq_true c]
    refine Ev.step (fun k => by rw [cellarlaw2_AluCast.j3]) ?_
    refine Ev.pos rfl (Ev.pos m0 (Ev.pos m1 (Ev.bind (Ev.plus 2 fun k => K.rturn K' k _ c) (Ev.bindS (num_some _) (Ev.pos rfl (Ev.pos rfl ?_))))))
    rw [w64 (z := m + 1) (by omega) (by omega)]
    exact ihm
  · rw [if_neg c, decide_eq_false c]
    exact out
end Go.Proofs.Ytjhgpankffdnaaa.A
