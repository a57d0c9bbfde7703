/- Scalars as bytes: what the program's bytes tells of any scalar, and of any bytes, is what the reference tells. No Go and no memory in it. -/
import Derived.Test.YthhdmanpjeminaaDx3
import Derived.Test.YthhdmanpjeminaaDx5
import Derived.Test.YthhdmanpjeminaaDx6
import Derived.Test.YthhdmanpjeminaaDx7
import Derived.Test.YthhdmanpjeminaaDx9
import Derived.Test.YthhdmanpjeminaaDx10
import Derived.Test.YthhdmanpjeminaaEvs
import Derived.Test.YthhdmanpjeminaaFn
namespace Go.Proofs.Ythhdmanpjeminaa.D
open Go.RowKit Go.Proofs.Ythhdmanpjeminaa.Fn Go.Proofs.YthhdmanpjeminaaW.PrintWords Go.Proofs.YthhdmanpjeminaaW.PrintLast Go.Proofs.YthhdmanpjeminaaW.PrintMore Go.Proofs.Ythhdmanpjeminaa.Evs
set_option linter.unusedVariables false
set_option linter.unusedSimpArgs false

theorem amay (b : Bool) (p : Int) : word_May.f b p = some (decide (p = 2 ∨ p = 4)) := by
  unfold word_May.f
  by_cases c : p = 2
  · simp [c]
  · by_cases d : p = 4
    · simp [d]
    · simp [c, d]
theorem rabi (b : Bool) (p : Int) : cellarref1_Abi.f b p = some (decide (p = 2 ∨ p = 4)) := amay b p
theorem rd_get (l : List S51) (i : Nat) (h : i < l.length) : rd_T51 l (i : Int) = l[i] := by
  unfold rd_T51
  simp [List.getD_eq_getElem?_getD, List.getElem?_eq_getElem h]

/-! ### BytesPut -/
theorem wakes_ev : Ev (fun k => cellarlaw8_wakes.f k) true := by
  refine Ev.plus 12 fun k => ?_
  kernel_rfl
theorem machines (A : List S38) (hA : A.length ≤ 300) : ∃ ms, cellarlaw8_Machines.f A = some ms ∧ ms.length ≤ 6 := by
  unfold cellarlaw8_Machines.f
  rw [Option.bind_some, if_pos (by simp; omega), Option.bind_some]
  split
  · split
    · exact ⟨_, rfl, by rw [List.length_take]; omega⟩
    · omega
  · exact ⟨_, rfl, by omega⟩
theorem heavy (A : List S38) (S : List S33) (B : List S51) (hA : A.length ≤ 140737488351232) (hS : S.length ≤ 140737488351232) (hB : B.length ≤ 140737488351232) :
    cellarlaw8_Heavy.f A S B = some (decide (300 < A.length + S.length + B.length)) := by
  unfold cellarlaw8_Heavy.f
  congr 1
  rw [decide_eq_decide, w64 (z := (A.length : Int) + S.length) (by omega) (by omega), w64 (by omega) (by omega)]
  omega

theorem copy_ev (l : List S51) (hl : l.length ≤ 1000000) : Ev (fun k => cellarref0_CopyBytes.f k l) l := by
  have key : ∀ i : Int, 0 ≤ i → i ≤ l.length → Ev (fun k => cellarref0_CopyBytes.l0 k l (l.take i.toNat) i) l := by
    refine down (Q := fun i => Ev (fun k => cellarref0_CopyBytes.l0 k l (l.take i.toNat) i) l) ?_ ?_
    · refine Ev.step (fun k => by rw [cellarref0_CopyBytes.l0]) ?_
      refine Ev.neg (by omega) (Ev.val ?_)
      rw [Int.toNat_natCast, List.take_length]
    intro i i0 i1 ih
    refine Ev.step (fun k => by rw [cellarref0_CopyBytes.l0]) ?_
    refine Ev.pos i1 (Ev.pos i0 ?_)
    refine Ev.pos (by rw [List.length_take]; omega) ?_
    obtain ⟨n, rfl⟩ := Int.eq_ofNat_of_zero_le i0
    have hn : n < l.length := by omega
    rw [w64 (z := (n : Int) + 1) (by omega) (by omega), rd_get l n hn, Int.toNat_natCast, List.take_append_getElem hn]
    exact ih
  exact key 0 (by omega) (by omega)

/-! ### The kinds' laws: all that is made here is looked at -/
/-- The scalar that is made i-th, of a kind. -/
def sc (kind i : Int) : Option S33 :=
  if kind = 7 then (if Int.tmod i 7 = 0 then some ⟨true, 0, Int.tmod i 7, 0⟩ else some ⟨true, 0, Int.tmod i 7, Int.tmod (wrap64 (i * 5)) 30⟩)
  else (cellarref1_Width.f 9 kind).bind fun w => if 0 ≤ wrap64 (w - 1) then ((some (([0, (-1), shl .i64 1 (wrap64 (w - 1)), wrap64 ((shl .i64 1 (wrap64 (w - 1))) - 1), wrap64 (i * 7919)] : List Int) : List Int)).bind fun y => if 0 ≤ Int.tmod i 5 then (if Int.tmod i 5 < (y.length : Int) then (cellarref1_Wrap.f (rd y (Int.tmod i 5)) w).bind fun n => some ⟨false, n, 0, 0⟩ else none) else none) else none
/-- What both tell that bytes are, where they tell the same. -/
def gets (big : Bool) (ptr kind : Int) (l : List S51) : Option (Bool × Int × Int × Int × Int) :=
  (bytes_Get.f 20 big ptr kind l).bind fun a => (cellarref7_Get.f 20 big ptr kind l).bind fun b => if a = (b.1, b.2.1, b.2.2.1, b.2.2.2.1, b.2.2.2.2, 0) then some b else none
def part (i : Int) : S51 := ⟨2, 0, wrap64 (1 + (Int.tmod i 5)), Int.tmod i 9, Int.tmod i 4⟩
def chk (big : Bool) (ptr kind i : Int) : Bool :=
  match sc kind i with
  | none => false
  | some s => match bytes_Put.f 20 big ptr kind s.f0 s.f1 s.f2 s.f3, cellarref7_Put.f 20 big ptr kind s.f0 s.f1 s.f2 s.f3 with
    | some (l, e), some t => decide (e = 0) && (decide (0 < l.length) && (decide (l.length ≤ 4) && (decide (cellarref0_EqBytes.f 20 l t = some true) && (decide (gets big ptr kind l = some (s.f0, s.f1, s.f2, s.f3, 0)) && ((gets big ptr kind (l.set (Int.tmod i l.length).toNat (part i))).isSome && (gets big ptr kind (l.set (Int.tmod i l.length).toNat ⟨1, i, 0, 0, 0⟩)).isSome)))))
    | _, _ => false
/-- All that is made here of a kind. -/
def allk (kind : Int) : Bool := [false, true].all fun big => [2, 4].all fun ptr => (List.range 20).all fun i => chk big ptr kind i
theorem chk_of {kind : Int} (h : allk kind = true) (big : Bool) (ptr i : Int) (hp : ptr = 2 ∨ ptr = 4) (i0 : 0 ≤ i) (i1 : i < 20) : chk big ptr kind i = true := by
  unfold allk at h
  rw [List.all_eq_true] at h
  have h1 := h big (by cases big <;> decide)
  rw [List.all_eq_true] at h1
  have h2 := h1 ptr (by rcases hp with rfl | rfl <;> decide)
  rw [List.all_eq_true] at h2
  obtain ⟨n, rfl⟩ := Int.eq_ofNat_of_zero_le i0
  exact h2 n (List.mem_range.mpr (by omega))
/-- More rounds tell the same. -/
structure Mon : Prop where
  put : ∀ a0 a1 a2 a3 a4 a5 a6 k, LeO (bytes_Put.f k a0 a1 a2 a3 a4 a5 a6) (bytes_Put.f (k + 1) a0 a1 a2 a3 a4 a5 a6)
  rput : ∀ a0 a1 a2 a3 a4 a5 a6 k, LeO (cellarref7_Put.f k a0 a1 a2 a3 a4 a5 a6) (cellarref7_Put.f (k + 1) a0 a1 a2 a3 a4 a5 a6)
  get : ∀ a0 a1 a2 a3 k, LeO (bytes_Get.f k a0 a1 a2 a3) (bytes_Get.f (k + 1) a0 a1 a2 a3)
  rget : ∀ a0 a1 a2 a3 k, LeO (cellarref7_Get.f k a0 a1 a2 a3) (cellarref7_Get.f (k + 1) a0 a1 a2 a3)
  eqb : ∀ a0 a1 k, LeO (cellarref0_EqBytes.f k a0 a1) (cellarref0_EqBytes.f (k + 1) a0 a1)
  wid : ∀ a0 k, LeO (cellarref1_Width.f k a0) (cellarref1_Width.f (k + 1) a0)
section
variable (M : Mon)
include M
theorem gets_ev {big : Bool} {ptr kind : Int} {l : List S51} {b : Bool × Int × Int × Int × Int} (h : gets big ptr kind l = some b) :
    Ev (fun k => bytes_Get.f k big ptr kind l) (b.1, b.2.1, b.2.2.1, b.2.2.2.1, b.2.2.2.2, 0) ∧ Ev (fun k => cellarref7_Get.f k big ptr kind l) b := by
  unfold gets at h
  obtain ⟨a, ha, h⟩ := Option.bind_eq_some_iff.1 h
  obtain ⟨b', hb, h⟩ := Option.bind_eq_some_iff.1 h
  split at h
  · rename_i e
    injection h with h
    subst h
    subst e
    exact ⟨Ev.of (M.get _ _ _ _) ha, Ev.of (M.rget _ _ _ _) hb⟩
  · cases h
variable (kind : Int) (ms : List S38) (q : Int) (q0 : 0 ≤ q) (q1 : q < ms.length)
include q0 q1
theorem j5_ev {i j : Int} {l v : List S51} {s : S33} {b : Bool × Int × Int × Int × Int} (hg : gets (rd_T38 ms q).f0 (rd_T38 ms q).f1 kind v = some b) (hb : j = 0 → b = (s.f0, s.f1, s.f2, s.f3, 0)) (j0 : 0 ≤ j) (j1 : j < 3)
    (nx : Ev (fun k => cellarlaw8_kind.l2 k kind ms q i l (j + 1) s.f0 s.f1 s.f2 s.f3) true) : Ev (fun k => cellarlaw8_kind.j5 k kind ms q i l j v s.f0 s.f1 s.f2 s.f3) true := by
  have J : Ev (fun k => cellarlaw8_kind.j6 k kind ms q i l j false s.f0 s.f1 s.f2 s.f3) true := by
    refine Ev.step (fun k => by rw [cellarlaw8_kind.j6]) ?_
    refine Ev.neg (by decide) ?_
    rw [w64 (z := j + 1) (by omega) (by omega)]
    exact nx
  obtain ⟨e1, e2⟩ := gets_ev M hg
  refine Ev.step (fun k => by rw [cellarlaw8_kind.j5]) ?_
  refine Ev.pos q0 (Ev.pos q1 (Ev.bind e1 (Ev.bind e2 (Ev.bindS rfl (Ev.pos rfl ?_)))))
  refine Ev.neg (by simp) (Ev.pos rfl ?_)
  by_cases c : j = 0
  · have e := hb c
    subst e
    refine Ev.pos c (Ev.neg (by simp) ?_)
    exact J
  · exact Ev.neg c J
theorem one_ev (i : Int) (i0 : 0 ≤ i) (i1 : i < 20) (h : chk (rd_T38 ms q).f0 (rd_T38 ms q).f1 kind i = true) (hk : 1 ≤ kind ∧ kind ≤ 7)
    (nx : Ev (fun k => cellarlaw8_kind.l1 k kind ms q (i + 1)) true) : Ev (fun k => cellarlaw8_kind.l1 k kind ms q i) true := by
  unfold chk at h
  cases hs : sc kind i with
  | none => rw [hs] at h; cases h
  | some s =>
  rw [hs] at h
  dsimp only at h
  cases hp : bytes_Put.f 20 (rd_T38 ms q).f0 (rd_T38 ms q).f1 kind s.f0 s.f1 s.f2 s.f3 with
  | none => rw [hp] at h; cases h
  | some le =>
  cases hr : cellarref7_Put.f 20 (rd_T38 ms q).f0 (rd_T38 ms q).f1 kind s.f0 s.f1 s.f2 s.f3 with
  | none => rw [hp, hr] at h; cases h
  | some t =>
  rw [hp, hr] at h
  obtain ⟨l, e⟩ := le
  dsimp only at h
  simp only [Bool.and_eq_true, decide_eq_true_eq] at h
  obtain ⟨rfl, h1, h4, heq, g0, g1, g2⟩ := h
  obtain ⟨b1, g1⟩ := Option.isSome_iff_exists.1 g1
  obtain ⟨b2, g2⟩ := Option.isSome_iff_exists.1 g2
  have t0 : 0 ≤ Int.tmod i (l.length : Int) := Int.tmod_nonneg _ i0
  have t1 : Int.tmod i (l.length : Int) < (l.length : Int) := Int.tmod_lt_of_pos _ (by omega)
  -- the three
  have L3 : Ev (fun k => cellarlaw8_kind.l2 k kind ms q i l 3 s.f0 s.f1 s.f2 s.f3) true := by
    refine Ev.step (fun k => by rw [cellarlaw8_kind.l2]) ?_
    refine Ev.neg (by omega) ?_
    rw [w64 (z := i + 1) (by omega) (by omega)]
    exact nx
  have L2 : Ev (fun k => cellarlaw8_kind.l2 k kind ms q i l 2 s.f0 s.f1 s.f2 s.f3) true := by
    refine Ev.step (fun k => by rw [cellarlaw8_kind.l2]) ?_
    refine Ev.pos (by omega) (Ev.bind (copy_ev l (by omega)) ?_)
    refine Ev.neg (by omega) (Ev.pos rfl (Ev.neg (by omega) (Ev.pos t0 (Ev.pos t1 ?_))))
    exact j5_ev M kind ms q q0 q1 g2 (fun h => absurd h (by omega)) (by omega) (by omega) L3
  have L1 : Ev (fun k => cellarlaw8_kind.l2 k kind ms q i l 1 s.f0 s.f1 s.f2 s.f3) true := by
    refine Ev.step (fun k => by rw [cellarlaw8_kind.l2]) ?_
    refine Ev.pos (by omega) (Ev.bind (copy_ev l (by omega)) ?_)
    refine Ev.pos rfl (Ev.neg (by omega) (Ev.pos t0 (Ev.pos t1 ?_)))
    exact j5_ev M kind ms q q0 q1 g1 (fun h => absurd h (by omega)) (by omega) (by omega) L2
  have L0 : Ev (fun k => cellarlaw8_kind.l2 k kind ms q i l 0 s.f0 s.f1 s.f2 s.f3) true := by
    refine Ev.step (fun k => by rw [cellarlaw8_kind.l2]) ?_
    refine Ev.pos (by omega) (Ev.bind (copy_ev l (by omega)) ?_)
    refine Ev.neg (by omega) (Ev.neg (by omega) ?_)
    exact j5_ev M kind ms q q0 q1 g0 (fun _ => rfl) (by omega) (by omega) L1
  have J2 : Ev (fun k => cellarlaw8_kind.j2 k kind ms q i s.f0 s.f1 s.f2 s.f3) true := by
    refine Ev.step (fun k => by rw [cellarlaw8_kind.j2]) ?_
    refine Ev.pos q0 (Ev.pos q1 (Ev.bind (Ev.of (M.put _ _ _ _ _ _ _) hp) (Ev.bindS rfl (Ev.pos rfl ?_))))
    refine Ev.bind (Ev.of (M.rput _ _ _ _ _ _ _) hr) (Ev.bind (Ev.of (M.eqb _ _) heq) (Ev.pos rfl ?_))
    refine Ev.step (fun k => by rw [cellarlaw8_kind.j3]) ?_
    refine Ev.neg ?_ L0
    rw [beq_iff_eq]
    show ¬ (l.length : Int) = 0
    omega
  refine Ev.step (fun k => by rw [cellarlaw8_kind.l1]) ?_
  refine Ev.pos i1 ?_
  unfold sc at hs
  by_cases c : kind = 7
  · rw [if_pos c] at hs
    refine Ev.pos c ?_
    by_cases d : Int.tmod i 7 = 0
    · rw [if_pos d] at hs
      injection hs with hs
      subst hs
      exact Ev.pos d J2
    · rw [if_neg d] at hs
      injection hs with hs
      subst hs
      exact Ev.neg d J2
  · rw [if_neg c] at hs
    refine Ev.neg c ?_
    obtain ⟨w, hw, hs⟩ := Option.bind_eq_some_iff.1 hs
    refine Ev.bind (Ev.of (M.wid _) hw) ?_
    split at hs
    · rename_i c1
      refine Ev.pos c1 (Ev.bindS rfl ?_)
      rw [Option.bind_some] at hs
      split at hs
      · rename_i c2
        refine Ev.pos c2 ?_
        split at hs
        · rename_i c3
          refine Ev.pos c3 ?_
          obtain ⟨n, hn, hs⟩ := Option.bind_eq_some_iff.1 hs
          injection hs with hs
          subst hs
          exact Ev.bindS hn J2
        · cases hs
      · cases hs
    · cases hs
end
theorem kind_true (M : Mon) (kind : Int) (hk : 1 ≤ kind ∧ kind ≤ 7) (h : allk kind = true) (A : List S38) (S : List S33) (B : List S51) (hA : A.length ≤ 140737488351232) (hS : S.length ≤ 140737488351232) (hB : B.length ≤ 140737488351232) :
    Ev (fun k => cellarlaw8_kind.f k A S B kind) true := by
  unfold cellarlaw8_kind.f
  refine Ev.bindS (heavy A S B hA hS hB) ?_
  by_cases c : 300 < A.length + S.length + B.length
  · exact Ev.pos (decide_eq_true c) (Ev.now _)
  · refine Ev.neg (by simpa using c) ?_
    obtain ⟨ms, ha, hms⟩ := machines A (by omega)
    refine Ev.bindS ha ?_
    suffices H : ∀ q : Int, 0 ≤ q → q ≤ ms.length → Ev (fun k => cellarlaw8_kind.l0 k kind ms q) true from H 0 (by omega) (by omega)
    refine down (Q := fun q => Ev (fun k => cellarlaw8_kind.l0 k kind ms q) true) ?_ ?_
    · refine Ev.step (fun k => by rw [cellarlaw8_kind.l0]) ?_
      exact Ev.neg (by omega) (Ev.bind wakes_ev (Ev.now _))
    intro q q0 q1 ih
    refine Ev.step (fun k => by rw [cellarlaw8_kind.l0]) ?_
    refine Ev.pos q1 (Ev.pos q0 (Ev.bindS (rabi _ _) ?_))
    by_cases hp : (rd_T38 ms q).f1 = 2 ∨ (rd_T38 ms q).f1 = 4
    · refine Ev.pos (decide_eq_true hp) ?_
      suffices H : ∀ i : Int, 0 ≤ i → i ≤ 20 → Ev (fun k => cellarlaw8_kind.l1 k kind ms q i) true from H 0 (by omega) (by omega)
      refine down (Q := fun i => Ev (fun k => cellarlaw8_kind.l1 k kind ms q i) true) ?_ ?_
      · refine Ev.step (fun k => by rw [cellarlaw8_kind.l1]) ?_
        refine Ev.neg (by omega) ?_
        rw [w64 (z := q + 1) (by omega) (by omega)]
        exact ih
      intro i i0 i1 ih
      exact one_ev M kind ms q q0 q1 i i0 i1 (chk_of h _ _ _ hp i0 i1) hk ih
    · refine Ev.neg (by simpa using hp) ?_
      rw [w64 (z := q + 1) (by omega) (by omega)]
      exact ih
theorem all7 : allk 7 = true := by kernel_rfl
theorem all1 : allk 1 = true := by kernel_rfl
theorem all2 : allk 2 = true := by kernel_rfl
theorem all3 : allk 3 = true := by kernel_rfl
theorem all4 : allk 4 = true := by kernel_rfl
theorem all5 : allk 5 = true := by kernel_rfl
theorem all6 : allk 6 = true := by kernel_rfl
end Go.Proofs.Ythhdmanpjeminaa.D

