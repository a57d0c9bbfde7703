/- WordExact: widths, signs, sizes, wrapped and seen numbers: the program's are the reference's; the loops answer true. No Go and no memory in it. -/
import Derived.Test.YtjhgpankffdnaaaAx3
import Derived.Test.YtjhgpankffdnaaaPlainA
namespace Go.Proofs.Ytjhgpankffdnaaa.A
open Go.RowKit Go.Proofs.YtjhgpankffdnaaaW.PrintWords Go.Proofs.YtjhgpankffdnaaaW.PrintLast Go.Proofs.YtjhgpankffdnaaaW.PrintMore Go.Proofs.Ytjhgpankffdnaaa.Evs
set_option linter.unusedVariables false
set_option linter.unusedSimpArgs false

theorem num1_some (n : Int) : cellarlaw1_num.f n = some n := rfl
theorem kd_width (w : Int) (h : w = 8 ∨ w = 16 ∨ w = 32) : ∃ kind hh P s, KD kind w hh P s := by
  rcases h with rfl | rfl | rfl
  · exact ⟨_, _, _, _, kd8 1 false (by decide +kernel) (by decide +kernel) (by decide +kernel) (fun k => rfl) (by decide +kernel)⟩
  · exact ⟨_, _, _, _, kd16 3 false (by decide +kernel) (by decide +kernel) (by decide +kernel) (fun k => rfl) (by decide +kernel)⟩
  · exact ⟨_, _, _, _, kd32 5 false (by decide +kernel) (by decide +kernel) (by decide +kernel) (fun k => rfl) (by decide +kernel)⟩
theorem isw (w : Int) : word_IsWidth.f w = some (decide (w = 8 ∨ w = 16 ∨ w = 32)) := by
  unfold word_IsWidth.f
  by_cases h : w = 8
  · simp [h]
  by_cases h2 : w = 16
  · simp [h2]
  · by_cases h3 : w = 32
    · simp [h3]
    · simp [h, h2, h3]
theorem risw (w : Int) : cellarref1_IsWidth.f w = some (decide (w = 8 ∨ w = 16 ∨ w = 32)) := isw w
section
variable {kind w h P : Int} {s : Bool} (K : KD kind w h P s) (hw : w = 8 ∨ w = 16 ∨ w = 32)
include K hw
theorem KD.awrap (n : Int) : word_Wrap.f n w = some (n % P, 0) := by
  unfold word_Wrap.f
  rw [isw, decide_eq_true hw, Option.bind_some, if_pos rfl, K.cut]
  rfl
theorem KD.aview (n : Int) : word_View.f n w = some (if 0 ≤ n ∧ n < P then (if n ≥ h then n - P else n, 0) else (0, 1)) := by
  unfold word_View.f
  rw [isw, decide_eq_true hw, Option.bind_some, if_pos rfl, K.is, Option.bind_some]
  by_cases c : 0 ≤ n ∧ n < P
  · rw [decide_eq_true c, if_pos rfl, if_pos c, K.look n c.1 c.2]
    rfl
  · rw [decide_eq_false c, if_neg (by decide), if_neg c]
end
theorem wakes1 : cellarlaw1_wakes.f = some true := by
  obtain ⟨kind, h, P, s, K⟩ : ∃ kind h P s, KD kind 8 h P s := kd_width 8 (.inl rfl)
  have K1 : KD 1 8 128 256 false := kd8 1 false (by decide +kernel) (by decide +kernel) (by decide +kernel) (fun k => rfl) (by decide +kernel)
  unfold cellarlaw1_wakes.f
  rw [K1.aview (.inl rfl), K1.awrap (.inl rfl)]
  decide +kernel

/-! ### Kinds -/
theorem awidth (kind : Int) : word_Width.f kind = some (if 1 ≤ kind ∧ kind ≤ 6 then ((word_Of.f kind).getD 0, 0) else (0, 1)) := by
  unfold word_Width.f
  by_cases c : 1 ≤ kind ∧ kind ≤ 6
  · obtain ⟨w, h, P, s, K⟩ := kd_of kind c.1 c.2
    rw [K.isk, Option.bind_some, if_pos rfl, K.of, if_pos c]
    rfl
  · rw [no_isk kind (by omega), if_neg c]
    rfl
theorem asigned (kind : Int) : word_Signed.f kind = some (if 1 ≤ kind ∧ kind ≤ 6 then ((word_IsSigned.f kind).getD false, 0) else (false, 1)) := by
  unfold word_Signed.f
  by_cases c : 1 ≤ kind ∧ kind ≤ 6
  · obtain ⟨w, h, P, s, K⟩ := kd_of kind c.1 c.2
    rw [K.isk, Option.bind_some, if_pos rfl, K.sg, if_pos c]
    rfl
  · rw [no_isk kind (by omega), if_neg c]
    rfl
theorem amay (b : Bool) (p : Int) : word_May.f b p = some (decide (p = 2 ∨ p = 4)) := by
  unfold word_May.f
  by_cases c : p = 2
  · simp [c]
  · by_cases d : p = 4
    · simp [d]
    · simp [c, d]
theorem ascalar (kind : Int) : word_IsScalar.f kind = some (decide (1 ≤ kind ∧ kind ≤ 7)) := by
  unfold word_IsScalar.f
  by_cases c : kind ≥ 1
  · rw [if_pos c]
    congr 1
    rw [decide_eq_decide]
    omega
  · rw [if_neg c]
    congr 1
    symm
    rw [decide_eq_false_iff_not]
    omega
theorem rkind (kind : Int) : cellarref1_Kind.f kind = some (decide (1 ≤ kind ∧ kind ≤ 7)) := by
  unfold cellarref1_Kind.f cellarref0_Between.f
  by_cases c : kind ≥ 1
  · rw [if_pos c, Option.bind_some]
    congr 1
    rw [decide_eq_decide]
    omega
  · rw [if_neg c, Option.bind_some]
    congr 1
    symm
    rw [decide_eq_false_iff_not]
    omega
theorem rabi (b : Bool) (p : Int) : cellarref1_Abi.f b p = some (decide (p = 2 ∨ p = 4)) := amay b p
/-- How many bytes a scalar has. -/
def sizev (p kind : Int) : Int := if kind = 7 then p else wrap64 (Int.tdiv ((word_Of.f kind).getD 0) 8)
theorem rsize (k : Nat) (b : Bool) (p kind : Int) (h : 1 ≤ kind ∧ kind ≤ 7) : cellarref1_Size.f (k + 2) b p kind = some (sizev p kind) := by
  unfold cellarref1_Size.f sizev
  by_cases c : kind = 7
  · rw [if_pos c, if_pos c]
  · obtain ⟨w, hh, P, s, K⟩ := kd_of kind (by omega) (by omega)
    rw [if_neg c, if_neg c, K.wd, K.of]
    rfl
theorem asize (b : Bool) (p kind : Int) : word_Size.f b p kind = some (if (p = 2 ∨ p = 4) ∧ (1 ≤ kind ∧ kind ≤ 7) then (sizev p kind, 0) else (0, 1)) := by
  have bts : 1 ≤ kind ∧ kind ≤ 7 → word_Bytes.f b p kind = some (sizev p kind) := by
    intro d
    unfold word_Bytes.f sizev
    by_cases e : kind = 7
    · rw [if_pos e, if_pos e]
    · obtain ⟨w, hh, P, s, K⟩ := kd_of kind (by omega) (by omega)
      rw [if_neg e, if_neg e, K.of]
      rfl
  unfold word_Size.f
  rw [amay, Option.bind_some]
  by_cases c : p = 2 ∨ p = 4
  · rw [decide_eq_true c, if_pos rfl, ascalar, Option.bind_some]
    by_cases d : 1 ≤ kind ∧ kind ≤ 7
    · have cd : (p = 2 ∨ p = 4) ∧ (1 ≤ kind ∧ kind ≤ 7) := And.intro c d
      rw [decide_eq_true d, if_pos rfl, if_pos cd, bts d]
      rfl
    · rw [decide_eq_false d, if_neg (by decide), if_neg (by omega)]
  · rw [decide_eq_false c, if_neg (by decide), if_neg (by omega)]

/-! ### The loops -/
theorem exact_numbers (ns : List Int) (hn : ns.length ≤ 300) : Ev (fun k => cellarlaw1_WordExact.l2 k ns 0) true := by
  have fin : ∀ i, Ev (fun k => cellarlaw1_WordExact.j7 k ns i false) true := fun i => by
    refine Ev.step (fun k => by rw [cellarlaw1_WordExact.j7]) ?_
    exact Ev.neg (by decide) (Ev.bindS wakes1 (Ev.now _))
  suffices H : ∀ i : Int, 0 ≤ i → i ≤ ns.length → Ev (fun k => cellarlaw1_WordExact.l2 k ns i) true from H 0 (by omega) (by omega)
  refine down (Q := fun i => Ev (fun k => cellarlaw1_WordExact.l2 k ns i) true) ?_ ?_
  · refine Ev.step (fun k => by rw [cellarlaw1_WordExact.l2]) ?_
    exact Ev.neg (by omega) (fin _)
  intro i i0 i1 ih
  refine Ev.step (fun k => by rw [cellarlaw1_WordExact.l2]) ?_
  refine Ev.pos i1 ?_
  by_cases c : i < 30
  · rw [decide_eq_true c]
    refine Ev.step (fun k => by rw [cellarlaw1_WordExact.j7]) ?_
    refine Ev.pos rfl ?_
    suffices H : ∀ m : Int, 0 ≤ m → m ≤ 5 → Ev (fun k => cellarlaw1_WordExact.l3 k ns i m) true from H 0 (by omega) (by omega)
    refine down (Q := fun m => Ev (fun k => cellarlaw1_WordExact.l3 k ns i m) true) ?_ ?_
    · refine Ev.step (fun k => by rw [cellarlaw1_WordExact.l3]) ?_
      refine Ev.neg (by omega) ?_
      rw [w64 (z := i + 1) (by omega) (by omega)]
      exact ih
    intro m m0 m1 ihm
    have next : ∀ a b c d : Int, Ev (fun k => cellarlaw1_WordExact.j9 k ns i m a b c d b d a c) true := fun a b c d => by
      refine Ev.step (fun k => by rw [cellarlaw1_WordExact.j9]) ?_
      refine Ev.bindS (num1_some _) (Ev.pos rfl (Ev.pos rfl (Ev.bindS (num1_some _) (Ev.pos rfl (Ev.pos rfl ?_)))))
      rw [w64 (z := m + 1) (by omega) (by omega)]
      exact ihm
    refine Ev.step (fun k => by rw [cellarlaw1_WordExact.l3]) ?_
    refine Ev.pos m1 (Ev.bindS rfl (Ev.pos m0 (Ev.pos (show m < ((([8, 16, 32, 0, 64] : List Int).length : Nat) : Int) from m1) (Ev.pos i0 (Ev.pos i1 ?_)))))
    generalize hw : rd [8, 16, 32, 0, 64] m = w
    by_cases cw : w = 8 ∨ w = 16 ∨ w = 32
    · obtain ⟨kind, h, P, s, K⟩ := kd_width w cw
      refine Ev.bindS (K.awrap cw _) (Ev.bindS (K.aview cw _) (Ev.bindS (risw _) (Ev.pos (decide_eq_true cw) (Ev.bindS (K.wrap _) (Ev.bindS (K.number _) ?_)))))
      by_cases d : 0 ≤ rd ns i ∧ rd ns i < P
      · rw [if_pos d]
        exact Ev.pos (decide_eq_true d) (Ev.bindS (K.view _ d.1 d.2) (next _ _ _ _))
      · rw [if_neg d]
        exact Ev.neg (by simpa using d) (next _ _ _ _)
    · have e1 : word_Wrap.f (rd ns i) w = some (0, 1) := by
        unfold word_Wrap.f
        rw [isw, decide_eq_false cw]
        rfl
      have e2 : word_View.f (rd ns i) w = some (0, 1) := by
        unfold word_View.f
        rw [isw, decide_eq_false cw]
        rfl
      exact Ev.bindS e1 (Ev.bindS e2 (Ev.bindS (risw _) (Ev.neg (by simpa using cw) (next _ _ _ _))))
  · rw [decide_eq_false c]
    exact fin _

theorem exact_true (l0 : List Int) (l1 : List ByteArray) (l2 : List S34) (h : Arg26 l0 l1 l2) : Ev (fun k => cellarlaw1_WordExact.f k l0 l1 l2) true := by
  obtain ⟨b, hb, hs⟩ := heavy_ev l0 l1 l2 h
  unfold cellarlaw1_WordExact.f
  refine Ev.bind hb ?_
  cases b with
  | true => exact Ev.pos rfl (Ev.now _)
  | false =>
  refine Ev.neg (by decide) (Ev.bindS rfl ?_)
  have hl := hs rfl
  refine Ev.pos (by simp; omega) ?_
  generalize has : [(⟨false, 4⟩ : S34), ⟨true, 2⟩, ⟨false, 0⟩] ++ l2 = ms0
  have hal : ms0.length ≤ 103 := by rw [← has]; simp; omega
  suffices H : ∀ kd : Int, -1 ≤ kd → kd ≤ 12 → Ev (fun k => cellarlaw1_WordExact.l0 k ms0 kd l0 l1 l2) true from H (-1) (by omega) (by omega)
  refine down (Q := fun kd => Ev (fun k => cellarlaw1_WordExact.l0 k ms0 kd l0 l1 l2) true) ?_ ?_
  · refine Ev.step (fun k => by rw [cellarlaw1_WordExact.l0]) ?_
    refine Ev.neg (by omega) (Ev.bindS rfl ?_)
    refine Ev.pos (by simp; omega) ?_
    exact exact_numbers _ (by simp; omega)
  intro kind k0 k1 ihk
  -- the machines
  have ms : Ev (fun k => cellarlaw1_WordExact.l1 k ms0 kind 0 l0 l1 l2) true := by
    have fin : ∀ i, Ev (fun k => cellarlaw1_WordExact.j4 k ms0 kind i false l0 l1 l2) true := fun i => by
      refine Ev.step (fun k => by rw [cellarlaw1_WordExact.j4]) ?_
      refine Ev.neg (by decide) ?_
      rw [w64 (z := kind + 1) (by omega) (by omega)]
      exact ihk
    suffices H : ∀ i : Int, 0 ≤ i → i ≤ ms0.length → Ev (fun k => cellarlaw1_WordExact.l1 k ms0 kind i l0 l1 l2) true from H 0 (by omega) (by omega)
    refine down (Q := fun i => Ev (fun k => cellarlaw1_WordExact.l1 k ms0 kind i l0 l1 l2) true) ?_ ?_
    · refine Ev.step (fun k => by rw [cellarlaw1_WordExact.l1]) ?_
      exact Ev.neg (by omega) (fin _)
    intro i i0 i1 ih
    refine Ev.step (fun k => by rw [cellarlaw1_WordExact.l1]) ?_
    refine Ev.pos i1 ?_
    by_cases c : i < 8
    · rw [decide_eq_true c]
      refine Ev.step (fun k => by rw [cellarlaw1_WordExact.j4]) ?_
      refine Ev.pos rfl (Ev.pos i0 (Ev.pos i1 (Ev.bindS (asize _ _ _) (Ev.bindS (rabi _ _) ?_))))
      have out : Ev (fun k => cellarlaw1_WordExact.j5 k ms0 kind i 0 1 1 0 false l0 l1 l2) true := by
        refine Ev.step (fun k => by rw [cellarlaw1_WordExact.j5]) ?_
        refine Ev.neg (by decide) (Ev.bindS (num1_some _) (Ev.pos rfl (Ev.pos rfl ?_)))
        rw [w64 (z := i + 1) (by omega) (by omega)]
        exact ih
      by_cases p : (rd_T34 ms0 i).f1 = 2 ∨ (rd_T34 ms0 i).f1 = 4
      · refine Ev.pos (decide_eq_true p) (Ev.bindS (rkind _) ?_)
        by_cases q : 1 ≤ kind ∧ kind ≤ 7
        · rw [if_pos ⟨p, q⟩, decide_eq_true q]
          refine Ev.step (fun k => by rw [cellarlaw1_WordExact.j5]) ?_
          refine Ev.pos rfl (Ev.pos i0 (Ev.pos i1 (Ev.bind (Ev.plus 2 fun k => rsize k _ _ _ q) (Ev.bindS (num1_some _) (Ev.pos rfl (Ev.pos rfl ?_))))))
          rw [w64 (z := i + 1) (by omega) (by omega)]
          exact ih
        · rw [if_neg (by omega), decide_eq_false q]
          exact out
      · rw [if_neg (by omega)]
        exact Ev.neg (by simpa using p) out
    · rw [decide_eq_false c]
      exact fin _
  refine Ev.step (fun k => by rw [cellarlaw1_WordExact.l0]) ?_
  refine Ev.pos (by omega) (Ev.bindS (awidth _) (Ev.bindS (asigned _) ?_))
  have go : Ev (fun k => cellarlaw1_WordExact.j2 k ms0 kind false l0 l1 l2) true := by
    refine Ev.step (fun k => by rw [cellarlaw1_WordExact.j2]) ?_
    exact Ev.neg (by decide) ms
  by_cases c : 1 ≤ kind ∧ kind ≤ 6
  · obtain ⟨w, hh, P, s, K⟩ := kd_of kind c.1 c.2
    have w1 := K.w1
    rw [if_pos c, if_pos c, K.of, K.sg]
    refine Ev.bind (Ev.plus 2 K.wd) (Ev.pos (show w > 0 by omega) (Ev.bindS K.rsg ?_))
    refine Ev.step (fun k => by rw [cellarlaw1_WordExact.j1]) ?_
    refine Ev.bindS (num1_some _) (Ev.pos rfl (Ev.bind (Ev.plus 2 K.wd) (Ev.pos rfl (Ev.bindS (num1_some _) (Ev.pos rfl ?_)))))
    simpa using go
  · rw [if_neg c, if_neg c]
    refine Ev.bind (Ev.plus 2 (no_kind kind (by omega))) (Ev.neg (by decide) ?_)
    refine Ev.step (fun k => by rw [cellarlaw1_WordExact.j1]) ?_
    refine Ev.bindS (num1_some _) (Ev.pos rfl (Ev.bind (Ev.plus 2 (no_kind kind (by omega))) (Ev.pos rfl (Ev.bindS (num1_some _) (Ev.pos rfl ?_)))))
    exact go
end Go.Proofs.Ytjhgpankffdnaaa.A
