/- What a law's argument is, read as plain lists and numbers: for each kind of data, that its cells read as a Lean value (in the words of the print), and that its numbers and lengths are in range. -/
import Derived.Test.YtjoplkillkhiaaaZWords
import Derived.Test.YtjoplkillkhiaaaZN
import Derived.WalkKit
import Derived.ProofKit
import Derived.OpenShut
import Derived.ChangeOld
import Derived.Below
import Derived.SizedLaws
import Derived.ChangeArms
import Derived.Deep.Slices
namespace Go.Proofs.Ytjoplkillkhiaaa.Op
open Go.RowKit Go.ChangeShapes Go.WideShapes Go.Deep Go.Proofs.YtjoplkillkhiaaaW.PrintWords
set_option linter.unusedVariables false

/-- A type's data, opened. -/
structure Opens {α : Type} (P : Program) (t : TypeId) (d : Kd α) (good : α → Prop) : Prop where
  cells : P.cellsOf t = d.sz
  opens : ∀ {H : Type} {enc : TypeId × Value → H} {w : World} {base : Nat} {spare : Nat → Bool} {held : Bool} {fuel : Nat} {cs : List Value} {x : DataW H × List MemPlace},
    DataW.trod enc P w base spare held fuel t cs = some x → (∀ n ∈ x.1.weights P t, n ≤ reachBytes) → ∃ a : α, d.K w a cs ∧ good a

theorem opens_int {P : Program} {t : TypeId} {k : IntKind} (ht : P.underlying t = some (.int k)) (hc : P.cellsOf t = 1) : Opens P t (Kd.int k) (fun n => (Lit.int k n).wf = true) where
  cells := hc
  opens := by
    intro H enc w base spare held fuel cs x h _
    obtain ⟨n, rfl, _, hw⟩ := DataW.trod_int ht h
    exact ⟨n, rfl, hw⟩

theorem opens_bool {P : Program} {t : TypeId} (ht : P.underlying t = some .bool) (hc : P.cellsOf t = 1) : Opens P t Kd.bool (fun _ => True) where
  cells := hc
  opens := by
    intro H enc w base spare held fuel cs x h _
    obtain ⟨b, rfl, _⟩ := DataW.trod_bool ht h
    exact ⟨b, rfl, trivial⟩

theorem opens_string {P : Program} {t : TypeId} (ht : P.underlying t = some .string) (hc : P.cellsOf t = 1) : Opens P t Kd.string (fun s => s.size ≤ 140737488351232) where
  cells := hc
  opens := by
    intro H enc w base spare held fuel cs x h hw
    obtain ⟨s, rfl, rfl, _⟩ := DataW.trod_string ht h
    refine ⟨s, rfl, ?_⟩
    have h1 := hw s.data.toList.length (by simp only [DataW.weights, List.mem_singleton])
    rw [Array.length_toList] at h1
    exact h1

theorem weightsAll_mem {H : Type} {P : Program} {e : TypeId} : ∀ {ds : List (DataW H)} {d : DataW H}, d ∈ ds → ∀ n ∈ d.weights P e, n ∈ DataW.weightsAll P e ds
  | d0 :: ds, d, hd, n, hn => by
    simp only [DataW.weightsAll, List.mem_append]
    rcases List.mem_cons.1 hd with rfl | hd
    · exact .inl hn
    · exact .inr (weightsAll_mem hd n hn)

theorem choose_list {α : Type} (Q : Nat → α → Prop) : ∀ n : Nat, (∀ i, i < n → ∃ a, Q i a) → ∃ l : List α, l.length = n ∧ ∀ i a, l[i]? = some a → Q i a
  | 0, _ => ⟨[], rfl, fun i a h => by simp at h⟩
  | n + 1, h => by
    obtain ⟨l, hl, hq⟩ := choose_list Q n (fun i hi => h i (by omega))
    obtain ⟨a, ha⟩ := h n (by omega)
    refine ⟨l ++ [a], by simp [hl], fun i b hb => ?_⟩
    rcases Nat.lt_trichotomy i l.length with hi | hi | hi
    · rw [List.getElem?_append_left hi] at hb
      exact hq i b hb
    · subst hi
      simp at hb
      subst hb
      rw [hl]
      exact ha
    · rw [List.getElem?_eq_none (by simp; omega)] at hb
      exact absurd hb (by simp)

theorem opens_slice {α : Type} {P : Program} {t e : TypeId} {d : Kd α} {good : α → Prop} {B : Nat} (ht : P.underlying t = some (.slice e)) (hc : P.cellsOf t = 1) (hB : P.bytesOf e = B) (he : Opens P e d good) :
    Opens P t (Kd.slice e d) (fun xs => xs.length * B ≤ 140737488351232 ∧ ∀ x ∈ xs, good x) where
  cells := hc
  opens := by
    intro H enc w base spare held fuel cs x h hw
    rcases open_slice ht h with ⟨rfl, rfl⟩ | ⟨a, len, cap, m, n, D, Pl, rfl, hb, hl, hm, hmm, rfl, hi⟩
    · exact ⟨[], ⟨none, 0, rfl, Nat.le_refl _, rfl, by simp, fun hp => absurd hp (by simp)⟩, by simp, fun x hx => by simp at hx⟩
    · have hlm : len ≤ m := by rw [hmm]; split <;> omega
      have key : ∀ i, i < len → ∃ x : α, good x ∧ ∃ c : List Value, c.length = d.sz ∧ d.K w x c ∧ ∀ j u, c[j]? = some u → w.cell? (a.add (i * d.sz + j)) = some u := by
        intro i hil
        obtain ⟨c, hcell, htr⟩ := hi i (by omega)
        obtain ⟨x, hK, hg⟩ := he.opens htr (fun n hn => hw n (by
          simp only [DataW.weights, ht, List.mem_cons, List.mem_append]
          refine .inr (.inl (weightsAll_mem (d := D i) ?_ n hn))
          exact List.mem_map.2 ⟨i, List.mem_range.2 hil, rfl⟩))
        obtain ⟨_, hlen, hat⟩ := World.cells?_some hcell
        rw [he.cells] at hlen hat
        refine ⟨x, hg, c, hlen, hK, fun j u hu => ?_⟩
        have hj : j < d.sz := by rw [← hlen]; exact (List.getElem?_eq_some_iff.1 hu).1
        have := hat j hj
        rw [Go.Deep.add_add] at this
        rw [this, hu]
      obtain ⟨l, hll, hq⟩ := choose_list _ len key
      have h63 : len ≤ 9223372036854775807 := by unfold maxLen at hm; omega
      refine ⟨l, ⟨some a, cap, by rw [hll], by omega, by omega, by omega, fun _ => ⟨a, rfl, fun j p hj => ?_⟩⟩, ?_, fun x hx => ?_⟩
      · obtain ⟨_, c, hc1, hc2, hc3⟩ := hq j p hj
        exact ⟨c, hc1, hc2, hc3⟩
      · have h1 := hw (((List.range len).map D).length + ((List.range (m - len)).map fun j => D (len + j)).length * 1 |> fun z => z * P.bytesOf e) (by
          simp only [DataW.weights, ht, Nat.mul_one]
          exact List.mem_cons_self)
        rw [hB] at h1
        simp only [List.length_map, List.length_range, Nat.mul_one] at h1
        rw [hll]
        exact Nat.le_trans (Nat.mul_le_mul_right _ (by omega)) h1
      · obtain ⟨i, hi⟩ := List.mem_iff_getElem?.1 hx
        exact (hq i x hi).1

/-- Fields from a place on. -/
structure OpensF {α : Type} (P : Program) (fs : List Field) (off : Nat) (d : Kd α) (good : α → Prop) : Prop where
  opens : ∀ {H : Type} {enc : TypeId × Value → H} {w : World} {base : Nat} {spare : Nat → Bool} {held : Bool} {fuel : Nat} {cs : List Value} {xs : List (DataW H × List MemPlace)},
    off + d.sz ≤ cs.length → xs.length = fs.length → (∀ (i : Nat) (f : Field), fs[i]? = some f → DataW.trod enc P w base spare held fuel f.type ((cs.drop f.offset).take (P.cellsOf f.type)) = xs[i]?) →
    (∀ n ∈ DataW.weightsEach P (fs.map (·.type)) (xs.map (·.1)), n ≤ reachBytes) → ∃ a : α, d.K w a ((cs.drop off).take d.sz) ∧ good a

theorem opensF_one {α : Type} {P : Program} {f : Field} {off : Nat} {d : Kd α} {good : α → Prop} (hf : f.offset = off) (h : Opens P f.type d good) : OpensF P [f] off d good := by
  refine ⟨?_⟩
  intro H enc w base spare held fuel cs xs hl hx ht hw
  obtain ⟨x, rfl⟩ : ∃ x, xs = [x] := by
    cases xs with
    | nil => simp at hx
    | cons x xs => cases xs with
      | nil => exact ⟨x, rfl⟩
      | cons y ys => simp at hx
  have h0 := ht 0 f rfl
  simp only [List.getElem?_cons_zero] at h0
  obtain ⟨a, hK, hg⟩ := h.opens h0 (fun n hn => hw n (by simp [DataW.weightsEach, hn]))
  rw [hf, h.cells] at hK
  exact ⟨a, hK, hg⟩

theorem opensF_cons {α β : Type} {P : Program} {f : Field} {fs : List Field} {off : Nat} {d : Kd α} {d' : Kd β} {good : α → Prop} {good' : β → Prop} (hf : f.offset = off) (h : Opens P f.type d good) (h' : OpensF P fs (off + d.sz) d' good') :
    OpensF P (f :: fs) off (Kd.pair d d') (fun x => good x.1 ∧ good' x.2) := by
  refine ⟨?_⟩
  intro H enc w base spare held fuel cs xs hl hx ht hw
  have hs : (Kd.pair d d').sz = d.sz + d'.sz := rfl
  rw [hs] at hl
  cases xs with
  | nil => simp at hx
  | cons x xs =>
    have h0 := ht 0 f rfl
    simp only [List.getElem?_cons_zero] at h0
    obtain ⟨a, hK, hg⟩ := h.opens h0 (fun n hn => hw n (by simp [DataW.weightsEach, hn]))
    obtain ⟨b, hK', hg'⟩ := h'.opens (cs := cs) (xs := xs) (by omega) (by simpa using hx) (fun i g hi => by simpa using ht (i + 1) g (by simpa using hi)) (fun n hn => hw n (by
      simp only [List.map_cons, DataW.weightsEach, List.mem_append]
      exact .inr hn))
    rw [hf, h.cells] at hK
    refine ⟨(a, b), ⟨_, _, ?_, hK, hK'⟩, hg, hg'⟩
    rw [hs, ← List.drop_drop, List.take_add]

theorem opens_struct {α β : Type} {P : Program} {t : TypeId} {fs : Array Field} {d : Kd α} {good : α → Prop} (f : β → α) (g : α → β) (hfg : ∀ a, f (g a) = a) (ht : P.underlying t = some (.struct fs)) (hc : P.cellsOf t = d.sz) (h : OpensF P fs.toList 0 d good) :
    Opens P t (Kd.iso d f) (fun x => good (f x)) where
  cells := hc
  opens := by
    intro H enc w base spare held fuel cs x hx hw
    obtain ⟨xs, n, _, rfl, hlen, hxl, hf⟩ := DataW.trod_struct ht hx
    obtain ⟨a, hK, hg⟩ := h.opens (cs := cs) (xs := xs) (by rw [hlen, hc]; omega) (by simpa using hxl) (fun i q hi => hf i q (by simpa using hi)) (fun n hn => hw n (by
      simp only [DataW.weights, ht]
      exact hn))
    refine ⟨g a, ?_, by rw [hfg]; exact hg⟩
    show d.K w (f (g a)) cs
    rw [hfg]
    rw [List.drop_zero, List.take_of_length_le (by rw [hlen, hc]; exact Nat.le_refl _)] at hK
    exact hK

/-- An argument: a struct by value, as its cells. -/
theorem open_arg {α : Type} {H : Type} {enc : TypeId × Value → H} {P : Program} {W : World} {r : Reach} {b0 : Nat} {base : Nat} {spare : Nat → Bool} {held : Bool} {t : TypeId} {fs : Array Field} {v : Value} {dd : DataW H} {ps : List MemPlace} {d : Kd α} {good : α → Prop}
    (ht : P.underlying t = some (.struct fs)) (hc : P.cellsOf t = d.sz) (h : OpensF P fs.toList 0 d good) (hv : Value.okWide P W r b0 t v) (hd : DataW.Trod enc P W base spare held t v dd ps) (hw : ∀ n ∈ dd.weights P t, n ≤ reachBytes) :
    ∃ (cs : Array Value) (a : α), v = .agg cs ∧ d.K W a cs.toList ∧ good a := by
  obtain ⟨cs, rfl, _⟩ := okWide_struct ht hv
  obtain ⟨fuel, hf⟩ := hd
  obtain ⟨a, hK, hg⟩ := (opens_struct (β := α) id id (fun _ => rfl) ht hc h).opens hf hw
  exact ⟨cs, a, rfl, hK, hg⟩
end Go.Proofs.Ytjoplkillkhiaaa.Op
