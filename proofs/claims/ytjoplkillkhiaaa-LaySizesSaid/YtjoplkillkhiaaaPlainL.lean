/- What the program's lay tells of types is what the reference tells: their sizes and aligns, their fields, their items. No Go and no memory in it. -/
import Derived.Test.YtjoplkillkhiaaaLx12
import Derived.Test.YtjoplkillkhiaaaUFn
import Derived.Test.YtjoplkillkhiaaaUMore
import Derived.Test.YtjoplkillkhiaaaUEvs
namespace Go.Proofs.Ytjoplkillkhiaaa.L
open Go.RowKit Go.Proofs.Ytjoplkillkhiaaa.Fn Go.Proofs.YtjoplkillkhiaaaW.PrintWords Go.Proofs.YtjoplkillkhiaaaW.PrintLast Go.Proofs.YtjoplkillkhiaaaW.PrintMore Go.Proofs.Ytjoplkillkhiaaa.Evs
set_option linter.unusedVariables false
set_option linter.unusedSimpArgs false
theorem rdP (l : List S103) (i : Nat) (h : i < l.length) : rd_T103 l (i : Int) = l[i] := by
  unfold rd_T103
  simp [List.getD_eq_getElem?_getD, List.getElem?_eq_getElem h]
theorem rdT (l : List S31) (i : Nat) (h : i < l.length) : rd_T31 l (i : Int) = l[i] := by
  unfold rd_T31
  simp [List.getD_eq_getElem?_getD, List.getElem?_eq_getElem h]
theorem rdI (l : List Int) (i : Nat) (h : i < l.length) : rd l (i : Int) = l[i] := by
  unfold rd
  simp [List.getD_eq_getElem?_getD, List.getElem?_eq_getElem h]
theorem rdS (l : List ByteArray) (i : Nat) (h : i < l.length) : rdOf ByteArray.empty l (i : Int) = l[i] := by
  unfold rdOf
  simp [List.getD_eq_getElem?_getD, List.getElem?_eq_getElem h]
theorem rdL (l : List (List S31)) (i : Nat) (h : i < l.length) : rd_L6 l (i : Int) = l[i] := by
  unfold rd_L6
  simp [List.getD_eq_getElem?_getD, List.getElem?_eq_getElem h]
theorem rd0 (ps : List S103) (p : Int) : rd (ps.map S103.f0) p = (rd_T103 ps p).f0 := by
  unfold rd rd_T103
  simp only [List.getD_eq_getElem?_getD, List.getElem?_map]
  cases ps[p.toNat]? <;> rfl
theorem rd1 (ps : List S103) (p : Int) : rd (ps.map S103.f1) p = (rd_T103 ps p).f1 := by
  unfold rd rd_T103
  simp only [List.getD_eq_getElem?_getD, List.getElem?_map]
  cases ps[p.toNat]? <;> rfl
theorem rd2 (ps : List S103) (p : Int) : rd (ps.map S103.f2) p = (rd_T103 ps p).f2 := by
  unfold rd rd_T103
  simp only [List.getD_eq_getElem?_getD, List.getElem?_map]
  cases ps[p.toNat]? <;> rfl
theorem num_le (n m : Int) : cellarref0_Num.f n m = some (decide (0 ≤ n ∧ n ≤ m)) := by
  unfold cellarref0_Num.f
  by_cases c : n ≥ 0
  · rw [if_pos c]
    congr 1
    rw [decide_eq_decide]
    omega
  · rw [if_neg c]
    congr 1
    symm
    rw [decide_eq_false_iff_not]
    omega
theorem btw (n a m : Int) : cellarref0_Between.f n a m = some (decide (a ≤ n ∧ n ≤ m)) := by
  unfold cellarref0_Between.f
  by_cases c : n ≥ a
  · rw [if_pos c]
    congr 1
    rw [decide_eq_decide]
    omega
  · rw [if_neg c]
    congr 1
    symm
    rw [decide_eq_false_iff_not]
    omega
theorem amay (b : Bool) (p : Int) : word_May.f b p = some (decide (p = 2 ∨ p = 4)) := by
  unfold word_May.f
  by_cases c : p = 2
  · simp [c]
  · by_cases d : p = 4
    · simp [d]
    · simp [c, d]
theorem rabi (b : Bool) (p : Int) : cellarref1_Abi.f b p = some (decide (p = 2 ∨ p = 4)) := amay b p
theorem ascalar (kind : Int) : word_IsScalar.f kind = some (decide (1 ≤ kind ∧ kind ≤ 7)) := btw kind 1 7
theorem rkind (kind : Int) : cellarref1_Kind.f kind = some (decide (1 ≤ kind ∧ kind ≤ 7)) := by
  unfold cellarref1_Kind.f
  rw [btw]
  rfl
def upv (n a : Int) : Int := wrap64 ((wrap64 (Int.tdiv (wrap64 ((wrap64 (n + a)) - 1)) a)) * a)
theorem up1 (n a : Int) (h : 1 ≤ a) : lay_up.f n a = some (upv n a) := if_neg (by omega)
theorem up7 (n a : Int) (h : 1 ≤ a) : cellarref7_up.f n a = some (upv n a) := if_neg (by omega)
theorem mx_pos (a b : Int) (h : 1 ≤ a) : 1 ≤ mx a b := by
  unfold mx
  split <;> omega
/-- Where the fields lie that come behind; the size, the align, how many. -/
def offs (ps : List S103) (kind : Int) : List Int → Int → Int → Int → List Int × Int × Int × Int
  | [], s, a, m => ([], upv s a, a, m)
  | p :: r, s, a, m =>
    if kind = 10 then (0 :: (offs ps kind r (mx s (rd_T103 ps p).f0) (mx a (rd_T103 ps p).f1) (wrap64 (m + (rd_T103 ps p).f2))).1, (offs ps kind r (mx s (rd_T103 ps p).f0) (mx a (rd_T103 ps p).f1) (wrap64 (m + (rd_T103 ps p).f2))).2)
    else (upv s (rd_T103 ps p).f1 :: (offs ps kind r (wrap64 (upv s (rd_T103 ps p).f1 + (rd_T103 ps p).f0)) (mx a (rd_T103 ps p).f1) (wrap64 (m + (rd_T103 ps p).f2))).1, (offs ps kind r (wrap64 (upv s (rd_T103 ps p).f1 + (rd_T103 ps p).f0)) (mx a (rd_T103 ps p).f1) (wrap64 (m + (rd_T103 ps p).f2))).2)
theorem offs_len (ps : List S103) (kind : Int) : ∀ (l : List Int) (s a m : Int), (offs ps kind l s a m).1.length = l.length
  | [], s, a, m => rfl
  | p :: r, s, a, m => by
    unfold offs
    split
    · exact congrArg (· + 1) (offs_len ps kind r _ _ _)
    · exact congrArg (· + 1) (offs_len ps kind r _ _ _)
theorem offs_al (ps : List S103) (kind : Int) : ∀ (l : List Int) (s a m : Int), 1 ≤ a → 1 ≤ (offs ps kind l s a m).2.2.1
  | [], s, a, m, h => h
  | p :: r, s, a, m, h => by
    unfold offs
    split
    · exact offs_al ps kind r _ _ _ (mx_pos _ _ h)
    · exact offs_al ps kind r _ _ _ (mx_pos _ _ h)
/-- Aligns are from 1 on. -/
def AL (ps : List S103) : Prop := ∀ p : Int, 0 ≤ p → p < (ps.length : Int) → 1 ≤ (rd_T103 ps p).f1
def INR (ps : List S103) (l : List Int) : Prop := ∀ p ∈ l, 0 ≤ p ∧ p < (ps.length : Int)
theorem INR.at {ps : List S103} {l : List Int} (h : INR ps l) (n : Nat) (hn : n < l.length) : 0 ≤ l[n] ∧ l[n] < (ps.length : Int) := h _ (List.getElem_mem hn)
section
variable (ps : List S103) (kind : Int) (parts : List Int) (hin : INR ps parts) (hal : AL ps) (hl : parts.length ≤ 6)
include hin hal hl
theorem offsets_ev (n o : Int) (names : List ByteArray) : Ev (fun k => lay_offsets.f k kind n o names parts ps) (offs ps kind parts 0 1 0) := by
  have key : ∀ i : Int, 0 ≤ i → i ≤ parts.length → ∀ (at_ : List Int) (s a m : Int), (at_.length : Int) ≤ i → 1 ≤ a → Ev (fun k => lay_offsets.l0 k ps at_ parts (parts.length : Int) i kind n o names parts s a m) (at_ ++ (offs ps kind (parts.drop i.toNat) s a m).1, (offs ps kind (parts.drop i.toNat) s a m).2) := by
    refine down (Q := fun i => ∀ (at_ : List Int) (s a m : Int), (at_.length : Int) ≤ i → 1 ≤ a → Ev (fun k => lay_offsets.l0 k ps at_ parts (parts.length : Int) i kind n o names parts s a m) (at_ ++ (offs ps kind (parts.drop i.toNat) s a m).1, (offs ps kind (parts.drop i.toNat) s a m).2)) ?_ ?_
    · intro at_ s a m hat ha
      rw [Int.toNat_natCast, List.drop_length]
      refine Ev.step (fun k => by rw [lay_offsets.l0]) (Ev.neg (by omega) (Ev.bindS (up1 _ _ ha) ?_))
      simp only [offs, List.append_nil]
      exact Ev.now _
    intro i i0 i1 ih at_ s a m hat ha
    obtain ⟨j, rfl⟩ := Int.eq_ofNat_of_zero_le i0
    have hj : j < parts.length := by omega
    have hp := hin.at j hj
    have hpa := hal _ hp.1 hp.2
    rw [show ((j : Int) + 1).toNat = j + 1 by omega] at ih
    rw [Int.toNat_natCast, List.drop_eq_getElem_cons hj]
    refine Ev.step (fun k => by rw [lay_offsets.l0]) (Ev.pos i1 (Ev.pos i0 (Ev.pos i1 ?_)))
    rw [rdI parts j hj, w64 (z := (j : Int) + 1) (by omega) (by omega)]
    refine Ev.pos hp.1 (Ev.pos hp.2 ?_)
    by_cases c : kind = 10
    · have h := ih (at_ ++ [0]) (mx s (rd_T103 ps parts[j]).f0) (mx a (rd_T103 ps parts[j]).f1) (wrap64 (m + (rd_T103 ps parts[j]).f2)) (by simp; omega) (mx_pos _ _ ha)
      rw [List.append_assoc, List.singleton_append] at h
      unfold offs
      rw [if_pos c]
      exact Ev.pos c (Ev.pos (by omega) h)
    · have h := ih (at_ ++ [upv s (rd_T103 ps parts[j]).f1]) (wrap64 (upv s (rd_T103 ps parts[j]).f1 + (rd_T103 ps parts[j]).f0)) (mx a (rd_T103 ps parts[j]).f1) (wrap64 (m + (rd_T103 ps parts[j]).f2)) (by simp; omega) (mx_pos _ _ ha)
      rw [List.append_assoc, List.singleton_append] at h
      unfold offs
      rw [if_neg c]
      exact Ev.neg c (Ev.bindS (up1 _ _ hpa) (Ev.pos (by omega) h))
  exact key 0 (by omega) (by omega) [] 0 1 0 (by simp) (by omega)
theorem count_l0 (n o : Int) (names : List ByteArray) : ∀ i : Int, 0 ≤ i → i ≤ parts.length → ∀ (s a m : Int), Ev (fun k => cellarref7_count.l0 k (ps.map S103.f2) m i kind n o names parts) (if kind = 9 ∨ kind = 10 then (offs ps kind (parts.drop i.toNat) s a m).2.2.2 else 1) := by
  refine down (Q := fun i => ∀ (s a m : Int), Ev (fun k => cellarref7_count.l0 k (ps.map S103.f2) m i kind n o names parts) (if kind = 9 ∨ kind = 10 then (offs ps kind (parts.drop i.toNat) s a m).2.2.2 else 1)) ?_ ?_
  · intro s a m
    rw [Int.toNat_natCast, List.drop_length]
    refine Ev.step (fun k => by rw [cellarref7_count.l0]) (Ev.neg (by omega) ?_)
    simp only [offs]
    by_cases c : kind = 9
    · rw [if_pos (show kind = 9 ∨ kind = 10 from .inl c)]
      exact Ev.pos c (Ev.now _)
    · refine Ev.neg c ?_
      by_cases d : kind = 10
      · rw [if_pos (show kind = 9 ∨ kind = 10 from .inr d)]
        exact Ev.pos d (Ev.now _)
      · rw [if_neg (show ¬ (kind = 9 ∨ kind = 10) by omega)]
        exact Ev.neg d (Ev.now _)
  intro i i0 i1 ih s a m
  obtain ⟨j, rfl⟩ := Int.eq_ofNat_of_zero_le i0
  have hj : j < parts.length := by omega
  have hp := hin.at j hj
  have hpa := hal _ hp.1 hp.2
  rw [show ((j : Int) + 1).toNat = j + 1 by omega] at ih
  rw [Int.toNat_natCast, List.drop_eq_getElem_cons hj]
  refine Ev.step (fun k => by rw [cellarref7_count.l0]) (Ev.pos i1 (Ev.pos i0 ?_))
  rw [rdI parts j hj, w64 (z := (j : Int) + 1) (by omega) (by omega), rd2]
  refine Ev.pos hp.1 (Ev.pos (by rw [List.length_map]; exact hp.2) ?_)
  unfold offs
  by_cases c : kind = 10
  · rw [if_pos c]
    exact ih _ _ _
  · rw [if_neg c]
    exact ih _ _ _
theorem offsets7_l0 (l : List S31) (t : Int) (t0 : 0 ≤ t) (t1 : t < (l.length : Int)) (hk : (rd_T31 l t).f0 = kind) (hpt : (rd_T31 l t).f4 = parts) : Ev (fun k => cellarref7_Offsets.l0 k l t (ps.map S103.f0) (ps.map S103.f1) [] 0 0) (offs ps kind parts 0 1 0).1 := by
  have key : ∀ i : Int, 0 ≤ i → i ≤ parts.length → ∀ (at_ : List Int) (e s a m : Int), (at_.length : Int) ≤ i → (kind = 10 ∨ e = s) → Ev (fun k => cellarref7_Offsets.l0 k l t (ps.map S103.f0) (ps.map S103.f1) at_ e i) (at_ ++ (offs ps kind (parts.drop i.toNat) s a m).1) := by
    refine down (Q := fun i => ∀ (at_ : List Int) (e s a m : Int), (at_.length : Int) ≤ i → (kind = 10 ∨ e = s) → Ev (fun k => cellarref7_Offsets.l0 k l t (ps.map S103.f0) (ps.map S103.f1) at_ e i) (at_ ++ (offs ps kind (parts.drop i.toNat) s a m).1)) ?_ ?_
    · intro at_ e s a m hat he
      rw [Int.toNat_natCast, List.drop_length]
      refine Ev.step (fun k => by rw [cellarref7_Offsets.l0]) (Ev.pos t0 (Ev.pos t1 ?_))
      rw [hpt]
      refine Ev.neg (by omega) ?_
      simp only [offs, List.append_nil]
      exact Ev.now _
    intro i i0 i1 ih at_ e s a m hat he
    obtain ⟨j, rfl⟩ := Int.eq_ofNat_of_zero_le i0
    have hj : j < parts.length := by omega
    have hp := hin.at j hj
    have hpa := hal _ hp.1 hp.2
    rw [show ((j : Int) + 1).toNat = j + 1 by omega] at ih
    rw [Int.toNat_natCast, List.drop_eq_getElem_cons hj]
    refine Ev.step (fun k => by rw [cellarref7_Offsets.l0]) (Ev.pos t0 (Ev.pos t1 ?_))
    rw [hpt, hk, rdI parts j hj, w64 (z := (j : Int) + 1) (by omega) (by omega), rd0, rd1]
    refine Ev.pos i1 (Ev.pos i0 (Ev.pos hp.1 (Ev.pos (by rw [List.length_map]; exact hp.2) (Ev.bindS (up7 _ _ hpa) ?_))))
    unfold offs
    by_cases c : kind = 10
    · rw [if_pos c]
      have h := ih (at_ ++ [0]) (wrap64 (0 + (rd_T103 ps parts[j]).f0)) (mx s (rd_T103 ps parts[j]).f0) (mx a (rd_T103 ps parts[j]).f1) (wrap64 (m + (rd_T103 ps parts[j]).f2)) (by simp; omega) (.inl c)
      rw [List.append_assoc, List.singleton_append] at h
      exact Ev.pos c (Ev.pos (by omega) (Ev.pos (by rw [List.length_map]; exact hp.2) h))
    · rw [if_neg c]
      obtain rfl : e = s := by omega
      have h := ih (at_ ++ [upv e (rd_T103 ps parts[j]).f1]) (wrap64 (upv e (rd_T103 ps parts[j]).f1 + (rd_T103 ps parts[j]).f0)) _ (mx a (rd_T103 ps parts[j]).f1) (wrap64 (m + (rd_T103 ps parts[j]).f2)) (by simp; omega) (.inr rfl)
      rw [List.append_assoc, List.singleton_append] at h
      exact Ev.neg c (Ev.pos (by omega) (Ev.pos (by rw [List.length_map]; exact hp.2) h))
  exact key 0 (by omega) (by omega) [] 0 0 1 0 (by simp) (.inr rfl)
end
def okb (x : Int) : Bool := decide (97 ≤ x ∧ x ≤ 122) || decide (48 ≤ x ∧ x ≤ 57)
def nameOK (s : ByteArray) : Bool := decide (1 ≤ s.size ∧ s.size ≤ 8 ∧ 97 ≤ bt s 0) && (bytesOf s).all okb
theorem bad1 (x : Int) : lay_named_1.f x = some (!(okb x)) := by
  unfold lay_named_1.f okb
  by_cases a : x < 97
  · rw [if_pos a, decide_eq_false (show ¬ (97 ≤ x ∧ x ≤ 122) by omega), Bool.false_or]
    by_cases b : x < 48
    · rw [if_pos b, decide_eq_false (by omega)]
      rfl
    · rw [if_neg b]
      congr 1
      rw [Bool.eq_iff_iff]
      simp
      omega
  · rw [if_neg a, decide_eq_false (show ¬ (48 ≤ x ∧ x ≤ 57) by omega), Bool.or_false]
    by_cases b : x > 122
    · rw [if_pos b, if_neg (by omega), decide_eq_false (show ¬ (97 ≤ x ∧ x ≤ 122) by omega), decide_eq_true (show x > 57 by omega)]
      rfl
    · rw [if_neg b, decide_eq_true (show 97 ≤ x ∧ x ≤ 122 by omega)]
      rfl
theorem bytes_at (s : ByteArray) (n : Nat) (h : n < (bytesOf s).length) : (bytesOf s)[n] = bt s (n : Int) := by
  have h' : n < s.size := by rw [bytesOf_length] at h; exact h
  unfold bt
  rw [dif_pos (by simpa using h')]
  simp [bytesOf]
  rfl
theorem name_ev (s : ByteArray) (hs : s.size ≤ 140737488351232) : Ev (fun k => cellarref7_name.f k s) (nameOK s) := by
  have hlen := bytesOf_length s
  have last : ∀ i : Int, ¬ i < (s.size : Int) → Ev (fun k => cellarref7_name.l0 k s i) (decide (1 ≤ s.size ∧ s.size ≤ 8)) := by
    intro i hi
    refine Ev.step (fun k => by rw [cellarref7_name.l0]) (Ev.neg hi (Ev.bindS (btw _ _ _) ?_))
    rw [show decide ((1 : Int) ≤ (s.size : Int) ∧ (s.size : Int) ≤ 8) = decide (1 ≤ s.size ∧ s.size ≤ 8) by rw [decide_eq_decide]; omega]
    exact Ev.now _
  have key : ∀ i : Int, 1 ≤ i → i ≤ s.size → Ev (fun k => cellarref7_name.l0 k s i) (((bytesOf s).drop i.toNat).all okb && decide (1 ≤ s.size ∧ s.size ≤ 8)) := by
    refine down (Q := fun i => Ev (fun k => cellarref7_name.l0 k s i) (((bytesOf s).drop i.toNat).all okb && decide (1 ≤ s.size ∧ s.size ≤ 8))) ?_ ?_
    · rw [Int.toNat_natCast, ← hlen, List.drop_length, hlen]
      exact last _ (by omega)
    intro i i0 i1 ih
    obtain ⟨j, rfl⟩ := Int.eq_ofNat_of_zero_le (show 0 ≤ i by omega)
    have hj : j < (bytesOf s).length := by omega
    rw [show ((j : Int) + 1).toNat = j + 1 by omega] at ih
    rw [Int.toNat_natCast, List.drop_eq_getElem_cons hj, List.all_cons, bytes_at s j hj]
    refine Ev.step (fun k => by rw [cellarref7_name.l0]) (Ev.pos i1 (Ev.pos (by omega) (Ev.pos (by omega) ?_)))
    rw [w64 (z := (j : Int) + 1) (by omega) (by omega)]
    generalize bt s (j : Int) = x
    unfold okb
    have tail : Ev (fun k => if x < 97 then some false else if x > 122 then some false else cellarref7_name.l0 k s ((j : Int) + 1)) ((decide (97 ≤ x ∧ x ≤ 122)) && ((bytesOf s).drop (j + 1)).all okb && decide (1 ≤ s.size ∧ s.size ≤ 8)) := by
      by_cases a : x < 97
      · rw [decide_eq_false (show ¬ (97 ≤ x ∧ x ≤ 122) by omega), Bool.false_and, Bool.false_and]
        exact Ev.pos a (Ev.now _)
      refine Ev.neg a ?_
      by_cases b : x > 122
      · rw [decide_eq_false (show ¬ (97 ≤ x ∧ x ≤ 122) by omega), Bool.false_and, Bool.false_and]
        exact Ev.pos b (Ev.now _)
      · rw [decide_eq_true (show 97 ≤ x ∧ x ≤ 122 by omega), Bool.true_and]
        exact Ev.neg b ih
    by_cases a : x ≥ 48
    · refine Ev.pos a ?_
      by_cases b : x ≤ 57
      · rw [decide_eq_true (show 48 ≤ x ∧ x ≤ 57 by omega), Bool.or_true, Bool.true_and]
        exact Ev.pos b ih
      · rw [decide_eq_false (show ¬ (48 ≤ x ∧ x ≤ 57) by omega), Bool.or_false]
        exact Ev.neg b tail
    · rw [decide_eq_false (show ¬ (48 ≤ x ∧ x ≤ 57) by omega), Bool.or_false]
      exact Ev.neg a tail
  unfold cellarref7_name.f nameOK
  by_cases z : s.size = 0
  · rw [decide_eq_false (by omega), Bool.false_and]
    have h := last 0 (by omega)
    rwa [decide_eq_false (by omega)] at h
  have hj : 0 < (bytesOf s).length := by omega
  have k1 := key 1 (by omega) (by omega)
  have e : (bytesOf s).all okb = (okb (bt s 0) && ((bytesOf s).drop 1).all okb) := by
    have h := List.drop_eq_getElem_cons hj
    rw [List.drop_zero] at h
    rw [h, List.all_cons, bytes_at s 0 hj]
    rfl
  rw [e]
  refine Ev.step (fun k => by rw [cellarref7_name.l0]) (Ev.pos (by omega) (Ev.neg (by omega) (Ev.pos (by omega) ?_)))
  rw [w64 (z := (0 : Int) + 1) (by omega) (by omega)]
  by_cases a : bt s 0 < 97
  · rw [decide_eq_false (by omega), Bool.false_and]
    exact Ev.pos a (Ev.now _)
  refine Ev.neg a ?_
  by_cases b : bt s 0 > 122
  · rw [show okb (bt s 0) = false by unfold okb; rw [decide_eq_false (by omega), decide_eq_false (by omega)]; rfl, Bool.false_and, Bool.and_false]
    exact Ev.pos b (Ev.now _)
  refine Ev.neg b ?_
  rw [show okb (bt s 0) = true by unfold okb; rw [decide_eq_true (by omega)]; rfl, Bool.true_and, Bool.and_comm, show decide (1 ≤ s.size ∧ s.size ≤ 8 ∧ 97 ≤ bt s 0) = decide (1 ≤ s.size ∧ s.size ≤ 8) by rw [decide_eq_decide]; omega]
  exact k1
def hasB (l : List ByteArray) (s : ByteArray) : Bool := l.any fun x => decide (x.toList = s.toList)
def namesB (done : List ByteArray) : List ByteArray → Bool
  | [] => true
  | s :: r => nameOK s && (!hasB done s && namesB (done ++ [s]) r)
def findI : List ByteArray → ByteArray → Int → Int
  | [], _, _ => -1
  | x :: r, s, i => if s.toList = x.toList then i else findI r s (i + 1)
theorem findI_ge : ∀ (l : List ByteArray) (s : ByteArray) (i : Int), 0 ≤ i → decide (findI l s i ≥ 0) = hasB l s
  | [], s, i, h => rfl
  | x :: r, s, i, h => by
    unfold findI hasB
    rw [List.any_cons]
    by_cases c : s.toList = x.toList
    · rw [if_pos c, decide_eq_true h, decide_eq_true c.symm]
      rfl
    · rw [if_neg c, findI_ge r s (i + 1) (by omega), decide_eq_false (fun h => c h.symm), Bool.false_or]
      rfl
theorem findI_in : ∀ (l : List ByteArray) (s : ByteArray) (i : Int), 0 ≤ i → findI l s i < 0 ∨ (i ≤ findI l s i ∧ findI l s i < i + l.length)
  | [], s, i, h => .inl (by show (-1 : Int) < 0; omega)
  | x :: r, s, i, h => by
    unfold findI
    split
    · exact .inr ⟨by omega, by simp only [List.length_cons]; omega⟩
    · rcases findI_in r s (i + 1) (by omega) with h | h
      · exact .inl h
      · exact .inr ⟨by omega, by simp only [List.length_cons]; omega⟩
theorem index_ev (l : List ByteArray) (s : ByteArray) (hl : l.length ≤ 140737488351232) : Ev (fun k => slices_Index_string_string.f k l s) (findI l s 0) := by
  have key : ∀ i : Int, 0 ≤ i → i ≤ l.length → Ev (fun k => slices_Index_string_string.l0 k l s (l.length : Int) i) (findI (l.drop i.toNat) s i) := by
    refine down (Q := fun i => Ev (fun k => slices_Index_string_string.l0 k l s (l.length : Int) i) (findI (l.drop i.toNat) s i)) ?_ ?_
    · rw [Int.toNat_natCast, List.drop_length]
      refine Ev.step (fun k => by rw [slices_Index_string_string.l0]) ?_
      exact Ev.neg (by omega) (Ev.now _)
    intro i i0 i1 ih
    obtain ⟨j, rfl⟩ := Int.eq_ofNat_of_zero_le i0
    have hj : j < l.length := by omega
    rw [show ((j : Int) + 1).toNat = j + 1 by omega] at ih
    rw [Int.toNat_natCast, List.drop_eq_getElem_cons hj]
    refine Ev.step (fun k => by rw [slices_Index_string_string.l0]) (Ev.pos i1 (Ev.pos i0 (Ev.pos i1 ?_)))
    rw [rdS l j hj, w64 (z := (j : Int) + 1) (by omega) (by omega)]
    unfold findI
    by_cases c : s.toList = l[j].toList
    · rw [if_pos c]
      exact Ev.pos c (Ev.now _)
    · rw [if_neg c]
      exact Ev.neg c ih
  exact key 0 (by omega) (by omega)
theorem contains_ev (l : List ByteArray) (s : ByteArray) (hl : l.length ≤ 140737488351232) : Ev (fun k => slices_Contains_string_string.f k l s) (hasB l s) := by
  unfold slices_Contains_string_string.f
  refine Ev.bind (index_ev l s hl) ?_
  rw [findI_ge l s 0 (by omega)]
  exact Ev.now _
theorem has_ev (l : List ByteArray) (s : ByteArray) (hl : l.length ≤ 140737488351232) : Ev (fun k => cellarref0_Has.f k l s) (hasB l s) := by
  have key : ∀ i : Int, 0 ≤ i → i ≤ l.length → Ev (fun k => cellarref0_Has.l0 k l s i) (hasB (l.drop i.toNat) s) := by
    refine down (Q := fun i => Ev (fun k => cellarref0_Has.l0 k l s i) (hasB (l.drop i.toNat) s)) ?_ ?_
    · rw [Int.toNat_natCast, List.drop_length]
      refine Ev.step (fun k => by rw [cellarref0_Has.l0]) ?_
      exact Ev.neg (by omega) (Ev.now _)
    intro i i0 i1 ih
    obtain ⟨j, rfl⟩ := Int.eq_ofNat_of_zero_le i0
    have hj : j < l.length := by omega
    rw [show ((j : Int) + 1).toNat = j + 1 by omega] at ih
    rw [Int.toNat_natCast, List.drop_eq_getElem_cons hj]
    refine Ev.step (fun k => by rw [cellarref0_Has.l0]) (Ev.pos i1 (Ev.pos i0 ?_))
    rw [rdS l j hj, w64 (z := (j : Int) + 1) (by omega) (by omega)]
    unfold hasB
    rw [List.any_cons]
    by_cases c : l[j].toList = s.toList
    · rw [decide_eq_true c]
      exact Ev.pos c (Ev.now _)
    · rw [decide_eq_false c, Bool.false_or]
      exact Ev.neg c ih
  exact key 0 (by omega) (by omega)
theorem named_ev (l : List ByteArray) (hl : l.length ≤ 140737488351232) : Ev (fun k => lay_named.f k l) (namesB [] l) := by
  have key : ∀ i : Int, 0 ≤ i → i ≤ l.length → Ev (fun k => lay_named.l0 k l i) (namesB (l.take i.toNat) (l.drop i.toNat)) := by
    refine down (Q := fun i => Ev (fun k => lay_named.l0 k l i) (namesB (l.take i.toNat) (l.drop i.toNat))) ?_ ?_
    · rw [Int.toNat_natCast, List.drop_length]
      refine Ev.step (fun k => by rw [lay_named.l0]) ?_
      exact Ev.neg (by omega) (Ev.now _)
    intro i i0 i1 ih
    obtain ⟨j, rfl⟩ := Int.eq_ofNat_of_zero_le i0
    have hj : j < l.length := by omega
    rw [show ((j : Int) + 1).toNat = j + 1 by omega, ← List.take_append_getElem hj] at ih
    rw [Int.toNat_natCast, List.drop_eq_getElem_cons hj]
    refine Ev.step (fun k => by rw [lay_named.l0]) (Ev.pos i1 (Ev.pos i0 ?_))
    rw [rdS l j hj, w64 (z := (j : Int) + 1) (by omega) (by omega), Int.toNat_natCast]
    unfold namesB nameOK
    generalize l[j] = s at ih ⊢
    by_cases a : (s.size : Int) < 1
    · rw [decide_eq_false (by omega), Bool.false_and, Bool.false_and]
      exact Ev.pos a (Ev.now _)
    refine Ev.neg a ?_
    by_cases b : (s.size : Int) > 8
    · rw [decide_eq_false (by omega), Bool.false_and, Bool.false_and]
      exact Ev.pos b (Ev.now _)
    refine Ev.neg b ?_
    by_cases c : bt s 0 < 97
    · rw [decide_eq_false (by omega), Bool.false_and, Bool.false_and]
      exact Ev.pos c (Ev.now _)
    refine Ev.neg c ?_
    rw [decide_eq_true (show 1 ≤ s.size ∧ s.size ≤ 8 ∧ 97 ≤ bt s 0 by omega), Bool.true_and]
    refine Ev.bindS (any_some (f := fun x => !(okb x)) bad1 (bytesOf s)) ?_
    rw [← List.not_all_eq_any_not]
    cases (bytesOf s).all okb with
    | false => exact Ev.pos rfl (Ev.now _)
    | true =>
      refine Ev.neg (by decide) (Ev.bind (contains_ev (l.take j) s (by rw [List.length_take]; omega)) ?_)
      rw [Bool.true_and]
      cases hasB (l.take j) s with
      | true => exact Ev.pos rfl (Ev.now _)
      | false => exact Ev.neg (by decide) ih
  exact key 0 (by omega) (by omega)
/-- What the reference asks of a struct's fields, one by one. -/
def chk (i : Int) (done : List ByteArray) : List ByteArray → List Int → Bool
  | s :: r, p :: q => decide (0 ≤ p ∧ p < i) && (nameOK s && (!hasB done s && chk i (done ++ [s]) r q))
  | _, _ => true
theorem chk_eq (i : Int) : ∀ (r : List ByteArray) (q : List Int) (done : List ByteArray), r.length = q.length → chk i done r q = (namesB done r && q.all fun p => decide (0 ≤ p ∧ p < i))
  | [], [], done, h => rfl
  | [], _ :: _, done, h => by simp at h
  | _ :: _, [], done, h => by simp at h
  | s :: r, p :: q, done, h => by
    unfold chk namesB
    rw [List.all_cons, chk_eq i r q _ (by simpa using h)]
    cases decide (0 ≤ p ∧ p < i) <;> cases nameOK s <;> cases hasB done s <;> cases namesB (done ++ [s]) r <;> rfl
/-- A type's lists are of a size that there is. -/
def TOK (t : S31) : Prop := t.f3.length ≤ 8796093021952 ∧ (∀ s ∈ t.f3, s.size ≤ 140737488351232) ∧ t.f4.length ≤ 17592186043904
def okF (t : S31) (i : Int) : Bool :=
  if t.f0 = 8 then decide (1 ≤ t.f1 ∧ t.f1 ≤ 16 ∧ (0 ≤ t.f2 ∧ t.f2 < i) ∧ t.f3.length + t.f4.length = 0)
  else if t.f0 = 9 ∨ t.f0 = 10 then decide (1 ≤ t.f4.length ∧ t.f4.length ≤ 6 ∧ t.f3.length = t.f4.length ∧ t.f1 = 0 ∧ t.f2 = 0) && (namesB [] t.f3 && t.f4.all fun p => decide (0 ≤ p ∧ p < i))
  else decide ((1 ≤ t.f0 ∧ t.f0 ≤ 7) ∧ t.f1 = 0 ∧ t.f2 = 0 ∧ t.f3.length + t.f4.length = 0)
theorem w2 (a b : Nat) (ha : a ≤ 8796093021952) (hb : b ≤ 17592186043904) : wrap64 ((a : Int) + (b : Int)) = ((a + b : Nat) : Int) := by rw [w64 (by omega) (by omega)]; omega
theorem form_ev (t : S31) (ht : TOK t) (i : Int) : Ev (fun k => lay_form.f k t.f0 t.f1 t.f2 t.f3 t.f4 i) (okF t i) := by
  unfold lay_form.f okF
  rw [w2 _ _ ht.1 ht.2.2]
  by_cases a : t.f0 = 8
  · rw [if_pos a]
    refine Ev.pos a ?_
    by_cases b : t.f1 ≥ 1
    · refine Ev.pos b ?_
      by_cases c : t.f1 ≤ 16
      · refine Ev.pos c ?_
        by_cases d : 0 ≤ t.f2 ∧ t.f2 < i
        · refine Ev.pos (by rw [decide_eq_true d.1, decide_eq_true d.2]; rfl) (Ev.val ?_)
          congr 1
          rw [Bool.eq_iff_iff, beq_iff_eq, decide_eq_true_iff]
          omega
        · rw [show decide (1 ≤ t.f1 ∧ t.f1 ≤ 16 ∧ (0 ≤ t.f2 ∧ t.f2 < i) ∧ t.f3.length + t.f4.length = 0) = false from decide_eq_false (by omega)]
          refine Ev.neg ?_ (Ev.now _)
          simpa using d
      · rw [show decide (1 ≤ t.f1 ∧ t.f1 ≤ 16 ∧ (0 ≤ t.f2 ∧ t.f2 < i) ∧ t.f3.length + t.f4.length = 0) = false from decide_eq_false (by omega)]
        exact Ev.neg c (Ev.now _)
    · rw [show decide (1 ≤ t.f1 ∧ t.f1 ≤ 16 ∧ (0 ≤ t.f2 ∧ t.f2 < i) ∧ t.f3.length + t.f4.length = 0) = false from decide_eq_false (by omega)]
      exact Ev.neg b (Ev.now _)
  rw [if_neg a]
  refine Ev.neg a ?_
  by_cases g : t.f0 = 9 ∨ t.f0 = 10
  · rw [if_pos g]
    have G : Ev (fun k => lay_form.g k t.f1 t.f2 t.f3 t.f4 i) (decide (1 ≤ t.f4.length ∧ t.f4.length ≤ 6 ∧ t.f3.length = t.f4.length ∧ t.f1 = 0 ∧ t.f2 = 0) && (namesB [] t.f3 && t.f4.all fun p => decide (0 ≤ p ∧ p < i))) := by
      unfold lay_form.g
      by_cases b : (t.f4.length : Int) < 1
      · rw [decide_eq_false (by omega), Bool.false_and]
        exact Ev.pos b (Ev.now _)
      refine Ev.neg b ?_
      by_cases c : (t.f4.length : Int) > 6
      · rw [decide_eq_false (by omega), Bool.false_and]
        exact Ev.pos c (Ev.now _)
      refine Ev.neg c ?_
      by_cases d : (t.f3.length : Int) = (t.f4.length : Int)
      · refine Ev.neg (fun h => h d) ?_
        by_cases e : t.f1 = 0
        · refine Ev.neg (fun h => h e) ?_
          by_cases f : t.f2 = 0
          · refine Ev.neg (fun h => h f) (Ev.bind (named_ev t.f3 (by omega)) ?_)
            rw [decide_eq_true (by omega), Bool.true_and]
            cases namesB [] t.f3 with
            | false => exact Ev.neg (by decide) (Ev.now _)
            | true =>
              refine Ev.pos rfl (Ev.bindS (any_some (f := fun x => !(decide (0 ≤ x) && decide (x < i))) (fun x => rfl) t.f4) (Ev.val ?_))
              rw [← List.not_all_eq_any_not, Bool.not_not, Bool.true_and]
              congr 2
              funext p
              rw [Bool.decide_and]
          · rw [decide_eq_false (by omega), Bool.false_and]
            exact Ev.pos f (Ev.now _)
        · rw [decide_eq_false (by omega), Bool.false_and]
          exact Ev.pos e (Ev.now _)
      · rw [decide_eq_false (by omega), Bool.false_and]
        exact Ev.pos d (Ev.now _)
    by_cases h9 : t.f0 = 9
    · exact Ev.pos h9 G
    · exact Ev.neg h9 (Ev.pos (by omega) G)
  · rw [if_neg g]
    refine Ev.neg (by omega) (Ev.neg (by omega) ?_)
    unfold lay_scalar.f
    rw [w2 _ _ ht.1 ht.2.2]
    refine Ev.bindS (ascalar _) ?_
    by_cases b : 1 ≤ t.f0 ∧ t.f0 ≤ 7
    · refine Ev.pos (decide_eq_true b) ?_
      by_cases c : t.f1 = 0
      · refine Ev.pos c ?_
        by_cases d : t.f2 = 0
        · refine Ev.pos d (Ev.val ?_)
          congr 1
          rw [Bool.eq_iff_iff, beq_iff_eq, decide_eq_true_iff]
          omega
        · rw [decide_eq_false (by omega)]
          exact Ev.neg d (Ev.now _)
      · rw [decide_eq_false (by omega)]
        exact Ev.neg c (Ev.now _)
    · rw [show decide ((1 ≤ t.f0 ∧ t.f0 ≤ 7) ∧ t.f1 = 0 ∧ t.f2 = 0 ∧ t.f3.length + t.f4.length = 0) = false from decide_eq_false (fun h => b h.1), decide_eq_false b]
      exact Ev.neg (by decide) (Ev.now _)
def szv (ptr kind : Int) : Int := if kind = 7 then ptr else wrap64 (Int.tdiv ((word_Of.f kind).getD 0) 8)
theorem sz_of (b : Bool) (ptr kind : Int) (hp : ptr = 2 ∨ ptr = 4) (h : 1 ≤ kind ∧ kind ≤ 7) : word_Bytes.f b ptr kind = some (szv ptr kind) ∧ (∀ k, cellarref1_Size.f (k + 2) b ptr kind = some (szv ptr kind)) ∧ 1 ≤ szv ptr kind := by
  have : kind = 1 ∨ kind = 2 ∨ kind = 3 ∨ kind = 4 ∨ kind = 5 ∨ kind = 6 ∨ kind = 7 := by omega
  rcases this with rfl | rfl | rfl | rfl | rfl | rfl | rfl
  · exact ⟨by kernel_rfl, fun k => by kernel_rfl, by rw [show szv ptr 1 = 1 by kernel_rfl]; omega⟩
  · exact ⟨by kernel_rfl, fun k => by kernel_rfl, by rw [show szv ptr 2 = 1 by kernel_rfl]; omega⟩
  · exact ⟨by kernel_rfl, fun k => by kernel_rfl, by rw [show szv ptr 3 = 2 by kernel_rfl]; omega⟩
  · exact ⟨by kernel_rfl, fun k => by kernel_rfl, by rw [show szv ptr 4 = 2 by kernel_rfl]; omega⟩
  · exact ⟨by kernel_rfl, fun k => by kernel_rfl, by rw [show szv ptr 5 = 4 by kernel_rfl]; omega⟩
  · exact ⟨by kernel_rfl, fun k => by kernel_rfl, by rw [show szv ptr 6 = 4 by kernel_rfl]; omega⟩
  · exact ⟨rfl, fun k => rfl, by rw [show szv ptr 7 = ptr by rfl]; omega⟩
/-- A type's place: its size, its align, how many scalars. -/
def place (ptr : Int) (ps : List S103) (t : S31) : S103 :=
  if t.f0 = 8 then ⟨wrap64 (t.f1 * (rd_T103 ps t.f2).f0), (rd_T103 ps t.f2).f1, wrap64 (t.f1 * (rd_T103 ps t.f2).f2)⟩
  else if t.f0 = 9 ∨ t.f0 = 10 then ⟨(offs ps t.f0 t.f4 0 1 0).2.1, (offs ps t.f0 t.f4 0 1 0).2.2.1, (offs ps t.f0 t.f4 0 1 0).2.2.2⟩
  else ⟨szv ptr t.f0, szv ptr t.f0, 1⟩
theorem ok8 {t : S31} {i : Int} (h : okF t i = true) (a : t.f0 = 8) : 1 ≤ t.f1 ∧ t.f1 ≤ 16 ∧ (0 ≤ t.f2 ∧ t.f2 < i) ∧ t.f3.length + t.f4.length = 0 := by
  unfold okF at h
  rw [if_pos a] at h
  exact of_decide_eq_true h
theorem no8 {t : S31} {i : Int} (a : t.f0 = 8) (h : ¬ (1 ≤ t.f1 ∧ t.f1 ≤ 16 ∧ (0 ≤ t.f2 ∧ t.f2 < i) ∧ t.f3.length + t.f4.length = 0)) : okF t i = false := by
  unfold okF
  rw [if_pos a]
  exact decide_eq_false h
theorem yes8 {t : S31} {i : Int} (a : t.f0 = 8) (h : 1 ≤ t.f1 ∧ t.f1 ≤ 16 ∧ (0 ≤ t.f2 ∧ t.f2 < i) ∧ t.f3.length + t.f4.length = 0) : okF t i = true := by
  unfold okF
  rw [if_pos a]
  exact decide_eq_true h
theorem okS {t : S31} {i : Int} (h : okF t i = true) (a : t.f0 = 9 ∨ t.f0 = 10) : (1 ≤ t.f4.length ∧ t.f4.length ≤ 6 ∧ t.f3.length = t.f4.length ∧ t.f1 = 0 ∧ t.f2 = 0) ∧ namesB [] t.f3 = true ∧ ∀ p ∈ t.f4, 0 ≤ p ∧ p < i := by
  unfold okF at h
  rw [if_neg (by omega), if_pos a, Bool.and_eq_true, Bool.and_eq_true, List.all_eq_true] at h
  exact ⟨of_decide_eq_true h.1, h.2.1, fun p hp => of_decide_eq_true (h.2.2 p hp)⟩
theorem okK {t : S31} {i : Int} (h : okF t i = true) (a : ¬ t.f0 = 8) (c : ¬ (t.f0 = 9 ∨ t.f0 = 10)) : (1 ≤ t.f0 ∧ t.f0 ≤ 7) ∧ t.f1 = 0 ∧ t.f2 = 0 ∧ t.f3.length + t.f4.length = 0 := by
  unfold okF at h
  rw [if_neg a, if_neg c] at h
  exact of_decide_eq_true h
theorem place_al {ptr : Int} {ps : List S103} {t : S31} (hp : ptr = 2 ∨ ptr = 4) (hal : AL ps) (h : okF t (ps.length : Int) = true) : 1 ≤ (place ptr ps t).f1 := by
  unfold place
  by_cases a : t.f0 = 8
  · rw [if_pos a]
    have := ok8 h a
    exact hal _ this.2.2.1.1 this.2.2.1.2
  · rw [if_neg a]
    by_cases c : t.f0 = 9 ∨ t.f0 = 10
    · rw [if_pos c]
      exact offs_al _ _ _ _ _ _ (by omega)
    · rw [if_neg c]
      exact (sz_of false ptr t.f0 hp (okK h a c).1).2.2
section
variable (ps : List S103) (kind : Int) (names : List ByteArray) (parts : List Int) (hlen : names.length = parts.length) (h6 : parts.length ≤ 6) (hn : ∀ s ∈ names, s.size ≤ 140737488351232) (hal : AL ps) (hpl : ps.length ≤ 30)
include hlen h6 hn hal hpl
theorem measure_l0 (n o : Int) : ∀ j : Int, 0 ≤ j → j ≤ parts.length → ∀ (e mo a m : Int), 1 ≤ a → Ev (fun k => cellarref7_measure.l0 k (ps.length : Int) (ps.map S103.f0) (ps.map S103.f1) e mo a j kind n o names parts)
    (if chk (ps.length : Int) (names.take j.toNat) (names.drop j.toNat) (parts.drop j.toNat) = true then ((offs ps kind (parts.drop j.toNat) (if kind = 10 then mo else e) a m).2.1, (offs ps kind (parts.drop j.toNat) (if kind = 10 then mo else e) a m).2.2.1, true) else (0, 0, false)) := by
  refine down (Q := fun j => ∀ (e mo a m : Int), 1 ≤ a → Ev (fun k => cellarref7_measure.l0 k (ps.length : Int) (ps.map S103.f0) (ps.map S103.f1) e mo a j kind n o names parts)
    (if chk (ps.length : Int) (names.take j.toNat) (names.drop j.toNat) (parts.drop j.toNat) = true then ((offs ps kind (parts.drop j.toNat) (if kind = 10 then mo else e) a m).2.1, (offs ps kind (parts.drop j.toNat) (if kind = 10 then mo else e) a m).2.2.1, true) else (0, 0, false))) ?_ ?_
  · intro e mo a m ha
    rw [Int.toNat_natCast, List.drop_length, ← hlen, List.drop_length, hlen]
    simp only [chk, offs, if_true]
    refine Ev.step (fun k => by rw [cellarref7_measure.l0]) (Ev.neg (by omega) ?_)
    by_cases c : kind = 10
    · simp only [if_pos c]
      exact Ev.bindS (up7 _ _ ha) (Ev.now _)
    · simp only [if_neg c]
      exact Ev.bindS (up7 _ _ ha) (Ev.now _)
  intro j j0 j1 ih e mo a m ha
  obtain ⟨i, rfl⟩ := Int.eq_ofNat_of_zero_le j0
  have hi : i < parts.length := by omega
  have hi' : i < names.length := by omega
  rw [show ((i : Int) + 1).toNat = i + 1 by omega, ← List.take_append_getElem hi'] at ih
  rw [Int.toNat_natCast, List.drop_eq_getElem_cons hi, List.drop_eq_getElem_cons hi']
  unfold chk offs
  refine Ev.step (fun k => by rw [cellarref7_measure.l0]) (Ev.pos j1 (Ev.pos j0 ?_))
  rw [rdI parts i hi, rdS names i hi', w64 (z := (i : Int) + 1) (by omega) (by omega), w64 (z := (ps.length : Int) - 1) (by omega) (by omega), rd0, rd1, Int.toNat_natCast]
  have hsn := hn _ (List.getElem_mem hi')
  generalize parts[i] = p at ih ⊢
  generalize names[i] = s at ih hsn ⊢
  refine Ev.bindS (num_le _ _) ?_
  by_cases hp : 0 ≤ p ∧ p < (ps.length : Int)
  case neg =>
    rw [decide_eq_false hp, decide_eq_false (by omega)]
    exact Ev.neg (by decide) (Ev.now _)
  rw [decide_eq_true hp, decide_eq_true (show 0 ≤ p ∧ p ≤ (ps.length : Int) - 1 by omega), Bool.true_and]
  refine Ev.pos rfl (Ev.pos (by omega) (Ev.bind (name_ev s hsn) ?_))
  cases nameOK s with
  | false => exact Ev.neg (by decide) (Ev.now _)
  | true =>
    rw [Bool.true_and]
    refine Ev.pos rfl (Ev.pos (by omega) (Ev.bind (has_ev (names.take i) s (by rw [List.length_take]; omega)) ?_))
    cases hasB (names.take i) s with
    | true => exact Ev.pos rfl (Ev.now _)
    | false =>
      refine Ev.neg (by decide) (Ev.pos hp.1 (Ev.pos (by rw [List.length_map]; exact hp.2) (Ev.bindS (up7 _ _ (hal _ hp.1 hp.2)) (Ev.pos (by rw [List.length_map]; exact hp.2) ?_))))
      have h := ih (wrap64 (upv e (rd_T103 ps p).f1 + (rd_T103 ps p).f0)) (mx mo (rd_T103 ps p).f0) (mx a (rd_T103 ps p).f1) (wrap64 (m + (rd_T103 ps p).f2)) (mx_pos _ _ ha)
      rw [Bool.not_false, Bool.true_and]
      by_cases c : kind = 10
      · simp only [if_pos c] at h ⊢
        exact h
      · simp only [if_neg c] at h ⊢
        exact h
end
section
variable (b : Bool) (ptr : Int) (hp : ptr = 2 ∨ ptr = 4) (ps : List S103) (hal : AL ps) (hpl : ps.length ≤ 30) (t : S31) (ht : TOK t)
include hp hal hpl ht
theorem measure_j0 : ∀ x : Bool, x = decide (t.f0 = 9 ∨ t.f0 = 10) → ¬ t.f0 = 8 → Ev (fun k => cellarref7_measure.j0 k (ps.length : Int) (ps.map S103.f0) (ps.map S103.f1) x b ptr t.f0 t.f1 t.f2 t.f3 t.f4) (if okF t (ps.length : Int) = true then ((place ptr ps t).f0, (place ptr ps t).f1, true) else (0, 0, false)) := by
  intro x hx a
  refine Ev.step (fun k => by rw [cellarref7_measure.j0]) ?_
  unfold okF place
  rw [if_neg a, if_neg a, w2 _ _ ht.1 ht.2.2]
  by_cases g : t.f0 = 9 ∨ t.f0 = 10
  · rw [decide_eq_true g] at hx
    subst hx
    rw [if_pos g, if_pos g]
    refine Ev.pos rfl ?_
    have off : ∀ q : Bool, q = true → Ev (fun k => cellarref7_measure.j1 k (ps.length : Int) (ps.map S103.f0) (ps.map S103.f1) q t.f0 t.f1 t.f2 t.f3 t.f4) (0, 0, false) := by
      rintro q rfl
      refine Ev.step (fun k => by rw [cellarref7_measure.j1]) ?_
      exact Ev.pos rfl (Ev.now _)
    have D : ∀ P : Prop, ∀ [Decidable P], ¬ P → ∀ z : Bool, (decide P && z) = true → False := by
      intro P _ h z hz
      rw [decide_eq_false h, Bool.false_and] at hz
      exact absurd hz (by decide)
    by_cases c : t.f1 = 0
    case neg =>
      rw [if_neg (fun h => D _ (by omega) _ h)]
      exact Ev.neg c (off _ rfl)
    refine Ev.pos c ?_
    by_cases d : t.f2 = 0
    case neg =>
      rw [if_neg (fun h => D _ (by omega) _ h)]
      exact Ev.neg d (off _ rfl)
    refine Ev.pos d (Ev.bindS (btw _ _ _) ?_)
    by_cases e : (1 : Int) ≤ (t.f4.length : Int) ∧ (t.f4.length : Int) ≤ 6
    case neg =>
      rw [if_neg (fun h => D _ (by omega) _ h), decide_eq_false e]
      exact Ev.neg (by decide) (off _ rfl)
    rw [decide_eq_true e]
    refine Ev.pos rfl ?_
    by_cases f : t.f3.length = t.f4.length
    case neg =>
      rw [if_neg (fun h => D _ (by omega) _ h)]
      exact off _ (by rw [bne_iff_ne]; omega)
    rw [decide_eq_true (show 1 ≤ t.f4.length ∧ t.f4.length ≤ 6 ∧ t.f3.length = t.f4.length ∧ t.f1 = 0 ∧ t.f2 = 0 by omega), Bool.true_and, f, ← chk_eq _ _ _ _ f]
    refine Ev.step (fun k => by rw [cellarref7_measure.j1]) (Ev.neg (by simp) ?_)
    have h := measure_l0 ps t.f0 t.f3 t.f4 f (by omega) ht.2.1 hal hpl t.f1 t.f2 0 (by omega) (by omega) 0 0 1 0 (by omega)
    simp only [show (0 : Int).toNat = 0 from rfl, List.drop_zero, List.take_zero, ite_self] at h
    exact h
  · rw [decide_eq_false g] at hx
    subst hx
    rw [if_neg g, if_neg g]
    refine Ev.neg (by decide) (Ev.bindS (rkind _) ?_)
    by_cases c : 1 ≤ t.f0 ∧ t.f0 ≤ 7
    case neg =>
      rw [decide_eq_false c, if_neg (by rw [decide_eq_true_iff]; exact fun h => c h.1)]
      exact Ev.neg (by decide) (Ev.now _)
    rw [decide_eq_true c]
    refine Ev.pos rfl ?_
    by_cases d : t.f1 = 0
    case neg =>
      rw [if_neg (by rw [decide_eq_true_iff]; exact fun h => d h.2.1)]
      exact Ev.neg d (Ev.now _)
    refine Ev.pos d ?_
    by_cases e : t.f2 = 0
    case neg =>
      rw [if_neg (by rw [decide_eq_true_iff]; exact fun h => e h.2.2.1)]
      exact Ev.neg e (Ev.now _)
    refine Ev.pos e ?_
    by_cases f : t.f3.length + t.f4.length = 0
    case neg =>
      rw [if_neg (by rw [decide_eq_true_iff]; exact fun h => f h.2.2.2)]
      exact Ev.pos (by omega) (Ev.now _)
    rw [if_pos (by rw [decide_eq_true_iff]; exact ⟨c, d, e, f⟩)]
    exact Ev.neg (by omega) (Ev.bind (Ev.plus 2 (sz_of b ptr t.f0 hp c).2.1) (Ev.now _))
theorem measure_ev (l : List S31) (i : Int) (i0 : 0 ≤ i) (i1 : i < (l.length : Int)) (hi : i = (ps.length : Int)) (htt : rd_T31 l i = t) : Ev (fun k => cellarref7_measure.f k b ptr l i (ps.map S103.f0) (ps.map S103.f1)) (if okF t (ps.length : Int) = true then ((place ptr ps t).f0, (place ptr ps t).f1, true) else (0, 0, false)) := by
  unfold cellarref7_measure.f
  refine Ev.pos i0 (Ev.pos i1 ?_)
  rw [htt, hi]
  by_cases a : t.f0 = 8
  · refine Ev.pos a (Ev.bindS (btw _ _ _) ?_)
    rw [w2 _ _ ht.1 ht.2.2]
    by_cases c : 1 ≤ t.f1 ∧ t.f1 ≤ 16
    case neg =>
      rw [decide_eq_false c, no8 a (fun h => c ⟨h.1, h.2.1⟩)]
      exact Ev.neg (by decide) (Ev.now _)
    rw [decide_eq_true c, w64 (z := (ps.length : Int) - 1) (by omega) (by omega)]
    refine Ev.pos rfl (Ev.bindS (num_le _ _) ?_)
    by_cases d : 0 ≤ t.f2 ∧ t.f2 < (ps.length : Int)
    case neg =>
      rw [decide_eq_false (show ¬ (0 ≤ t.f2 ∧ t.f2 ≤ (ps.length : Int) - 1) by omega), no8 a (fun h => d h.2.2.1)]
      exact Ev.neg (by decide) (Ev.now _)
    rw [decide_eq_true (show 0 ≤ t.f2 ∧ t.f2 ≤ (ps.length : Int) - 1 by omega)]
    refine Ev.pos rfl ?_
    by_cases f : t.f3.length + t.f4.length = 0
    case neg =>
      rw [no8 a (fun h => f h.2.2.2)]
      exact Ev.pos (by omega) (Ev.now _)
    rw [yes8 a ⟨c.1, c.2, d, f⟩, rd0, rd1]
    unfold place
    rw [if_pos a]
    exact Ev.neg (by omega) (Ev.pos d.1 (Ev.pos (by rw [List.length_map]; exact d.2) (Ev.pos (by rw [List.length_map]; exact d.2) (Ev.now _))))
  refine Ev.neg a ?_
  have J := measure_j0 b ptr hp ps hal hpl t ht
  by_cases h9 : t.f0 = 9
  · exact Ev.pos h9 (J _ (by rw [h9]; decide) a)
  · exact Ev.neg h9 (J _ (by rw [Bool.eq_iff_iff, beq_iff_eq, decide_eq_true_iff]; omega) a)
theorem count_ev (hok : okF t (ps.length : Int) = true) : Ev (fun k => cellarref7_count.f k t.f0 t.f1 t.f2 t.f3 t.f4 (ps.map S103.f2)) (place ptr ps t).f2 := by
  have _uh := hp; have _uh2 := hpl; have _uh3 := ht
  unfold cellarref7_count.f place
  by_cases a : t.f0 = 8
  · have d := (ok8 hok a).2.2.1
    rw [if_pos a, rd2]
    exact Ev.pos a (Ev.pos d.1 (Ev.pos (by rw [List.length_map]; exact d.2) (Ev.now _)))
  rw [if_neg a]
  refine Ev.neg a ?_
  by_cases g : t.f0 = 9 ∨ t.f0 = 10
  · have d := okS hok g
    rw [if_pos g]
    have h := count_l0 ps t.f0 t.f4 d.2.2 hal d.1.2.1 t.f1 t.f2 t.f3 0 (by omega) (by omega) 0 1 0
    rw [if_pos g, show (0 : Int).toNat = 0 from rfl, List.drop_zero] at h
    exact h
  · have d := okK hok a g
    rw [if_neg g]
    have e : t.f4 = [] := List.eq_nil_of_length_eq_zero (by omega)
    have h := count_l0 ps t.f0 t.f4 (by rw [e]; exact fun p hp => absurd hp (by simp)) hal (by omega) t.f1 t.f2 t.f3 0 (by omega) (by omega) 0 1 0
    rw [if_neg g] at h
    exact h
end
theorem rd_app (ps : List S103) (q : S103) (p : Int) (p0 : 0 ≤ p) (p1 : p < (ps.length : Int)) : rd_T103 (ps ++ [q]) p = rd_T103 ps p := by
  unfold rd_T103
  rw [List.getD_eq_getElem?_getD, List.getD_eq_getElem?_getD, List.getElem?_append_left (by omega)]
theorem rd_last (ps : List S103) (q : S103) : rd_T103 (ps ++ [q]) (ps.length : Int) = q := by
  rw [rdP _ _ (by simp)]
  simp
theorem AL.app {ps : List S103} {q : S103} (h : AL ps) (hq : 1 ≤ q.f1) : AL (ps ++ [q]) := by
  intro p p0 p1
  rw [List.length_append, List.length_singleton] at p1
  by_cases c : p < (ps.length : Int)
  · rw [rd_app ps q p p0 c]
    exact h p p0 c
  · obtain rfl : p = (ps.length : Int) := by omega
    rw [rd_last]
    exact hq
/-- What is known of types that may be. -/
def GOOD (l : List S31) (ps : List S103) : Prop := ps.length = l.length ∧ AL ps ∧ ∀ j : Int, 0 ≤ j → j < (l.length : Int) → okF (rd_T31 l j) j = true
section
variable (b : Bool) (ptr : Int) (hp : ptr = 2 ∨ ptr = 4) (l : List S31) (hl : l.length ≤ 30) (hT : ∀ t ∈ l, TOK t)
include hp hl hT
theorem both_l0 : ∀ i : Int, 0 ≤ i → i ≤ l.length → ∀ ps : List S103, (ps.length : Int) = i → AL ps → (∀ j : Int, 0 ≤ j → j < i → okF (rd_T31 l j) j = true) →
    ∃ r : List S103 × Bool, Ev (fun k => lay_places.l0 k ps l (l.length : Int) i b ptr) r ∧ Ev (fun k => cellarref7_Types.l0 k l (ps.map S103.f0) (ps.map S103.f1) (ps.map S103.f2) i b ptr) (r.1.map S103.f0, r.1.map S103.f1, r.2) ∧ (r.2 = true → GOOD l r.1) := by
  refine down (Q := fun i => ∀ ps : List S103, (ps.length : Int) = i → AL ps → (∀ j : Int, 0 ≤ j → j < i → okF (rd_T31 l j) j = true) →
    ∃ r : List S103 × Bool, Ev (fun k => lay_places.l0 k ps l (l.length : Int) i b ptr) r ∧ Ev (fun k => cellarref7_Types.l0 k l (ps.map S103.f0) (ps.map S103.f1) (ps.map S103.f2) i b ptr) (r.1.map S103.f0, r.1.map S103.f1, r.2) ∧ (r.2 = true → GOOD l r.1)) ?_ ?_
  · intro ps hps hal hok
    refine ⟨(ps, true), Ev.step (fun k => by rw [lay_places.l0]) ?_, Ev.step (fun k => by rw [cellarref7_Types.l0]) ?_, fun _ => ⟨by show ps.length = l.length; omega, hal, hok⟩⟩
    · exact Ev.neg (by omega) (Ev.now _)
    · exact Ev.neg (by omega) (Ev.now _)
  intro i i0 i1 ih ps hps hal hok
  have hT' : TOK (rd_T31 l i) := by
    obtain ⟨j, rfl⟩ := Int.eq_ofNat_of_zero_le i0
    rw [rdT l j (by omega)]
    exact hT _ (List.getElem_mem _)
  have wi : wrap64 (i + 1) = i + 1 := w64 (by omega) (by omega)
  have hpl : ps.length ≤ 30 := by omega
  have hF := form_ev (rd_T31 l i) hT' i
  have hM := measure_ev b ptr hp ps hal hpl (rd_T31 l i) hT' l i i0 i1 hps.symm rfl
  generalize htt : rd_T31 l i = t at hT' hF hM
  rw [hps] at hM
  by_cases ok : okF t i = true
  case neg =>
    rw [if_neg ok] at hM
    rw [Bool.eq_false_iff.2 ok] at hF
    refine ⟨([], false), Ev.step (fun k => by rw [lay_places.l0]) ?_, Ev.step (fun k => by rw [cellarref7_Types.l0]) ?_, fun h => absurd h (by decide)⟩
    · rw [htt]
      exact Ev.pos i1 (Ev.pos i0 (Ev.pos i1 (Ev.bind hF (Ev.neg (by decide) (Ev.now _)))))
    · refine Ev.pos i1 (Ev.bind hM (Ev.neg (by decide) ?_))
      refine Ev.step (fun k => by rw [cellarref7_Types.j2]) ?_
      exact Ev.pos rfl (Ev.now _)
  rw [if_pos ok] at hM
  rw [ok] at hF
  have hok' : okF t (ps.length : Int) = true := by rw [hps]; exact ok
  have hC := count_ev ptr hp ps hal hpl t hT' hok'
  have hq := place_al hp hal hok'
  have P : ∀ r, Ev (fun k => if (place ptr ps t).f0 > 32 then some (([] : List S103), false) else if (place ptr ps t).f2 > 64 then some (([] : List S103), false) else lay_places.l0 k (ps ++ [place ptr ps t]) l (l.length : Int) (i + 1) b ptr) r → Ev (fun k => lay_places.l0 k ps l (l.length : Int) i b ptr) r := by
    intro r h
    refine Ev.step (fun k => by rw [lay_places.l0]) (Ev.pos i1 (Ev.pos i0 (Ev.pos i1 ?_)))
    rw [htt, wi]
    refine Ev.bind hF (Ev.pos rfl ?_)
    have len : ps.length < 5864062014805 := by omega
    unfold place at h
    by_cases a : t.f0 = 8
    · have d := (ok8 ok a).2.2.1
      simp only [if_pos a] at h
      refine Ev.pos a (Ev.pos d.1 (Ev.pos (by omega) ?_))
      simp only [if_pos len]
      exact h
    simp only [if_neg a] at h
    refine Ev.neg a ?_
    have J : ∀ x : Bool, x = decide (t.f0 = 9 ∨ t.f0 = 10) → Ev (fun k => lay_places.j2 k ps l (l.length : Int) i x b ptr t.f0 t.f1 t.f2 t.f3 t.f4) r := by
      intro x hx
      refine Ev.step (fun k => by rw [lay_places.j2]) ?_
      rw [wi]
      by_cases g : t.f0 = 9 ∨ t.f0 = 10
      · rw [decide_eq_true g] at hx
        subst hx
        have d := okS ok g
        simp only [if_pos g] at h
        refine Ev.pos rfl (Ev.bind (offsets_ev ps t.f0 t.f4 (fun p hp => by rw [hps]; exact d.2.2 p hp) hal d.1.2.1 t.f1 t.f2 t.f3) ?_)
        simp only [if_pos len]
        exact h
      · rw [decide_eq_false g] at hx
        subst hx
        have d := okK ok a g
        simp only [if_neg g] at h
        refine Ev.neg (by decide) (Ev.bindS (sz_of b ptr t.f0 hp d.1).1 ?_)
        simp only [if_pos len]
        exact h
    by_cases h9 : t.f0 = 9
    · exact Ev.pos h9 (J _ (by rw [h9]; decide))
    · exact Ev.neg h9 (J _ (by rw [Bool.eq_iff_iff, beq_iff_eq, decide_eq_true_iff]; omega))
  have R : ∀ r, Ev (fun k => if (place ptr ps t).f0 > 32 then some (([] : List Int), ([] : List Int), false) else if (place ptr ps t).f2 > 64 then some (([] : List Int), ([] : List Int), false) else cellarref7_Types.l0 k l (ps.map S103.f0 ++ [(place ptr ps t).f0]) (ps.map S103.f1 ++ [(place ptr ps t).f1]) (ps.map S103.f2 ++ [(place ptr ps t).f2]) (i + 1) b ptr) r → Ev (fun k => cellarref7_Types.l0 k l (ps.map S103.f0) (ps.map S103.f1) (ps.map S103.f2) i b ptr) r := by
    intro r h
    refine Ev.step (fun k => by rw [cellarref7_Types.l0]) (Ev.pos i1 (Ev.bind hM (Ev.pos rfl ?_)))
    refine Ev.step (fun k => by rw [cellarref7_Types.j2]) ?_
    rw [htt, wi]
    by_cases c : (place ptr ps t).f0 > 32
    · simp only [if_pos c] at h
      exact Ev.pos (decide_eq_true c) h
    · simp only [if_neg c] at h
      refine Ev.neg (by simpa using c) (Ev.pos i0 (Ev.pos i1 (Ev.bind hC ?_)))
      simp only [List.length_map, if_pos (show ps.length < 17592186044416 by omega)]
      exact h
  by_cases c : (place ptr ps t).f0 > 32
  · refine ⟨([], false), P _ (Ev.pos c (Ev.now _)), R _ (Ev.pos c (Ev.now _)), fun h => absurd h (by decide)⟩
  by_cases d : (place ptr ps t).f2 > 64
  · refine ⟨([], false), P _ (Ev.neg c (Ev.pos d (Ev.now _))), R _ (Ev.neg c (Ev.pos d (Ev.now _))), fun h => absurd h (by decide)⟩
  obtain ⟨r, h1, h2, h3⟩ := ih (ps ++ [place ptr ps t]) (by rw [List.length_append, List.length_singleton]; omega) (hal.app hq) (by
    intro j j0 j1
    by_cases e : j < i
    · exact hok j j0 e
    · obtain rfl : j = i := by omega
      rw [htt]
      exact ok)
  rw [List.map_append, List.map_append, List.map_append] at h2
  exact ⟨r, P _ (Ev.neg c (Ev.neg d h1)), R _ (Ev.neg c (Ev.neg d h2)), h3⟩
end
theorem types_ev (b : Bool) (ptr : Int) (l : List S31) (hT : ∀ t ∈ l, TOK t) : ∃ r : List S103 × Bool, Ev (fun k => lay_places.f k b ptr l) r ∧ Ev (fun k => cellarref7_Types.f k b ptr l) (r.1.map S103.f0, r.1.map S103.f1, r.2) ∧ (r.2 = true → GOOD l r.1) := by
  have off : ∀ q : Bool, q = true → Ev (fun k => lay_places.j0 k l ([] : List S103) q b ptr) ([], false) := by
    rintro q rfl
    refine Ev.step (fun k => by rw [lay_places.j0]) ?_
    exact Ev.pos rfl (Ev.now _)
  have off7 : ∀ q : Bool, q = true → Ev (fun k => cellarref7_Types.j0 k l q b ptr) ([], [], false) := by
    rintro q rfl
    refine Ev.step (fun k => by rw [cellarref7_Types.j0]) ?_
    exact Ev.pos rfl (Ev.now _)
  unfold lay_places.f cellarref7_Types.f
  by_cases hp : ptr = 2 ∨ ptr = 4
  case neg => exact ⟨([], false), Ev.bindS (amay _ _) (Ev.neg (by simpa using hp) (off _ rfl)), Ev.bindS (rabi _ _) (Ev.neg (by simpa using hp) (off7 _ rfl)), fun h => absurd h (by decide)⟩
  by_cases hl : l.length ≤ 30
  case neg => exact ⟨([], false), Ev.bindS (amay _ _) (Ev.pos (decide_eq_true hp) (off _ (decide_eq_true (by omega)))), Ev.bindS (rabi _ _) (Ev.pos (decide_eq_true hp) (off7 _ (decide_eq_true (by omega)))), fun h => absurd h (by decide)⟩
  obtain ⟨r, h1, h2, h3⟩ := both_l0 b ptr hp l hl hT 0 (by omega) (by omega) [] rfl (fun p p0 p1 => absurd p1 (by simp; omega)) (fun j j0 j1 => by omega)
  refine ⟨r, Ev.bindS (amay _ _) (Ev.pos (decide_eq_true hp) (Ev.step (fun k => by rw [lay_places.j0]) ?_)), Ev.bindS (rabi _ _) (Ev.pos (decide_eq_true hp) (Ev.step (fun k => by rw [cellarref7_Types.j0]) ?_)), h3⟩
  · exact Ev.neg (by simp; omega) h1
  · exact Ev.neg (by simp; omega) h2
theorem no_size {b : Bool} {ptr : Int} {l : List S31} {t c : Int} (hc : ¬ c = 0) (h : Ev (fun k => lay_asked.f k b ptr l t) ([], c)) : Ev (fun k => lay_Size.f k b ptr l t) (0, c) := by
  unfold lay_Size.f
  exact Ev.bind h (Ev.neg hc (Ev.now _))
theorem no_align {b : Bool} {ptr : Int} {l : List S31} {t c : Int} (hc : ¬ c = 0) (h : Ev (fun k => lay_asked.f k b ptr l t) ([], c)) : Ev (fun k => lay_Align.f k b ptr l t) (0, c) := by
  unfold lay_Align.f
  exact Ev.bind h (Ev.neg hc (Ev.now _))
theorem no_field {b : Bool} {ptr : Int} {l : List S31} {t c : Int} (hc : ¬ c = 0) (h : Ev (fun k => lay_asked.f k b ptr l t) ([], c)) (s : ByteArray) : Ev (fun k => lay_Field.f k b ptr l t s) (0, 0, c) := by
  unfold lay_Field.f
  exact Ev.bind h (Ev.neg hc (Ev.now _))
theorem no_item {b : Bool} {ptr : Int} {l : List S31} {t c : Int} (hc : ¬ c = 0) (h : Ev (fun k => lay_asked.f k b ptr l t) ([], c)) (n : Int) : Ev (fun k => lay_Item.f k b ptr l t n) (0, c) := by
  unfold lay_Item.f
  exact Ev.bind h (Ev.neg hc (Ev.now _))
section
variable {b : Bool} {ptr : Int} {l : List S31} {r : List S103 × Bool} (hP : Ev (fun k => lay_places.f k b ptr l) r)
include hP
theorem check_ev : Ev (fun k => lay_Check.f k b ptr l) (if r.2 = true then 0 else 1) := by
  unfold lay_Check.f
  refine Ev.bind hP ?_
  by_cases c : r.2 = true
  · simp only [if_pos c]
    exact Ev.now _
  · simp only [if_neg c]
    exact Ev.now _
theorem asked_form (h : ¬ r.2 = true) (t : Int) : Ev (fun k => lay_asked.f k b ptr l t) ([], 1) := by
  unfold lay_asked.f
  exact Ev.bind hP (Ev.neg h (Ev.now _))
theorem asked_none (h : r.2 = true) (t : Int) (ht : ¬ (0 ≤ t ∧ t < (l.length : Int))) : Ev (fun k => lay_asked.f k b ptr l t) ([], 3) := by
  unfold lay_asked.f
  refine Ev.bind hP (Ev.pos h ?_)
  by_cases c : t < 0
  · exact Ev.pos c (Ev.now _)
  · exact Ev.neg c (Ev.pos (by omega) (Ev.now _))
theorem asked_yes (h : r.2 = true) (t : Int) (t0 : 0 ≤ t) (t1 : t < (l.length : Int)) : Ev (fun k => lay_asked.f k b ptr l t) (r.1, 0) := by
  unfold lay_asked.f
  exact Ev.bind hP (Ev.pos h (Ev.neg (by omega) (Ev.neg (by omega) (Ev.now _))))
end
section
variable {b : Bool} {ptr : Int} {l : List S31} {ps : List S103} {t : Int} (t0 : 0 ≤ t) (t1 : t < (l.length : Int)) (hA : Ev (fun k => lay_asked.f k b ptr l t) (ps, 0)) (hG : GOOD l ps)
include t0 t1 hA hG
theorem yes_size : Ev (fun k => lay_Size.f k b ptr l t) ((rd_T103 ps t).f0, 0) := by
  have := hG.1
  unfold lay_Size.f
  exact Ev.bind hA (Ev.pos rfl (Ev.pos t0 (Ev.pos (show t < (ps.length : Int) by omega) (Ev.now _))))
theorem yes_align : Ev (fun k => lay_Align.f k b ptr l t) ((rd_T103 ps t).f1, 0) := by
  have := hG.1
  unfold lay_Align.f
  exact Ev.bind hA (Ev.pos rfl (Ev.pos t0 (Ev.pos (show t < (ps.length : Int) by omega) (Ev.now _))))
theorem yes_item (n : Int) : Ev (fun k => lay_Item.f k b ptr l t n) (if (rd_T31 l t).f0 = 8 then (if 0 ≤ n ∧ n ≤ (rd_T31 l t).f1 - 1 then (wrap64 (n * (rd_T103 ps (rd_T31 l t).f2).f0), 0) else (0, 2)) else (0, 5)) := by
  have hl := hG.1
  have hok := hG.2.2 t t0 t1
  unfold lay_Item.f
  refine Ev.bind hA (Ev.pos rfl (Ev.pos t0 (Ev.pos t1 ?_)))
  generalize rd_T31 l t = T at hok ⊢
  by_cases a : T.f0 = 8
  · have d := ok8 hok a
    simp only [if_pos a]
    by_cases c : 0 ≤ n ∧ n ≤ T.f1 - 1
    · rw [if_pos c]
      exact Ev.neg (by omega) (Ev.neg (by omega) (Ev.pos d.2.2.1.1 (Ev.pos (show T.f2 < (ps.length : Int) by omega) (Ev.now _))))
    · rw [if_neg c]
      by_cases e : n < 0
      · exact Ev.pos e (Ev.now _)
      · exact Ev.neg e (Ev.pos (by omega) (Ev.now _))
  · simp only [if_neg a]
    exact Ev.now _
theorem field_l0 (s : ByteArray) (X : List Int) (hX : X.length = (rd_T31 l t).f4.length) (hN : (rd_T31 l t).f3.length = (rd_T31 l t).f4.length) (h6 : (rd_T31 l t).f4.length ≤ 6) :
    ∀ j : Int, 0 ≤ j → j ≤ X.length → Ev (fun k => cellarref7_Field.l0 k l t s X j) (if findI ((rd_T31 l t).f3.drop j.toNat) s j < 0 then (0, 0, 6) else (rd X (findI ((rd_T31 l t).f3.drop j.toNat) s j), rd (rd_T31 l t).f4 (findI ((rd_T31 l t).f3.drop j.toNat) s j), 0)) := by
  have _uh := hA; have _uh2 := hG
  refine down (Q := fun j => Ev (fun k => cellarref7_Field.l0 k l t s X j) (if findI ((rd_T31 l t).f3.drop j.toNat) s j < 0 then (0, 0, 6) else (rd X (findI ((rd_T31 l t).f3.drop j.toNat) s j), rd (rd_T31 l t).f4 (findI ((rd_T31 l t).f3.drop j.toNat) s j), 0))) ?_ ?_
  · rw [Int.toNat_natCast, hX, ← hN, List.drop_length, hN, ← hX]
    refine Ev.step (fun k => by rw [cellarref7_Field.l0]) ?_
    exact Ev.neg (by omega) (Ev.now _)
  intro j j0 j1 ih
  obtain ⟨i, rfl⟩ := Int.eq_ofNat_of_zero_le j0
  have hi : i < (rd_T31 l t).f3.length := by omega
  rw [show ((i : Int) + 1).toNat = i + 1 by omega] at ih
  rw [Int.toNat_natCast, List.drop_eq_getElem_cons hi]
  refine Ev.step (fun k => by rw [cellarref7_Field.l0]) (Ev.pos j1 (Ev.pos t0 (Ev.pos t1 (Ev.pos j0 (Ev.pos (by omega) ?_)))))
  rw [rdS _ i hi, w64 (z := (i : Int) + 1) (by omega) (by omega)]
  unfold findI
  by_cases c : (rd_T31 l t).f3[i].toList = s.toList
  · simp only [if_pos (show s.toList = (rd_T31 l t).f3[i].toList from c.symm)]
    rw [if_neg (show ¬ ((i : Int) < 0) by omega)]
    exact Ev.pos c (Ev.pos (by omega) (Ev.now _))
  · simp only [if_neg (show ¬ s.toList = (rd_T31 l t).f3[i].toList from fun h => c h.symm)]
    exact Ev.neg c ih
theorem yes_field (al : List Int) (hal : al = ps.map S103.f1) (hY : Ev (fun k => cellarref7_Types.f k b ptr l) (ps.map S103.f0, al, true)) (s : ByteArray) : ∃ v : Int × Int × Int, Ev (fun k => lay_Field.f k b ptr l t s) v ∧ Ev (fun k => cellarref7_Field.f k b ptr l t s) v := by
  subst hal
  have hl := hG.1
  have hok := hG.2.2 t t0 t1
  by_cases g : (rd_T31 l t).f0 = 9 ∨ (rd_T31 l t).f0 = 10
  case neg =>
    refine ⟨(0, 0, 5), ?_, ?_⟩
    · unfold lay_Field.f
      refine Ev.bind hA (Ev.pos rfl (Ev.pos t0 (Ev.pos t1 (Ev.neg (by omega) ?_))))
      refine Ev.step (fun k => by rw [lay_Field.j0]) ?_
      exact Ev.pos (by rw [bne_iff_ne]; omega) (Ev.now _)
    · unfold cellarref7_Field.f
      refine Ev.pos t0 (Ev.pos t1 (Ev.neg (by omega) ?_))
      refine Ev.step (fun k => by rw [cellarref7_Field.j0]) ?_
      exact Ev.pos (by rw [bne_iff_ne]; omega) (Ev.now _)
  have d := okS hok g
  have hin : INR ps (rd_T31 l t).f4 := fun p hp => by have := d.2.2 p hp; omega
  have hO := offsets_ev ps (rd_T31 l t).f0 (rd_T31 l t).f4 hin hG.2.1 d.1.2.1 (rd_T31 l t).f1 (rd_T31 l t).f2 (rd_T31 l t).f3
  have hO7 := offsets7_l0 ps (rd_T31 l t).f0 (rd_T31 l t).f4 hin hG.2.1 d.1.2.1 l t t0 t1 rfl rfl
  have hX := offs_len ps (rd_T31 l t).f0 (rd_T31 l t).f4 0 1 0
  generalize offs ps (rd_T31 l t).f0 (rd_T31 l t).f4 0 1 0 = o at hO hO7 hX
  have hF := field_l0 t0 t1 hA hG s o.1 hX d.1.2.2.1 d.1.2.1 0 (by omega) (by omega)
  rw [show (0 : Int).toNat = 0 from rfl, List.drop_zero] at hF
  have hI := findI_in (rd_T31 l t).f3 s 0 (by omega)
  have hE := index_ev (rd_T31 l t).f3 s (by omega)
  have J : ∀ x : Bool, ¬ x = true → Ev (fun k => lay_Field.j0 k l t s ps x) (if findI (rd_T31 l t).f3 s 0 < 0 then (0, 0, 6) else (rd o.1 (findI (rd_T31 l t).f3 s 0), rd (rd_T31 l t).f4 (findI (rd_T31 l t).f3 s 0), 0)) := by
    intro x hx
    refine Ev.step (fun k => by rw [lay_Field.j0]) (Ev.neg hx (Ev.pos t0 (Ev.pos t1 (Ev.bind hE ?_))))
    generalize findI (rd_T31 l t).f3 s 0 = z at hI ⊢
    by_cases c : z < 0
    · simp only [if_pos c]
      exact Ev.now _
    · simp only [if_neg c]
      exact (Ev.bind hO (Ev.pos (by omega) (Ev.pos (by omega) (Ev.pos (by omega) (Ev.now _)))))
  have J7 : ∀ x : Bool, ¬ x = true → Ev (fun k => cellarref7_Field.j0 k l t s x b ptr) (if findI (rd_T31 l t).f3 s 0 < 0 then (0, 0, 6) else (rd o.1 (findI (rd_T31 l t).f3 s 0), rd (rd_T31 l t).f4 (findI (rd_T31 l t).f3 s 0), 0)) := by
    intro x hx
    refine Ev.step (fun k => by rw [cellarref7_Field.j0]) (Ev.neg hx ?_)
    have hOf : Ev (fun k => cellarref7_Offsets.f k b ptr l t) o.1 := by
      unfold cellarref7_Offsets.f
      exact Ev.bind hY hO7
    exact Ev.bind hOf hF
  refine ⟨if findI (rd_T31 l t).f3 s 0 < 0 then (0, 0, 6) else (rd o.1 (findI (rd_T31 l t).f3 s 0), rd (rd_T31 l t).f4 (findI (rd_T31 l t).f3 s 0), 0), ?_, ?_⟩
  · unfold lay_Field.f
    refine Ev.bind hA (Ev.pos rfl (Ev.pos t0 (Ev.pos t1 ?_)))
    by_cases h9 : (rd_T31 l t).f0 = 9
    · exact Ev.pos h9 (J _ (by decide))
    · refine Ev.neg h9 (J _ ?_)
      rw [bne_iff_ne]
      omega
  · unfold cellarref7_Field.f
    refine Ev.pos t0 (Ev.pos t1 ?_)
    by_cases h9 : (rd_T31 l t).f0 = 9
    · exact Ev.pos h9 (J7 _ (by decide))
    · refine Ev.neg h9 (J7 _ ?_)
      rw [bne_iff_ne]
      omega
end
theorem copyS (l : List ByteArray) (hl : l.length ≤ 8796093021952) : Ev (fun k => cellarref0_CopyStrings.f k l) l := by
  have key : ∀ i : Int, 0 ≤ i → i ≤ l.length → Ev (fun k => cellarref0_CopyStrings.l0 k l (l.take i.toNat) i) l := by
    refine down (Q := fun i => Ev (fun k => cellarref0_CopyStrings.l0 k l (l.take i.toNat) i) l) ?_ ?_
    · refine Ev.step (fun k => by rw [cellarref0_CopyStrings.l0]) ?_
      refine Ev.neg (by omega) (Ev.val ?_)
      rw [Int.toNat_natCast, List.take_length]
    intro i i0 i1 ih
    obtain ⟨n, rfl⟩ := Int.eq_ofNat_of_zero_le i0
    have hn : n < l.length := by omega
    rw [show ((n : Int) + 1).toNat = n + 1 by omega] at ih
    refine Ev.step (fun k => by rw [cellarref0_CopyStrings.l0]) ?_
    refine Ev.pos i1 (Ev.pos i0 (Ev.pos (by rw [List.length_take]; omega) ?_))
    rw [w64 (z := (n : Int) + 1) (by omega) (by omega), rdS l n hn, Int.toNat_natCast, List.take_append_getElem hn]
    exact ih
  exact key 0 (by omega) (by omega)
theorem copyN (l : List Int) (hl : l.length ≤ 17592186043904) : Ev (fun k => cellarref0_CopyNumbers.f k l) l := by
  have key : ∀ i : Int, 0 ≤ i → i ≤ l.length → Ev (fun k => cellarref0_CopyNumbers.l0 k l (l.take i.toNat) i) l := by
    refine down (Q := fun i => Ev (fun k => cellarref0_CopyNumbers.l0 k l (l.take i.toNat) i) l) ?_ ?_
    · refine Ev.step (fun k => by rw [cellarref0_CopyNumbers.l0]) ?_
      refine Ev.neg (by omega) (Ev.val ?_)
      rw [Int.toNat_natCast, List.take_length]
    intro i i0 i1 ih
    obtain ⟨n, rfl⟩ := Int.eq_ofNat_of_zero_le i0
    have hn : n < l.length := by omega
    rw [show ((n : Int) + 1).toNat = n + 1 by omega] at ih
    refine Ev.step (fun k => by rw [cellarref0_CopyNumbers.l0]) ?_
    refine Ev.pos i1 (Ev.pos i0 (Ev.pos (by rw [List.length_take]; omega) ?_))
    rw [w64 (z := (n : Int) + 1) (by omega) (by omega), rdI l n hn, Int.toNat_natCast, List.take_append_getElem hn]
    exact ih
  exact key 0 (by omega) (by omega)
theorem copyT (l : List S31) (hl : l.length ≤ 1954687338267) (hT : ∀ t ∈ l, TOK t) : Ev (fun k => cellarref0_CopyTypes.f k l) l := by
  have key : ∀ i : Int, 0 ≤ i → i ≤ l.length → Ev (fun k => cellarref0_CopyTypes.l0 k l (l.take i.toNat) i) l := by
    refine down (Q := fun i => Ev (fun k => cellarref0_CopyTypes.l0 k l (l.take i.toNat) i) l) ?_ ?_
    · refine Ev.step (fun k => by rw [cellarref0_CopyTypes.l0]) ?_
      refine Ev.neg (by omega) (Ev.val ?_)
      rw [Int.toNat_natCast, List.take_length]
    intro i i0 i1 ih
    obtain ⟨n, rfl⟩ := Int.eq_ofNat_of_zero_le i0
    have hn : n < l.length := by omega
    have ht := hT _ (List.getElem_mem hn)
    rw [show ((n : Int) + 1).toNat = n + 1 by omega] at ih
    refine Ev.step (fun k => by rw [cellarref0_CopyTypes.l0]) ?_
    refine Ev.pos i1 (Ev.pos i0 ?_)
    rw [rdT l n hn, Int.toNat_natCast]
    have hc : Ev (fun k => cellarref0_CopyType.f k l[n].f0 l[n].f1 l[n].f2 l[n].f3 l[n].f4) (l[n].f0, l[n].f1, l[n].f2, l[n].f3, l[n].f4) := by
      unfold cellarref0_CopyType.f
      exact Ev.bind (copyS _ ht.1) (Ev.bind (copyN _ ht.2.2) (Ev.now _))
    refine Ev.bind hc (Ev.pos (by rw [List.length_take]; omega) ?_)
    rw [w64 (z := (n : Int) + 1) (by omega) (by omega)]
    rw [← List.take_append_getElem hn] at ih
    exact ih
  exact key 0 (by omega) (by omega)
theorem eqS (l : List ByteArray) (hl : l.length ≤ 8796093021952) : Ev (fun k => cellarref0_EqStrings.f k l l) true := by
  have key : ∀ i : Int, 0 ≤ i → i ≤ l.length → Ev (fun k => cellarref0_EqStrings.l0 k l l i) true := by
    refine down (Q := fun i => Ev (fun k => cellarref0_EqStrings.l0 k l l i) true) ?_ ?_
    · refine Ev.step (fun k => by rw [cellarref0_EqStrings.l0]) ?_
      exact Ev.neg (by omega) (Ev.now _)
    intro i i0 i1 ih
    refine Ev.step (fun k => by rw [cellarref0_EqStrings.l0]) (Ev.pos i1 (Ev.pos i0 (Ev.pos i1 (Ev.pos rfl ?_))))
    rw [w64 (z := i + 1) (by omega) (by omega)]
    exact ih
  unfold cellarref0_EqStrings.f
  exact Ev.pos rfl (key 0 (by omega) (by omega))
theorem eqN (l : List Int) (hl : l.length ≤ 17592186043904) : Ev (fun k => cellarref0_EqNumbers.f k l l) true := by
  have key : ∀ i : Int, 0 ≤ i → i ≤ l.length → Ev (fun k => cellarref0_EqNumbers.l0 k l l i) true := by
    refine down (Q := fun i => Ev (fun k => cellarref0_EqNumbers.l0 k l l i) true) ?_ ?_
    · refine Ev.step (fun k => by rw [cellarref0_EqNumbers.l0]) ?_
      exact Ev.neg (by omega) (Ev.now _)
    intro i i0 i1 ih
    refine Ev.step (fun k => by rw [cellarref0_EqNumbers.l0]) (Ev.pos i1 (Ev.pos i0 (Ev.pos i1 (Ev.pos rfl ?_))))
    rw [w64 (z := i + 1) (by omega) (by omega)]
    exact ih
  unfold cellarref0_EqNumbers.f
  exact Ev.pos rfl (key 0 (by omega) (by omega))
theorem eqT (l : List S31) (hl : l.length ≤ 1954687338267) (hT : ∀ t ∈ l, TOK t) : Ev (fun k => cellarref0_EqTypes.f k l l) true := by
  have key : ∀ i : Int, 0 ≤ i → i ≤ l.length → Ev (fun k => cellarref0_EqTypes.l0 k l l i) true := by
    refine down (Q := fun i => Ev (fun k => cellarref0_EqTypes.l0 k l l i) true) ?_ ?_
    · refine Ev.step (fun k => by rw [cellarref0_EqTypes.l0]) ?_
      exact Ev.neg (by omega) (Ev.now _)
    intro i i0 i1 ih
    obtain ⟨n, rfl⟩ := Int.eq_ofNat_of_zero_le i0
    have hn : n < l.length := by omega
    have ht := hT _ (List.getElem_mem hn)
    refine Ev.step (fun k => by rw [cellarref0_EqTypes.l0]) (Ev.pos i1 (Ev.pos i0 (Ev.pos i1 ?_)))
    rw [rdT l n hn]
    have he : Ev (fun k => cellarref0_EqType.f k l[n].f0 l[n].f1 l[n].f2 l[n].f3 l[n].f4 l[n].f0 l[n].f1 l[n].f2 l[n].f3 l[n].f4) true := by
      unfold cellarref0_EqType.f
      exact Ev.pos rfl (Ev.pos rfl (Ev.pos rfl (Ev.bind (eqS _ ht.1) (Ev.pos rfl (Ev.bind (eqN _ ht.2.2) (Ev.now _))))))
    refine Ev.bind he (Ev.pos rfl ?_)
    rw [w64 (z := (n : Int) + 1) (by omega) (by omega)]
    exact ih
  unfold cellarref0_EqTypes.f
  exact Ev.pos rfl (key 0 (by omega) (by omega))
theorem texts_ev (S : List ByteArray) (hS : S.length ≤ 8796093021952) : ∃ r, Ev (fun k => cellarlaw0_Texts.f k S) r := by
  have key : ∀ i : Int, 0 ≤ i → i ≤ S.length → ∀ x : Int, ∃ r, Ev (fun k => cellarlaw0_Texts.l0 k S x i) r := by
    refine down (Q := fun i => ∀ x : Int, ∃ r, Ev (fun k => cellarlaw0_Texts.l0 k S x i) r) ?_ ?_
    · exact fun x => ⟨x, Ev.step (fun k => by rw [cellarlaw0_Texts.l0]) (Ev.neg (by omega) (Ev.now _))⟩
    intro i i0 i1 ih x
    by_cases c : x < 1048576
    · obtain ⟨r, h⟩ := ih (wrap64 (x + ((rdOf ByteArray.empty S i).size : Int)))
      refine ⟨r, Ev.step (fun k => by rw [cellarlaw0_Texts.l0]) (Ev.pos i1 (Ev.pos c (Ev.pos i0 ?_)))⟩
      rw [w64 (z := i + 1) (by omega) (by omega)]
      exact h
    · exact ⟨x, Ev.step (fun k => by rw [cellarlaw0_Texts.l0]) (Ev.pos i1 (Ev.neg c (Ev.now _)))⟩
  exact key 0 (by omega) (by omega) _
theorem weight_ev (l : List S31) (hl : l.length ≤ 1954687338267) : ∃ r, Ev (fun k => cellarlaw0_TypesWeight.f k l) r := by
  have key : ∀ i : Int, 0 ≤ i → i ≤ l.length → ∀ x : Int, ∃ r, Ev (fun k => cellarlaw0_TypesWeight.l0 k l x i) r := by
    refine down (Q := fun i => ∀ x : Int, ∃ r, Ev (fun k => cellarlaw0_TypesWeight.l0 k l x i) r) ?_ ?_
    · exact fun x => ⟨x, Ev.step (fun k => by rw [cellarlaw0_TypesWeight.l0]) (Ev.neg (by omega) (Ev.now _))⟩
    intro i i0 i1 ih x
    by_cases c : x < 1048576
    · obtain ⟨r, h⟩ := ih (wrap64 ((wrap64 (x + (((rd_T31 l i).f3).length : Int))) + (((rd_T31 l i).f4).length : Int)))
      refine ⟨r, Ev.step (fun k => by rw [cellarlaw0_TypesWeight.l0]) (Ev.pos i1 (Ev.pos c (Ev.pos i0 ?_)))⟩
      rw [w64 (z := i + 1) (by omega) (by omega)]
      exact h
    · exact ⟨x, Ev.step (fun k => by rw [cellarlaw0_TypesWeight.l0]) (Ev.pos i1 (Ev.neg c (Ev.now _)))⟩
  exact key 0 (by omega) (by omega) _
theorem wakes_ev : Ev (fun k => cellarlaw7_wakes.f k) true := by
  refine Ev.plus 60 fun k => ?_
  kernel_rfl
section
variable (A : List S29) (L : List (List S31)) (S : List ByteArray) (N : List Int) (hA : A.length ≤ 8796093021952) (hL : L.length ≤ 5864062014634) (hLl : ∀ l ∈ L, l.length ≤ 1954687338267 ∧ ∀ t ∈ l, TOK t) (hS : S.length ≤ 8796093021952) (hN : N.length ≤ 17592186043904)
include hA hL hLl hS hN
theorem heavy_ev : ∃ b, Ev (fun k => cellarlaw7_Heavy.f k A L S N) b := by
  have _uh := hA; have _uh2 := hN
  have key : ∀ i : Int, 0 ≤ i → i ≤ L.length → ∀ x : Int, ∃ r, Ev (fun k => cellarlaw7_Heavy.l0 k x i A L S N) r := by
    refine down (Q := fun i => ∀ x : Int, ∃ r, Ev (fun k => cellarlaw7_Heavy.l0 k x i A L S N) r) ?_ ?_
    · exact fun x => ⟨_, Ev.step (fun k => by rw [cellarlaw7_Heavy.l0]) (Ev.neg (by omega) (Ev.now _))⟩
    intro i i0 i1 ih x
    by_cases c : x < 1048576
    · obtain ⟨n, rfl⟩ := Int.eq_ofNat_of_zero_le i0
      have hn : n < L.length := by omega
      obtain ⟨t, ht⟩ := weight_ev L[n] (hLl _ (List.getElem_mem hn)).1
      obtain ⟨r, h⟩ := ih (wrap64 (x + t))
      refine ⟨r, Ev.step (fun k => by rw [cellarlaw7_Heavy.l0]) (Ev.pos i1 (Ev.pos c (Ev.pos i0 ?_)))⟩
      rw [rdL L n hn, w64 (z := (n : Int) + 1) (by omega) (by omega)]
      exact Ev.bind ht h
    · exact ⟨_, Ev.step (fun k => by rw [cellarlaw7_Heavy.l0]) (Ev.pos i1 (Ev.neg c (Ev.now _)))⟩
  unfold cellarlaw7_Heavy.f
  obtain ⟨x, hx⟩ := texts_ev S hS
  obtain ⟨r, h⟩ := key 0 (by omega) (by omega) (wrap64 ((wrap64 ((A.length : Int) + (N.length : Int))) + x))
  exact ⟨r, Ev.bind hx h⟩
theorem machines_of : ∃ ms, cellarlaw7_machines.f A L S N = some ms ∧ ms.length ≤ 8796093022208 := by
  have _uh := hL; have _uh2 := hLl; have _uh3 := hS; have _uh4 := hN
  unfold cellarlaw7_machines.f
  rw [Option.bind_some, if_pos (by simp; omega), Option.bind_some]
  split
  · split
    · exact ⟨_, rfl, by rw [List.length_take]; simp; omega⟩
    · omega
  · exact ⟨_, rfl, by simp; omega⟩
end
/-- Of the type t: it is there, or what goes wrong. -/
def Case (b : Bool) (ptr : Int) (l : List S31) (r2 : Bool) (t : Int) (there : Bool) (bad : Int) : Prop :=
  (there = true ∧ bad = 0 ∧ r2 = true ∧ 0 ≤ t ∧ t < (l.length : Int)) ∨ (there = false ∧ (¬ bad = 0) ∧ Ev (fun k => lay_asked.f k b ptr l t) ([], bad))
section
variable (A : List S29) (L : List (List S31)) (S : List ByteArray) (N : List Int) (ms : List S29) (names : List ByteArray) (q i : Int) (l : List S31) (r : List S103 × Bool)
  (q0 : 0 ≤ q) (q1 : q < (ms.length : Int)) (i0 : 0 ≤ i) (i1 : i < (L.length : Int)) (hLi : rd_L6 L i = l) (hi : L.length ≤ 5864062014634) (hl : l.length ≤ 1954687338267) (hT : ∀ t ∈ l, TOK t) (hnm : names.length ≤ 8796093022208) (hN : N.length ≤ 17592186043904)
  (hP : Ev (fun k => lay_places.f k (rd_T29 ms q).f0 (rd_T29 ms q).f1 l) r) (hY : Ev (fun k => cellarref7_Types.f k (rd_T29 ms q).f0 (rd_T29 ms q).f1 l) (r.1.map S103.f0, r.1.map S103.f1, r.2)) (hG : r.2 = true → GOOD l r.1)
section
variable (t : Int) (there : Bool) (bad : Int) (hc : Case (rd_T29 ms q).f0 (rd_T29 ms q).f1 l r.2 t there bad)
  (hnext : Ev (fun k => cellarlaw7_LaySizes.l2 k ms names q i l (r.1.map S103.f0) (r.1.map S103.f1) r.2 (wrap64 (t + 1)) A L S N) true)
include q0 q1 hP hG hc hnext
theorem l4_ev (ns : List Int) (hns : ns.length ≤ 17592186043908) : ∀ x : Int, 0 ≤ x → x ≤ ns.length → Ev (fun k => cellarlaw7_LaySizes.l4 k ms names q i l (r.1.map S103.f0) (r.1.map S103.f1) r.2 t there bad ns x A L S N) true := by
  have fin : ∀ x, Ev (fun k => cellarlaw7_LaySizes.j14 k ms names q i l (r.1.map S103.f0) (r.1.map S103.f1) r.2 t there bad ns x false A L S N) true := by
    intro x
    refine Ev.step (fun k => by rw [cellarlaw7_LaySizes.j14]) ?_
    exact Ev.neg (by decide) hnext
  refine down (Q := fun x => Ev (fun k => cellarlaw7_LaySizes.l4 k ms names q i l (r.1.map S103.f0) (r.1.map S103.f1) r.2 t there bad ns x A L S N) true) ?_ ?_
  · refine Ev.step (fun k => by rw [cellarlaw7_LaySizes.l4]) ?_
    exact Ev.neg (by omega) (fin _)
  intro x x0 x1 ih
  refine Ev.step (fun k => by rw [cellarlaw7_LaySizes.l4]) (Ev.pos x1 ?_)
  by_cases c : x < 8
  case neg =>
    rw [decide_eq_false c]
    exact fin _
  rw [decide_eq_true c]
  refine Ev.step (fun k => by rw [cellarlaw7_LaySizes.j14]) (Ev.pos rfl (Ev.pos q0 (Ev.pos q1 (Ev.pos x0 (Ev.pos x1 ?_)))))
  have J17 : ∀ off g : Int, Ev (fun k => cellarlaw7_LaySizes.j17 k ms names q i l (r.1.map S103.f0) (r.1.map S103.f1) r.2 t there bad ns x off g g off A L S N) true := by
    intro off g
    refine Ev.step (fun k => by rw [cellarlaw7_LaySizes.j17]) ?_
    refine Ev.bindS rfl (Ev.pos rfl (Ev.pos rfl ?_))
    rw [w64 (z := x + 1) (by omega) (by omega)]
    exact ih
  have J16 : ∀ off g : Int, Ev (fun k => cellarlaw7_LaySizes.j16 k ms names q i l (r.1.map S103.f0) (r.1.map S103.f1) r.2 t there bad ns x off g g off A L S N) true := by
    intro off g
    exact Ev.step (fun k => by rw [cellarlaw7_LaySizes.j16]) (J17 off g)
  have J15 : ∀ off g : Int, Ev (fun k => cellarlaw7_LaySizes.j15 k ms names q i l (r.1.map S103.f0) (r.1.map S103.f1) r.2 t there bad ns x off g g off A L S N) true := by
    intro off g
    exact Ev.step (fun k => by rw [cellarlaw7_LaySizes.j15]) (J16 off g)
  rcases hc with ⟨rfl, rfl, h2, t0, t1⟩ | ⟨rfl, hb, hA⟩
  · have hg := hG h2
    have hgl := hg.1
    have hok := hg.2.2 t t0 t1
    have h := yes_item t0 t1 (asked_yes hP h2 t t0 t1) hg (rd ns x)
    refine Ev.bind h (Ev.pos rfl (Ev.pos t0 (Ev.pos t1 ?_)))
    by_cases a : (rd_T31 l t).f0 = 8
    · have d := ok8 hok a
      simp only [if_pos a]
      rw [w64 (z := (rd_T31 l t).f1 - 1) (by omega) (by omega)]
      refine Ev.bindS (num_le _ _) ?_
      by_cases e : 0 ≤ rd ns x ∧ rd ns x ≤ (rd_T31 l t).f1 - 1
      · simp only [if_pos e]
        rw [decide_eq_true e, rd0]
        exact Ev.pos rfl (Ev.pos d.2.2.1.1 (Ev.pos (by rw [List.length_map]; omega) (J15 _ _)))
      · simp only [if_neg e]
        rw [decide_eq_false e]
        exact Ev.neg (by decide) (J15 _ _)
    · simp only [if_neg a]
      exact J16 _ _
  · exact Ev.bind (no_item hb hA (rd ns x)) (Ev.neg (by decide) (J17 _ _))
include hnm hN hY
theorem l3_ev : ∀ x : Int, 0 ≤ x → x ≤ names.length → Ev (fun k => cellarlaw7_LaySizes.l3 k ms names q i l (r.1.map S103.f0) (r.1.map S103.f1) r.2 t there bad x A L S N) true := by
  have _uh := hnm
  have fin : ∀ x, Ev (fun k => cellarlaw7_LaySizes.j10 k ms names q i l (r.1.map S103.f0) (r.1.map S103.f1) r.2 t there bad x false A L S N) true := by
    intro x
    refine Ev.step (fun k => by rw [cellarlaw7_LaySizes.j10]) ?_
    refine Ev.neg (by decide) (Ev.bindS rfl (Ev.pos ?_ ?_))
    · show 4 + N.length < 17592186044416
      omega
    · exact l4_ev A L S N ms names q i l r q0 q1 hP hG t there bad hc hnext _ (by simp; omega) 0 (by omega) (by omega)
  refine down (Q := fun x => Ev (fun k => cellarlaw7_LaySizes.l3 k ms names q i l (r.1.map S103.f0) (r.1.map S103.f1) r.2 t there bad x A L S N) true) ?_ ?_
  · refine Ev.step (fun k => by rw [cellarlaw7_LaySizes.l3]) ?_
    exact Ev.neg (by omega) (fin _)
  intro x x0 x1 ih
  refine Ev.step (fun k => by rw [cellarlaw7_LaySizes.l3]) (Ev.pos x1 ?_)
  by_cases c : x < 8
  case neg =>
    rw [decide_eq_false c]
    exact fin _
  rw [decide_eq_true c]
  refine Ev.step (fun k => by rw [cellarlaw7_LaySizes.j10]) (Ev.pos rfl (Ev.pos q0 (Ev.pos q1 (Ev.pos x0 (Ev.pos x1 ?_)))))
  have J11 : ∀ off o_ g : Int, Ev (fun k => cellarlaw7_LaySizes.j11 k ms names q i l (r.1.map S103.f0) (r.1.map S103.f1) r.2 t there bad x off o_ g g off o_ A L S N) true := by
    intro off o_ g
    refine Ev.step (fun k => by rw [cellarlaw7_LaySizes.j11]) ?_
    refine Ev.bindS rfl (Ev.pos rfl (Ev.pos rfl ?_))
    refine Ev.step (fun k => by rw [cellarlaw7_LaySizes.j12]) (Ev.neg (by simp) ?_)
    rw [w64 (z := x + 1) (by omega) (by omega)]
    exact ih
  rcases hc with ⟨rfl, rfl, h2, t0, t1⟩ | ⟨rfl, hb, hA⟩
  · rw [h2] at hY
    obtain ⟨v, h, h7⟩ := yes_field t0 t1 (asked_yes hP h2 t t0 t1) (hG h2) _ rfl hY (rdOf ByteArray.empty names x)
    exact Ev.bind h (Ev.pos rfl (Ev.bind h7 (J11 _ _ _)))
  · exact Ev.bind (no_field hb hA (rdOf ByteArray.empty names x)) (Ev.neg (by decide) (J11 _ _ _))
theorem j7_ev (n by_ : Int) (hn : n = if there = true then (rd_T103 r.1 t).f0 else 0) (hb : by_ = if there = true then (rd_T103 r.1 t).f1 else 0) : Ev (fun k => cellarlaw7_LaySizes.j7 k ms names q i l (r.1.map S103.f0) (r.1.map S103.f1) r.2 t there bad n by_ A L S N) true := by
  have h3 := l3_ev A L S N ms names q i l r q0 q1 hnm hN hP hY hG t there bad hc hnext 0 (by omega) (by omega)
  refine Ev.step (fun k => by rw [cellarlaw7_LaySizes.j7]) (Ev.pos q0 (Ev.pos q1 ?_))
  have J8 : ∀ f : Bool, ¬ f = true → Ev (fun k => cellarlaw7_LaySizes.j8 k ms names q i l (r.1.map S103.f0) (r.1.map S103.f1) r.2 t there bad f A L S N) true := by
    intro f hf
    refine Ev.step (fun k => by rw [cellarlaw7_LaySizes.j8]) ?_
    exact Ev.neg hf h3
  rcases hc with ⟨rfl, rfl, h2, t0, t1⟩ | ⟨rfl, hb', hA⟩
  · rw [if_pos rfl] at hn hb
    subst hn hb
    have hA := asked_yes hP h2 t t0 t1
    exact Ev.bind (yes_size t0 t1 hA (hG h2)) (Ev.bind (yes_align t0 t1 hA (hG h2)) (Ev.bindS rfl (Ev.pos rfl (Ev.bindS rfl (Ev.pos rfl (Ev.pos rfl (J8 _ (by simp))))))))
  · rw [if_neg (by decide)] at hn hb
    subst hn hb
    exact Ev.bind (no_size hb' hA) (Ev.bind (no_align hb' hA) (Ev.bindS rfl (Ev.pos rfl (Ev.bindS rfl (Ev.pos rfl (Ev.pos rfl (J8 _ (by simp))))))))
end
section
variable (hnextI : Ev (fun k => cellarlaw7_LaySizes.l1 k ms names q (wrap64 (i + 1)) A L S N) true)
include q0 q1 hP hG hnm hN hY i0 i1 hLi hl hT hnextI
theorem l2_ev : ∀ t : Int, -1 ≤ t → t ≤ (l.length : Int) + 1 → Ev (fun k => cellarlaw7_LaySizes.l2 k ms names q i l (r.1.map S103.f0) (r.1.map S103.f1) r.2 t A L S N) true := by
  have fin : ∀ t, Ev (fun k => cellarlaw7_LaySizes.j4 k ms names q i l (r.1.map S103.f0) (r.1.map S103.f1) r.2 t false A L S N) true := by
    intro t
    refine Ev.step (fun k => by rw [cellarlaw7_LaySizes.j4]) (Ev.neg (by decide) (Ev.pos i0 (Ev.pos i1 ?_)))
    rw [hLi]
    exact Ev.bind (eqT l hl hT) (Ev.pos rfl hnextI)
  refine down (Q := fun t => Ev (fun k => cellarlaw7_LaySizes.l2 k ms names q i l (r.1.map S103.f0) (r.1.map S103.f1) r.2 t A L S N) true) ?_ ?_
  · refine Ev.step (fun k => by rw [cellarlaw7_LaySizes.l2]) ?_
    exact Ev.neg (by omega) (fin _)
  intro t t0 t1 ih
  refine Ev.step (fun k => by rw [cellarlaw7_LaySizes.l2]) (Ev.pos (by omega) ?_)
  by_cases c : t < 12
  case neg =>
    rw [decide_eq_false c]
    exact fin _
  rw [decide_eq_true c]
  have hnext : Ev (fun k => cellarlaw7_LaySizes.l2 k ms names q i l (r.1.map S103.f0) (r.1.map S103.f1) r.2 (wrap64 (t + 1)) A L S N) true := by
    rw [w64 (z := t + 1) (by omega) (by omega)]
    exact ih
  refine Ev.step (fun k => by rw [cellarlaw7_LaySizes.j4]) (Ev.pos rfl ?_)
  rw [w64 (z := (l.length : Int) - 1) (by omega) (by omega)]
  by_cases h2 : r.2 = true
  · refine Ev.pos h2 (Ev.bindS (num_le _ _) ?_)
    refine Ev.step (fun k => by rw [cellarlaw7_LaySizes.j5]) (Ev.pos h2 ?_)
    refine Ev.step (fun k => by rw [cellarlaw7_LaySizes.j6]) ?_
    by_cases d : 0 ≤ t ∧ t < (l.length : Int)
    · have e := (hG h2).1
      rw [decide_eq_true (show 0 ≤ t ∧ t ≤ (l.length : Int) - 1 by omega)]
      refine Ev.pos rfl (Ev.pos d.1 (Ev.pos (by rw [List.length_map]; omega) (Ev.pos (by rw [List.length_map]; omega) ?_)))
      rw [rd0, rd1]
      exact j7_ev A L S N ms names q i l r q0 q1 hnm hN hP hY hG t true 0 (.inl ⟨rfl, rfl, h2, d.1, d.2⟩) hnext _ _ rfl rfl
    · rw [decide_eq_false (show ¬ (0 ≤ t ∧ t ≤ (l.length : Int) - 1) by omega)]
      refine Ev.neg (by decide) ?_
      exact j7_ev A L S N ms names q i l r q0 q1 hnm hN hP hY hG t false 3 (.inr ⟨rfl, by decide, asked_none hP h2 t d⟩) hnext _ _ rfl rfl
  · refine Ev.neg h2 ?_
    refine Ev.step (fun k => by rw [cellarlaw7_LaySizes.j5]) (Ev.neg h2 ?_)
    refine Ev.step (fun k => by rw [cellarlaw7_LaySizes.j6]) (Ev.neg (by decide) ?_)
    exact j7_ev A L S N ms names q i l r q0 q1 hnm hN hP hY hG t false 1 (.inr ⟨rfl, by decide, asked_form hP h2 t⟩) hnext _ _ rfl rfl
end
end
section
variable (A : List S29) (L : List (List S31)) (S : List ByteArray) (N : List Int) (hA : A.length ≤ 8796093021952) (hL : L.length ≤ 5864062014634) (hLl : ∀ l ∈ L, l.length ≤ 1954687338267 ∧ ∀ t ∈ l, TOK t) (hS : S.length ≤ 8796093021952) (hN : N.length ≤ 17592186043904)
include hA hL hLl hS hN
theorem l1_ev (ms : List S29) (names : List ByteArray) (hnm : names.length ≤ 8796093022208) (q : Int) (q0 : 0 ≤ q) (q1 : q < (ms.length : Int)) (hnext : Ev (fun k => cellarlaw7_LaySizes.l0 k ms names (wrap64 (q + 1)) A L S N) true) :
    ∀ i : Int, 0 ≤ i → i ≤ L.length → Ev (fun k => cellarlaw7_LaySizes.l1 k ms names q i A L S N) true := by
  have _uh := hA; have _uh2 := hS; have _uh3 := hL
  have fin : ∀ i, Ev (fun k => cellarlaw7_LaySizes.j2 k ms names q i false A L S N) true := by
    intro i
    refine Ev.step (fun k => by rw [cellarlaw7_LaySizes.j2]) ?_
    exact Ev.neg (by decide) hnext
  refine down (Q := fun i => Ev (fun k => cellarlaw7_LaySizes.l1 k ms names q i A L S N) true) ?_ ?_
  · refine Ev.step (fun k => by rw [cellarlaw7_LaySizes.l1]) ?_
    exact Ev.neg (by omega) (fin _)
  intro i i0 i1 ih
  refine Ev.step (fun k => by rw [cellarlaw7_LaySizes.l1]) (Ev.pos i1 ?_)
  by_cases c : i < 6
  case neg =>
    rw [decide_eq_false c]
    exact fin _
  rw [decide_eq_true c]
  have hl : (rd_L6 L i).length ≤ 1954687338267 ∧ ∀ t ∈ rd_L6 L i, TOK t := by
    obtain ⟨n, rfl⟩ := Int.eq_ofNat_of_zero_le i0
    rw [rdL L n (by omega)]
    exact hLl _ (List.getElem_mem _)
  have hnextI : Ev (fun k => cellarlaw7_LaySizes.l1 k ms names q (wrap64 (i + 1)) A L S N) true := by
    rw [w64 (z := i + 1) (by omega) (by omega)]
    exact ih
  obtain ⟨r, hP, hY, hG⟩ := types_ev (rd_T29 ms q).f0 (rd_T29 ms q).f1 (rd_L6 L i) hl.2
  refine Ev.step (fun k => by rw [cellarlaw7_LaySizes.j2]) (Ev.pos rfl (Ev.pos i0 (Ev.pos i1 (Ev.bind (copyT _ hl.1 hl.2) (Ev.pos q0 (Ev.pos q1 (Ev.bind hY (Ev.bind (check_ev hP) (Ev.bindS rfl (Ev.neg ?_ ?_))))))))))
  · cases r.2 <;> decide
  · exact l2_ev A L S N ms names q i _ r q0 q1 i0 i1 rfl hl.1 hl.2 hnm hN hP hY hG hnextI (-1) (by omega) (by omega)
theorem sizes_true : Ev (fun k => cellarlaw7_LaySizes.f k A L S N) true := by
  unfold cellarlaw7_LaySizes.f
  obtain ⟨b, hb⟩ := heavy_ev A L S N hA hL hLl hS hN
  refine Ev.bind hb ?_
  cases b with
  | true => exact Ev.pos rfl (Ev.now _)
  | false =>
    refine Ev.neg (by decide) ?_
    obtain ⟨ms, hms, hl⟩ := machines_of A L S N hA hL hLl hS hN
    refine Ev.bindS hms (Ev.bindS rfl (Ev.pos ?_ ?_))
    · show 4 + S.length < 8796093022208
      omega
    generalize hnm : (([(⟨#[97]⟩ : ByteArray), (⟨#[98]⟩ : ByteArray), (⟨#[122, 122]⟩ : ByteArray), (⟨#[]⟩ : ByteArray)] : List ByteArray) ++ S) = names
    have hn : names.length ≤ 8796093022208 := by
      rw [← hnm]
      simp
      omega
    have key : ∀ q : Int, 0 ≤ q → q ≤ ms.length → Ev (fun k => cellarlaw7_LaySizes.l0 k ms names q A L S N) true := by
      refine down (Q := fun q => Ev (fun k => cellarlaw7_LaySizes.l0 k ms names q A L S N) true) ?_ ?_
      · refine Ev.step (fun k => by rw [cellarlaw7_LaySizes.l0]) ?_
        exact Ev.neg (by omega) (Ev.bind wakes_ev (Ev.now _))
      intro q q0 q1 ih
      refine Ev.step (fun k => by rw [cellarlaw7_LaySizes.l0]) (Ev.pos q1 ?_)
      refine l1_ev A L S N hA hL hLl hS hN ms names hn q q0 q1 ?_ 0 (by omega) (by omega)
      rw [w64 (z := q + 1) (by omega) (by omega)]
      exact ih
    exact key 0 (by omega) (by omega)
end
end Go.Proofs.Ytjoplkillkhiaaa.L
