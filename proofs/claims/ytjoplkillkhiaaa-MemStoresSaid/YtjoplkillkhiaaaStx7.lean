-- Written by this session's own edition of the print.
import Derived.Test.YtjoplkillkhiaaaStx0
import Derived.Test.YtjoplkillkhiaaaStx2
import Derived.Test.YtjoplkillkhiaaaStx5
import Derived.Test.YtjoplkillkhiaaaStx6
import Derived.Test.YtjoplkillkhiaaaZSq
import Derived.Test.YtjoplkillkhiaaaZSq2
namespace Go.Proofs.Ytjoplkillkhiaaa.St
open Go.RowKit Go.Proofs.Ytjoplkillkhiaaa.Fn Go.Proofs.YtjoplkillkhiaaaW.PrintWords Go.Proofs.YtjoplkillkhiaaaW.PrintLast Go.Proofs.YtjoplkillkhiaaaW.PrintMore
attribute [local go_sem] max2_int min2_int max_two min_two max_three min_three max_four min_four   -- for this text's walks alone
set_option linter.unusedVariables false
set_option linter.unusedSimpArgs false

/-! ### The builtin copy, into a row of one's own, of elements of any kind -/
theorem run_copy_seg {P : Program} (w : World) (dT sT ty elem : TypeId) (g o dLen dCap sz : Nat) (a : Addr) (sLen sCap : Nat) (cur : Array Value) (t : TypeId) (cs : List Value)
    (hu : P.underlying dT = some (.slice elem)) (hs : (P.info? elem).map (·.size) = some sz) (hle : sLen ≤ dLen)
    (hg : w.heap[g]? = some (.cells cur t (0, 0))) (hn : cs.length = sLen * sz)
    (hsrc : ∀ j v, cs[j]? = some v → w.cell? (a.add j) = some v) (hfit : o + cs.length ≤ cur.size) (h1 : ∀ v ∈ cs, v.oneCell' = true) :
    (Builtin.copy_ #[dT, sT] ty #[.slice (some ⟨g, o, none⟩) dLen dCap, .slice (some a) sLen sCap]).run P w =
      .ok (goInt sLen) (w.setRow g (cur.toList.take o ++ cs ++ cur.toList.drop (o + cs.length)).toArray) := by
  have hl := run_loadCells_list (P := P) w a cs hsrc
  rw [hn] at hl
  have hst := run_storeCells_at P g o t cs 0 cur w hg (by simpa using hfit) h1
  have hmin : Nat.min sLen dLen = sLen := Nat.min_eq_left hle
  cases hq : P.info? elem with
  | none => simp [hq] at hs
  | some i =>
    have hi : i.size = sz := by simpa [hq] using hs
    simp [Builtin.copy_, run_underlying hu, Builtin.lenOf, Builtin.firstCells, sizeOf, typeInfo, hq, hi, hmin, hl, hst]
theorem chunk_get (cs : List Value) (j sz q : Nat) : ((cs.drop (j * sz)).take sz)[q]? = if q < sz then cs[j * sz + q]? else none := by
  rw [List.getElem?_take]
  split
  · rw [List.getElem?_drop]
  · rfl
theorem R_copy {W : World} {base bs : Nat} {ok oks : Nat → Prop} {g gs n cap m cap2 : Nat} {xs ys : List S74} (o : Nat) (h : Kd.R k74 74 W base ok (.slice (some ⟨g, 0, none⟩) n cap) xs) (hy : Kd.R k74 74 W bs oks (.slice (some ⟨gs, 0, none⟩) m cap2) ys)
    (hfit : o + ys.length ≤ xs.length) (dT sT ty : TypeId) (hu : Try.prog.underlying dT = some (.slice 74)) (dLen dCap : Nat) (hle : m ≤ dLen) :
    ∃ W', (Builtin.copy_ #[dT, sT] ty #[.slice (some ⟨g, o * 5, none⟩) dLen dCap, .slice (some ⟨gs, 0, none⟩) m cap2]).run Try.prog W = .ok (goInt m) W' ∧
      Kd.R k74 74 W' base ok (.slice (some ⟨g, 0, none⟩) n cap) (xs.take o ++ ys ++ xs.drop (o + ys.length)) ∧ W.grownBy W' (some g) := by
  obtain ⟨hn, hnc, _⟩ := Kd.R_reads' h
  obtain ⟨hm, _, _⟩ := Kd.R_reads' hy
  obtain ⟨_, iy, hoy, hry⟩ := hy
  obtain ⟨hok, inner, ⟨hil, ho2⟩, hr⟩ := h
  rcases ho2 with ⟨hv, _⟩ | ⟨g', cap', cur, hv, hbg, hheap, hnc', hcm, hcs, ht⟩
  · cases hv
  injection hv with ha hn' hc
  injection ha with ha
  injection ha with ha _
  subst ha
  subst hc
  have hsz : k74.sz = 5 := rfl
  replace hcs : cur.size = cap * 5 := hcs
  replace ht : List.take (xs.length * 5) cur.toList = inner := ht
  replace hry : Reps (k74.M W bs fun k => oks k ∧ some k ≠ (Value.slice (some ⟨gs, 0, none⟩) m cap2).ownBlock) 5 ys iy := hry
  replace hr : Reps (k74.M W base fun k => ok k ∧ some k ≠ (Value.slice (some ⟨g, 0, none⟩) n cap).ownBlock) 5 xs inner := hr
  have h2 : (xs.take o ++ ys ++ xs.drop (o + ys.length)).length = xs.length := by
    rw [List.length_append, List.length_append, List.length_take, List.length_drop]
    omega
  have hiy : iy.length = ys.length * 5 := hry.1
  have hil2 : inner.length = xs.length * 5 := hr.1
  have hfit5 : o * 5 + iy.length ≤ inner.length := by rw [hiy, hil2]; omega
  have hilc : inner.length ≤ cur.size := by
    rw [← ht, List.length_take]
    have : cur.toList.length = cur.size := Array.length_toList
    omega
  have h1 : ∀ v ∈ iy, v.oneCell' = true := by
    intro v hvv
    obtain ⟨j, hj⟩ := List.mem_iff_getElem?.1 hvv
    have hjl : j < iy.length := (List.getElem?_eq_some_iff.1 hj).1
    have hq : j / 5 < ys.length := by omega
    have hp := hry.2 (j / 5) _ (List.getElem?_eq_getElem hq)
    have hone := k74.K_one (k74.K_of_M hp) v (List.mem_iff_getElem?.2 ⟨j % 5, by rw [chunk_get, if_pos (Nat.mod_lt j (by decide : 0 < 5)), show j / 5 * 5 + j % 5 = j by omega]; exact hj⟩)
    exact hone
  have hrun := run_copy_seg (P := Try.prog) W dT sT ty 74 g (o * 5) dLen dCap 5 ⟨gs, 0, none⟩ m cap2 cur 74 iy hu (by kernel_rfl) hle hheap (by rw [hiy, hm]) (fun j v hj => hoy.cells (by simp [Value.ownBlock]) j v hj) (by omega) h1
  refine ⟨_, hrun, ⟨hok, inner.take (o * 5) ++ iy ++ inner.drop (o * 5 + iy.length), ⟨?_, .inr ⟨g, cap, _, ?_, hbg, setRow_heap W g cur _ 74 (0, 0) hheap, by rw [h2]; exact hnc', hcm, ?_, ?_⟩⟩, ?_, ?_⟩, ⟨by simp, by simp, by simp, by simp, fun k hk hne => setRow_other W g k _ (fun e_ => hne (by rw [e_]))⟩⟩
  · rw [h2, List.length_append, List.length_append, List.length_take, List.length_drop]
    show _ = xs.length * 5
    omega
  · rw [h2, hn']
  · show (cur.toList.take (o * 5) ++ iy ++ cur.toList.drop (o * 5 + iy.length)).toArray.size = cap * 5
    rw [List.size_toArray, List.length_append, List.length_append, List.length_take, List.length_drop, Array.length_toList]
    omega
  · rw [h2]
    apply List.ext_getElem?
    intro q
    have hcl0 : cur.toList.length = cur.size := Array.length_toList
    have hcl : o * 5 + iy.length ≤ cur.toList.length := by omega
    show ((cur.toList.take (o * 5) ++ iy ++ cur.toList.drop (o * 5 + iy.length)).take (xs.length * 5))[q]? = _
    rw [List.getElem?_take, seg_get _ _ _ hcl, seg_get _ _ _ hfit5]
    have hin : ∀ q, inner[q]? = if q < xs.length * 5 then cur.toList[q]? else none := by
      intro q
      rw [← ht, List.getElem?_take]
    by_cases hq : q < xs.length * 5
    · simp only [hin, if_pos hq]
    · rw [if_neg hq, if_neg (by omega), if_neg (by omega), hin, if_neg hq]
  · rw [h2, List.length_append, List.length_append, List.length_take, List.length_drop]
    show _ = xs.length * 5
    omega
  · intro j p hj
    rw [hsz]
    rw [seg_get _ _ _ hfit] at hj
    have hch : ∀ (l2 : List Value) (j2 : Nat), (∀ q, q < 5 → (inner.take (o * 5) ++ iy ++ inner.drop (o * 5 + iy.length))[j * 5 + q]? = l2[j2 * 5 + q]?) →
        ((inner.take (o * 5) ++ iy ++ inner.drop (o * 5 + iy.length)).drop (j * 5)).take 5 = (l2.drop (j2 * 5)).take 5 := by
      intro l2 j2 hh
      apply List.ext_getElem?
      intro q
      rw [chunk_get, chunk_get]
      by_cases hq : q < 5
      · rw [if_pos hq, if_pos hq, hh q hq]
      · rw [if_neg hq, if_neg hq]
    by_cases hjo : j < o
    · rw [if_pos hjo] at hj
      rw [hch inner j (fun q hq => by rw [seg_get _ _ _ hfit5, if_pos (by omega)])]
      exact kB_M W _ _ _ _ _ (k74.K_of_M (hr.2 j p hj))
    · rw [if_neg hjo] at hj
      by_cases hjy : j < o + ys.length
      · rw [if_pos hjy] at hj
        rw [hch iy (j - o) (fun q hq => by rw [seg_get _ _ _ hfit5, if_neg (by omega), if_pos (by omega), show j * 5 + q - o * 5 = (j - o) * 5 + q by omega])]
        exact kB_M W _ _ _ _ _ (k74.K_of_M (hry.2 (j - o) p hj))
      · rw [if_neg hjy] at hj
        rw [hch inner j (fun q hq => by rw [seg_get _ _ _ hfit5, if_neg (by omega), if_neg (by omega)])]
        exact kB_M W _ _ _ _ _ (k74.K_of_M (hr.2 j p hj))
/-! cellar/mem.Lay -/
theorem copy_step {P : Program} {ops : Array Oper} {o : Oper} {a : Act} {Q : Exit → Act → World → Prop} {Kc : Act → World → Prop} {W W1 : World} {v x y : Value} (hw : Region.wanted o (yielded ops a.tmps) = true) (d s : Operand) (dT sT : TypeId)
    (ho : o.op = .call { callee := .builtin .copy, args := #[d, s], argTypes := #[dT, sT] }) (hd : a.eval d = x) (hs : a.eval s = y) (hrun : (Builtin.copy_ #[dT, sT] o.type #[x, y]).run P W = .ok v W1) (h : Kc (a.put o.dst v) W1) :
    if Region.wanted o (yielded ops a.tmps) = true then Oper.wp P o a W Kc Q else Kc (a.put o.dst undef) W := by
  rw [if_pos hw]
  unfold Oper.wp
  simp [execOp, ho, resolve, invoke, builtin, hd, hs, hrun, Result.andThen]
  exact h
def mem_Lay.f (k : Nat) (a0_0 : Bool) (a0_1 : Int) (l1 : List S76) (a2_0 : Bool) (a2_1 a2_2 a2_3 a3 : Int) (a4_0 : Bool) (a4_1 a4_2 a4_3 : Int) : Option (List S76 × Int) :=
  (mem_Way.f a0_0 a0_1 l1 a2_0 a2_1 a2_2 a2_3 a3).bind fun t => if t = 0 then (if 0 ≤ a2_2 then (if a2_2 < (l1.length : Int) then (if 0 ≤ a2_3 then ((bytes_Spell.f k a0_0 a0_1 a3 a4_0 a4_1 a4_2 a4_3).bind fun y => (if 0 < y.length then (if a2_3.toNat + y.length ≤ (rd_T76 l1 a2_2).f1.length then some (l1.set a2_2.toNat ⟨(rd_T76 l1 a2_2).f0, (rd_T76 l1 a2_2).f1.take a2_3.toNat ++ y ++ (rd_T76 l1 a2_2).f1.drop (a2_3.toNat + y.length)⟩, t) else none) else none)) else none) else none) else none) else some (l1, t)
theorem mem_Lay.mono : ∀ a0 a1 a2 a3 a4 a5 a6 a7 a8 a9 a10 a11 k, LeO (mem_Lay.f k a0 a1 a2 a3 a4 a5 a6 a7 a8 a9 a10 a11) (mem_Lay.f (k + 1) a0 a1 a2 a3 a4 a5 a6 a7 a8 a9 a10 a11) := by
  intro a0 a1 a2 a3 a4 a5 a6 a7 a8 a9 a10 a11 k
  unfold mem_Lay.f
  repeat' first
   | (with_reducible apply bytes_Spell.mono)
   | (with_reducible apply LeO.refl)
   | (with_reducible apply LeO.none)
   | (with_reducible refine LeO.ite ?_ ?_)
   | (with_reducible refine LeO.bind ?_ (fun _ => ?_))
set_option maxHeartbeats 8000000 in
set_option maxRecDepth 100000 in
theorem lay_calls (k : Nat) (a0_0 : Bool) (a0_1 : Int) (v : Value) (l1 : List S76) (a2_0 : Bool) (a2_1 a2_2 a2_3 a3 : Int) (a4_0 : Bool) (a4_1 a4_2 a4_3 : Int) (r1 : List S76) (r2 : Int) (w0 w : World) (HB0 : Below w0.heap.size w0 w) (HS : Kd.S k76 76 w w0.heap.size (fun _ => True) v l1)
    (h : mem_Lay.f k a0_0 a0_1 l1 a2_0 a2_1 a2_2 a2_3 a3 a4_0 a4_1 a4_2 a4_3 = some (r1, r2)) :
  Calls Try.prog 69 #[.agg #[.bool a0_0, .int .i64 a0_1], v, .agg #[.bool a2_0, .int .i64 a2_1, .int .i64 a2_2, .int .i64 a2_3], .int .i64 a3, .agg #[.bool a4_0, .int .i64 a4_1, .int .i64 a4_2, .int .i64 a4_3]] w fun e w' => e = .returned (.int .i64 r2) ∧ Kd.S k76 76 w' w0.heap.size (fun _ => True) v r1 ∧ Below w0.heap.size w0 w' := by
 have hu29 := Try.underlying29
 have hu62 := Try.underlying62
 have hu76 := Try.underlying76
 obtain ⟨A, c, rfl⟩ := Kd.S_slice HS
 have HR := Aside0.mk (Kd.S_reads' HS).2.2
 have HC := Aside0.mk (Kd.S_reads' HS).2.1
 have HS0 := Aside0.mk HS
 have HBz := Aside0.mk HB0
 clear HS HB0
 unfold mem_Lay.f at h
 obtain ⟨t, hw, H⟩ := Option.bind_eq_some_iff.1 h
 have HW := Aside0.mk hw
 clear h hw
 by_cases t0 : t = 0
 case neg =>
  rw [if_neg t0] at H
  have t0b : (t == 0) = false := beq_eq_false_iff_ne.mpr t0
  simp only [Option.some.injEq, Prod.mk.injEq] at H
  obtain ⟨rfl, rfl⟩ := H
  clear t0
  go_enter Try.func69, Try.ntmps69
  go_wp2_with (first | ((with_reducible refine gate_dst (N := 5) rfl ?_); refine zbox (N := 5) (cs := #[.bool a0_0, .int .i64 a0_1]) (t := 29) ?_; intro g5 hg w5 hbox hb; have HB5 := Aside0.mk hb; have BK5 := Aside0.mk hbox; have HG5 := Aside0.mk hg; clear hb hbox hg) | ((with_reducible refine gate_dst (N := 7) rfl ?_); refine zbox (N := 7) (cs := #[.bool a2_0, .int .i64 a2_1, .int .i64 a2_2, .int .i64 a2_3]) (t := 62) ?_; intro g7 hg w7 hbox hb; have HB7 := Aside0.mk hb; have BK7 := Aside0.mk hbox; have HG7 := Aside0.mk hg; clear hb hbox hg) | ((with_reducible refine gate_dst (N := 9) rfl ?_); refine zbox (N := 9) (cs := #[.bool a4_0, .int .i64 a4_1, .int .i64 a4_2, .int .i64 a4_3]) (t := 62) ?_; intro g9 hg w9 hbox hb; have HB9 := Aside0.mk hb; have BK9 := Aside0.mk hbox; have HG9 := Aside0.mk hg; clear hb hbox hg; have K5 := Aside0.mk (blk_below (blk_below BK5.out HB7.out) HB9.out); have K7 := Aside0.mk (blk_below BK7.out HB9.out); have HB := Aside0.mk (below_step (below_step HB5.out HB7.out) HB9.out); clear BK5 BK7 HB5 HB7; have hc5_0 : w9.cell? ⟨g5, 0, none⟩ = some (.bool a0_0) := (blk_cell K5.out 0).trans rfl; have hc5_1 : w9.cell? ⟨g5, 1, none⟩ = some (.int .i64 a0_1) := (blk_cell K5.out 1).trans rfl; have hc7_0 : w9.cell? ⟨g7, 0, none⟩ = some (.bool a2_0) := (blk_cell K7.out 0).trans rfl; have hc7_1 : w9.cell? ⟨g7, 1, none⟩ = some (.int .i64 a2_1) := (blk_cell K7.out 1).trans rfl; have hc7_2 : w9.cell? ⟨g7, 2, none⟩ = some (.int .i64 a2_2) := (blk_cell K7.out 2).trans rfl; have hc7_3 : w9.cell? ⟨g7, 3, none⟩ = some (.int .i64 a2_3) := (blk_cell K7.out 3).trans rfl) | (go_at_call 103; refine (mem_Way.calls a0_0 a0_1 _ _ l1 a2_0 a2_1 a2_2 a2_3 a3 t _ (Kd.C_below HR.out HB.out) HC.out HW.out).mono ?_; rintro e w10 ⟨rfl, hb⟩; have HX := Aside0.mk (below_step HB.out hb); have X5 := Aside0.mk (blk_below K5.out hb); have X7 := Aside0.mk (blk_below K7.out hb); have X9 := Aside0.mk (blk_below BK9.out hb); clear hb K5 K7 BK9 HB hc5_0 hc5_1 hc7_0 hc7_1 hc7_2 hc7_3))
  go_ret
  exact ⟨by first | rfl | (simp [*]; done), Kd.S_below HS0.out HX.out, below_then HBz.out HBz.out.size HX.out⟩
 rw [if_pos t0] at H
 have t0b : (t == 0) = true := beq_iff_eq.mpr t0
 by_cases p0 : 0 ≤ a2_2
 case neg => rw [if_neg p0] at H; cases H
 rw [if_pos p0] at H
 by_cases p1 : a2_2 < (l1.length : Int)
 case neg => rw [if_neg p1] at H; cases H
 rw [if_pos p1] at H
 by_cases p2 : 0 ≤ a2_3
 case neg => rw [if_neg p2] at H; cases H
 rw [if_pos p2] at H
 obtain ⟨y, hy, H⟩ := Option.bind_eq_some_iff.1 H
 have HY := Aside0.mk hy
 clear hy
 by_cases p3 : 0 < y.length
 case neg => rw [if_neg p3] at H; cases H
 rw [if_pos p3] at H
 generalize hx : rd_T76 l1 a2_2 = x at H
 by_cases p4 : a2_3.toNat + y.length ≤ x.f1.length
 case neg => rw [if_neg p4] at H; cases H
 rw [if_pos p4] at H
 simp only [Option.some.injEq, Prod.mk.injEq] at H
 obtain ⟨rfl, rfl⟩ := H
 have P0 := Aside0.mk p0
 have P1 := Aside0.mk p1
 have P2 := Aside0.mk p2
 have P3 := Aside0.mk p3
 have P4 := Aside0.mk p4
 have XE := Aside0.mk hx
 have T0 := Aside0.mk t0
 clear p0 p1 p2 p3 p4 hx t0
 go_enter Try.func69, Try.ntmps69
 go_upto_region 3 with (first | ((with_reducible refine gate_dst (N := 5) rfl ?_); refine zbox (N := 5) (cs := #[.bool a0_0, .int .i64 a0_1]) (t := 29) ?_; intro g5 hg w5 hbox hb; have HB5 := Aside0.mk hb; have BK5 := Aside0.mk hbox; have HG5 := Aside0.mk hg; clear hb hbox hg) | ((with_reducible refine gate_dst (N := 7) rfl ?_); refine zbox (N := 7) (cs := #[.bool a2_0, .int .i64 a2_1, .int .i64 a2_2, .int .i64 a2_3]) (t := 62) ?_; intro g7 hg w7 hbox hb; have HB7 := Aside0.mk hb; have BK7 := Aside0.mk hbox; have HG7 := Aside0.mk hg; clear hb hbox hg) | ((with_reducible refine gate_dst (N := 9) rfl ?_); refine zbox (N := 9) (cs := #[.bool a4_0, .int .i64 a4_1, .int .i64 a4_2, .int .i64 a4_3]) (t := 62) ?_; intro g9 hg w9 hbox hb; have HB9 := Aside0.mk hb; have BK9 := Aside0.mk hbox; have HG9 := Aside0.mk hg; clear hb hbox hg; have K5 := Aside0.mk (blk_below (blk_below BK5.out HB7.out) HB9.out); have K7 := Aside0.mk (blk_below BK7.out HB9.out); have HB := Aside0.mk (below_step (below_step HB5.out HB7.out) HB9.out); clear BK5 BK7 HB5 HB7; have hc5_0 : w9.cell? ⟨g5, 0, none⟩ = some (.bool a0_0) := (blk_cell K5.out 0).trans rfl; have hc5_1 : w9.cell? ⟨g5, 1, none⟩ = some (.int .i64 a0_1) := (blk_cell K5.out 1).trans rfl; have hc7_0 : w9.cell? ⟨g7, 0, none⟩ = some (.bool a2_0) := (blk_cell K7.out 0).trans rfl; have hc7_1 : w9.cell? ⟨g7, 1, none⟩ = some (.int .i64 a2_1) := (blk_cell K7.out 1).trans rfl; have hc7_2 : w9.cell? ⟨g7, 2, none⟩ = some (.int .i64 a2_2) := (blk_cell K7.out 2).trans rfl; have hc7_3 : w9.cell? ⟨g7, 3, none⟩ = some (.int .i64 a2_3) := (blk_cell K7.out 3).trans rfl) | (go_at_call 103; refine (mem_Way.calls a0_0 a0_1 _ _ l1 a2_0 a2_1 a2_2 a2_3 a3 t _ (Kd.C_below HR.out HB.out) HC.out HW.out).mono ?_; rintro e w10 ⟨rfl, hb⟩; have HX := Aside0.mk (below_step HB.out hb); have X5 := Aside0.mk (blk_below K5.out hb); have X7 := Aside0.mk (blk_below K7.out hb); have X9 := Aside0.mk (blk_below BK9.out hb); clear hb K5 K7 BK9 HB hc5_0 hc5_1 hc7_0 hc7_1 hc7_2 hc7_3))
 have HBd := Aside0.mk (below_drew1 HX.out)
 have D5 := Aside0.mk (blk_drew X5.out)
 have D7 := Aside0.mk (blk_drew X7.out)
 have D9 := Aside0.mk (blk_drew X9.out)
 have HSd := Aside0.mk (Kd.S_below HS0.out HBd.out)
 obtain ⟨ad, A1, c1, e0, hx0, hx1, hl1, hi1⟩ := at_T76 (Kd.S_reads' HSd.out).2.2 a2_2 P0.out P1.out
 rw [XE.out] at hx0 hx1 hl1 hi1
 cases e0
 obtain ⟨oki, ce, hcl, hM, hcc, hok, hbk⟩ := Kd.S_borrow HSd.out z76 a2_2 P0.out P1.out
 obtain ⟨ve, rfl, ge⟩ := k76_openM hM
 have hv := hcc 1 _ rfl
 rw [add_field _ _ 1 (by omega)] at hv
 replace hv := Option.some.inj (hv.symm.trans hx1)
 subst hv
 replace ge : Kd.R k74 74 _ _ _ _ x.f1 := (show l1.getD a2_2.toNat z76 = x from XE.out) ▸ ge
 obtain ⟨gB, capB, eB, hbB, hgB, hclB⟩ := Kd.R_form ge (by have := P3.out; have := P4.out; omega)
 injection eB with eB1 _ eB2
 subst eB1
 subst eB2
 have GE := Aside0.mk ge
 have BKk := Aside0.mk (fun (w1 : World) (x' : S76) (hg : World.grownBy _ w1 (some gB)) (hR : Kd.R k74 74 w1 w0.heap.size oki (.slice (some ⟨gB, 0, none⟩) x.f1.length c1) x'.f1) (h0 : x'.f0 = x.f0) =>
   hbk (row := some gB) (x' := x') hg (fun q hq => by injection hq with hq; subst hq; exact ge.1 _ rfl) (by have h1_ := k76_mkM w1 w0.heap.size oki x' hR; rw [h0] at h1_; rw [show l1.getD a2_2.toNat z76 = x from XE.out]; exact h1_))
 clear hbk hok hM hcc hcl
 have q0 := eq_true P0.out
 have q1 := eq_true P1.out
 obtain ⟨i0, hi0, _, hsz0, _⟩ := info_parts info74
 have hcut0 := cut_from (P := Try.prog) 72 74 .i64 Try.underlying72 hi0 5 hsz0 (some ⟨gB, 0, none⟩) x.f1.length c1 a2_3 P2.out (by have := P4.out; omega)
 have hcut : ∀ W : World, (Instr.slice 72 (.slice (some ⟨gB, 0, none⟩) x.f1.length c1) (some (.int .i64 a2_3)) none none).run Try.prog W = .ok (.slice (some ⟨gB, a2_3.toNat * 5, none⟩) (x.f1.length - a2_3.toNat) (c1 - a2_3.toNat)) W := fun W => by
   rw [hcut0 W, if_neg (by have := P3.out; have := P4.out; omega), Option.map_some, add_plain]
 clear hcut0 hi0 hsz0
 refine start_ (n := 14) (S := fun w' => w'.cell? ⟨g5, 0, none⟩ = some (.bool a0_0) ∧ w'.cell? ⟨g5, 1, none⟩ = some (.int .i64 a0_1) ∧ w'.cell? ⟨g7, 0, none⟩ = some (.bool a2_0) ∧ w'.cell? ⟨g7, 1, none⟩ = some (.int .i64 a2_1) ∧ w'.cell? ⟨g7, 2, none⟩ = some (.int .i64 a2_2) ∧ w'.cell? ⟨g7, 3, none⟩ = some (.int .i64 a2_3) ∧ w'.cell? ⟨g9, 0, none⟩ = some (.bool a4_0) ∧ w'.cell? ⟨g9, 1, none⟩ = some (.int .i64 a4_1) ∧ w'.cell? ⟨g9, 2, none⟩ = some (.int .i64 a4_2) ∧ w'.cell? ⟨g9, 3, none⟩ = some (.int .i64 a4_3) ∧ w'.cell? (ad.add (a2_2.toNat * 2)) = some (.int .i64 x.f0) ∧ w'.cell? ⟨(ad.add (a2_2.toNat * 2)).block, (ad.add (a2_2.toNat * 2)).off + 1, none⟩ = some (.slice (some ⟨gB, 0, none⟩) x.f1.length c1)) (ds := [13]) #[false,false,false,false,false,false,false,false,false,false,false,false,false,false] (by kernel_rfl) rfl rfl ⟨(blk_cell D5.out 0).trans rfl, (blk_cell D5.out 1).trans rfl, (blk_cell D7.out 0).trans rfl, (blk_cell D7.out 1).trans rfl, (blk_cell D7.out 2).trans rfl, (blk_cell D7.out 3).trans rfl, (blk_cell D9.out 0).trans rfl, (blk_cell D9.out 1).trans rfl, (blk_cell D9.out 2).trans rfl, (blk_cell D9.out 3).trans rfl, hx0, hx1⟩ (fun hHeld => ?_)
 generalize w10.drew = w11 at HBd D5 D7 D9 HSd hx0 hx1 hgB hclB GE ge BKk hi1 hHeld ⊢
 refine pure_ (i := 0) (N := some 19) (v := ?_) (a' := ?_) #[true,false,false,false,false,false,false,false,false,false,false,false,false,false] rfl rfl (by kernel_rfl) (fun _ _ _ h => h) (Or.inl ⟨by rfl, ?_⟩) ?_ ?_
 rotate_left
 · intro w'
   go_simp
   with_reducible rfl
 rotate_left
 · simp only [Act.put, List.setIfInBounds_toArray, List.set_cons_zero, List.set_cons_succ, i64_w, i32_w]
   rfl
 refine pure_ (i := 1) (N := some 20) (v := ?_) (a' := ?_) #[true,true,false,false,false,false,false,false,false,false,false,false,false,false] rfl rfl (by kernel_rfl) (fun _ _ _ h => h) (Or.inl ⟨by rfl, ?_⟩) ?_ ?_
 rotate_left
 · intro w'
   go_simp
   with_reducible rfl
 rotate_left
 · simp only [Act.put, List.setIfInBounds_toArray, List.set_cons_zero, List.set_cons_succ, i64_w, i32_w]
   rfl
 refine pure_ (i := 6) (N := some 25) (v := ?_) (a' := ?_) #[true,true,false,false,false,false,true,false,false,false,false,false,false,false] rfl rfl (by kernel_rfl) (fun _ _ _ h => h) (Or.inl ⟨by rfl, ?_⟩) ?_ ?_
 rotate_left
 · intro w'
   go_simp
   with_reducible rfl
 rotate_left
 · simp only [Act.put, List.setIfInBounds_toArray, List.set_cons_zero, List.set_cons_succ, i64_w, i32_w]
   rfl
 refine pure_ (i := 10) (N := some 29) (v := ?_) (a' := ?_) #[true,true,false,false,false,false,true,false,false,false,true,false,false,false] rfl rfl (by kernel_rfl) (fun _ _ _ h => h) (Or.inl ⟨by rfl, ?_⟩) ?_ ?_
 rotate_left
 · intro w'
   go_simp
   with_reducible rfl
 rotate_left
 · simp only [Act.put, List.setIfInBounds_toArray, List.set_cons_zero, List.set_cons_succ, i64_w, i32_w]
   rfl
 refine take_ (i := 2) (N := some 21) (v := ?_) (a' := ?_) #[true,true,true,false,false,false,true,false,false,false,true,false,false,false] rfl rfl (by kernel_rfl) (fun _ _ _ h => h) (Or.inl ⟨by rfl, ?_⟩) hHeld ?_ ?_
 rotate_left
 · rintro w' ⟨s0, s1, s2, s3, s4, s5, s6, s7, s8, s9, s10, s11⟩
   go_simp
   with_reducible rfl
 rotate_left
 · simp only [Act.put, List.setIfInBounds_toArray, List.set_cons_zero, List.set_cons_succ, i64_w, i32_w]
   rfl
 refine pure_ (i := 3) (N := some 22) (v := ?_) (a' := ?_) #[true,true,true,true,false,false,true,false,false,false,true,false,false,false] rfl rfl (by kernel_rfl) (fun _ _ _ h => h) (Or.inl ⟨by rfl, ?_⟩) ?_ ?_
 rotate_left
 · intro w'
   go_simp
   with_reducible rfl
 rotate_left
 · simp only [Act.put, List.setIfInBounds_toArray, List.set_cons_zero, List.set_cons_succ, i64_w, i32_w]
   rfl
 refine pure_ (i := 4) (N := some 23) (v := ?_) (a' := ?_) #[true,true,true,true,true,false,true,false,false,false,true,false,false,false] rfl rfl (by kernel_rfl) (fun _ _ _ h => h) (Or.inl ⟨by rfl, ?_⟩) ?_ ?_
 rotate_left
 · intro w'
   go_simp
   with_reducible rfl
 rotate_left
 · simp only [Act.put, List.setIfInBounds_toArray, List.set_cons_zero, List.set_cons_succ, i64_w, i32_w]
   rfl
 refine take_ (i := 5) (N := some 24) (v := ?_) (a' := ?_) #[true,true,true,true,true,true,true,false,false,false,true,false,false,false] rfl rfl (by kernel_rfl) (fun _ _ _ h => h) (Or.inl ⟨by rfl, ?_⟩) hHeld ?_ ?_
 rotate_left
 · rintro w' ⟨s0, s1, s2, s3, s4, s5, s6, s7, s8, s9, s10, s11⟩
   go_simp
   with_reducible rfl
 rotate_left
 · simp only [Act.put, List.setIfInBounds_toArray, List.set_cons_zero, List.set_cons_succ, i64_w, i32_w]
   rfl
 refine take_ (i := 7) (N := some 26) (v := ?_) (a' := ?_) #[true,true,true,true,true,true,true,true,false,false,true,false,false,false] rfl rfl (by kernel_rfl) (fun _ _ _ h => h) (Or.inl ⟨by rfl, ?_⟩) hHeld ?_ ?_
 rotate_left
 · rintro w' ⟨s0, s1, s2, s3, s4, s5, s6, s7, s8, s9, s10, s11⟩
   go_simp
   with_reducible rfl
 rotate_left
 · simp only [Act.put, List.setIfInBounds_toArray, List.set_cons_zero, List.set_cons_succ, i64_w, i32_w]
   rfl
 refine pure_ (i := 8) (N := some 27) (v := ?_) (a' := ?_) #[true,true,true,true,true,true,true,true,true,false,true,false,false,false] rfl rfl (by kernel_rfl) (fun _ _ _ h => h) (Or.inl ⟨by rfl, ?_⟩) ?_ ?_
 rotate_left
 · intro w'
   go_simp
   with_reducible rfl
 rotate_left
 · simp only [Act.put, List.setIfInBounds_toArray, List.set_cons_zero, List.set_cons_succ, i64_w, i32_w]
   rfl
 refine take_ (i := 9) (N := some 28) (v := ?_) (a' := ?_) #[true,true,true,true,true,true,true,true,true,true,true,false,false,false] rfl rfl (by kernel_rfl) (fun _ _ _ h => h) (Or.inl ⟨by rfl, ?_⟩) hHeld ?_ ?_
 rotate_left
 · rintro w' ⟨s0, s1, s2, s3, s4, s5, s6, s7, s8, s9, s10, s11⟩
   go_simp
   with_reducible rfl
 rotate_left
 · simp only [Act.put, List.setIfInBounds_toArray, List.set_cons_zero, List.set_cons_succ, i64_w, i32_w]
   rfl
 refine take_ (i := 11) (N := some 30) (v := ?_) (a' := ?_) #[true,true,true,true,true,true,true,true,true,true,true,true,false,false] rfl rfl (by kernel_rfl) (fun _ _ _ h => h) (Or.inl ⟨by rfl, ?_⟩) hHeld ?_ ?_
 rotate_left
 · rintro w' ⟨s0, s1, s2, s3, s4, s5, s6, s7, s8, s9, s10, s11⟩
   go_simp
   with_reducible rfl
 rotate_left
 · simp only [Act.put, List.setIfInBounds_toArray, List.set_cons_zero, List.set_cons_succ, i64_w, i32_w]
   rfl
 refine one_ (i := 12) (N := some 31) #[true,true,true,true,true,true,true,true,true,true,true,true,true,false] rfl rfl (by kernel_rfl) (by decide) (fun K hK => ?_)
 refine goes_ Try.func104 (by kernel_rfl) rfl #[.agg #[.bool a0_0, .int .i64 a0_1], .int .i64 a3, .agg #[.bool a4_0, .int .i64 a4_1, .int .i64 a4_2, .int .i64 a4_3]] (by rfl) rfl rfl (by (try simp only [List.map_toArray, List.map_cons, List.map_nil]); first | done | rfl) ?_
 with_reducible refine (bytes_Spell.calls k a0_0 a0_1 a3 a4_0 a4_1 a4_2 a4_3 y _ HY.out).mono ?_
 rintro e w12 ⟨vy, rfl, hvy, hb⟩
 refine ⟨_, rfl, ?_⟩
 obtain ⟨gY, cY, rfl, _, hgY, _⟩ := Kd.R_form hvy P3.out
 refine hK.out _ _ ⟨(blk_cell (blk_below D5.out hb) 0).trans rfl, (blk_cell (blk_below D5.out hb) 1).trans rfl, (blk_cell (blk_below D7.out hb) 0).trans rfl, (blk_cell (blk_below D7.out hb) 1).trans rfl, (blk_cell (blk_below D7.out hb) 2).trans rfl, (blk_cell (blk_below D7.out hb) 3).trans rfl, (blk_cell (blk_below D9.out hb) 0).trans rfl, (blk_cell (blk_below D9.out hb) 1).trans rfl, (blk_cell (blk_below D9.out hb) 2).trans rfl, (blk_cell (blk_below D9.out hb) 3).trans rfl, (hb.cell (World.block_lt_of_cell? _ _ hx0)).trans hx0, (hb.cell (World.block_lt_of_cell? _ _ hx1)).trans hx1⟩ (fun hHeld2 => ?_)
 clear hK K
 refine norm_ (a' := ?_) ?_ ?_
 rotate_left
 · show Act.put _ (some 31) _ = _
   simp only [Act.put, List.setIfInBounds_toArray, List.set_cons_zero, List.set_cons_succ, i64_w, i32_w]
   rfl
 refine last_ (i := 13) (N := some 32) #[true,true,true,true,true,true,true,true,true,true,true,true,true,true] rfl rfl (by kernel_rfl) (by decide) (fun K hK => ?_)
 have GE2 := Kd.R_below GE.out hb
 obtain ⟨W1, hrun, hR1, hgr⟩ := R_copy a2_3.toNat GE2 hvy P4.out 72 72 3 Try.underlying72 (x.f1.length - a2_3.toNat) (c1 - a2_3.toNat) (by have := P4.out; omega)
 have hgr2 : w11.grownBy W1 (some gB) := ⟨hgr.os.trans hb.os, hgr.tape.trans hb.tape, hgr.output.trans hb.output, Nat.le_trans hb.size hgr.size, fun q hq hne => (hgr.block q (Nat.lt_of_lt_of_le hq hb.size) hne).trans (hb.block q hq)⟩
 have HSZ := Aside0.mk (BKk.out W1 ⟨x.f0, x.f1.take a2_3.toNat ++ y ++ x.f1.drop (a2_3.toNat + y.length)⟩ hgr2 (by
   have hl : (x.f1.take a2_3.toNat ++ y ++ x.f1.drop (a2_3.toNat + y.length)).length = x.f1.length := by
     have := P4.out
     rw [List.length_append, List.length_append, List.length_take, List.length_drop]
     omega
   exact hR1) rfl)
 have HBZ := Aside0.mk ((below_then (below_then HBz.out HBz.out.size HBd.out) (Nat.le_trans HBz.out.size HBd.out.size) (Below.refl _ _)).grown hgr2 (Nat.le_trans HBz.out.size HBd.out.size) (fun q hq => by injection hq with hq; omega))
 refine copy_step (by rfl) (.tmp 27) (.tmp 31) 72 72 rfl rfl rfl hrun ?_
 clear hrun hR1 hgr hgr2
 refine hK.out _ _ ?_
 clear hK K
 refine done_ (by kernel_rfl) ?_
 go_wp2
 go_ret
 exact ⟨by first | rfl | (simp [T0.out]; done), by first | exact HSZ.out | (have h_ := HSZ.out; rw [List.append_assoc] at h_; exact h_), HBZ.out⟩

/-! cellar/mem.Store -/
def mem_Store.f (k : Nat) (a0_0 : Bool) (a0_1 : Int) (l1 : List S76) (a2_0 : Bool) (a2_1 a2_2 a2_3 a3 : Int) (a4_0 : Bool) (a4_1 a4_2 a4_3 : Int) : Option (List S76 × Int × Int) :=
  (mem_asked.f a0_0 a0_1 l1 a2_0 a2_1 a2_2 a2_3 a3).bind fun b => if b = true then ((bytes_May.f a3 a4_0 a4_1 a4_2 a4_3).bind fun c => if c = true then (if l1.length ≤ 1000000 then (if (l1.all fun x => decide (x.f1.length ≤ 1000000)) = true then ((mem_Lay.f k a0_0 a0_1 l1 a2_0 a2_1 a2_2 a2_3 a3 a4_0 a4_1 a4_2 a4_3).bind fun x => some (x.1, x.2, 0)) else none) else none) else some ([], 0, 1)) else some ([], 0, 1)
theorem mem_Store.mono : ∀ a0 a1 a2 a3 a4 a5 a6 a7 a8 a9 a10 a11 k, LeO (mem_Store.f k a0 a1 a2 a3 a4 a5 a6 a7 a8 a9 a10 a11) (mem_Store.f (k + 1) a0 a1 a2 a3 a4 a5 a6 a7 a8 a9 a10 a11) := by
  intro a0 a1 a2 a3 a4 a5 a6 a7 a8 a9 a10 a11 k
  unfold mem_Store.f
  repeat' first
   | (with_reducible apply mem_Lay.mono)
   | (with_reducible apply LeO.refl)
   | (with_reducible apply LeO.none)
   | (with_reducible refine LeO.ite ?_ ?_)
   | (with_reducible refine LeO.bind ?_ (fun _ => ?_))
set_option maxHeartbeats 8000000 in
set_option maxRecDepth 100000 in
theorem mem_Store.calls (k : Nat) (a0_0 : Bool) (a0_1 : Int) (A1 : Option Addr) (c1 : Nat) (l1 : List S76) (a2_0 : Bool) (a2_1 a2_2 a2_3 a3 : Int) (a4_0 : Bool) (a4_1 a4_2 a4_3 : Int) (r1 : List S76) (r2 r3 : Int) (w : World) (hr1 : Kd.C k76 w A1 l1.length l1) (hc1 : l1.length ≤ c1)
    (h : mem_Store.f k a0_0 a0_1 l1 a2_0 a2_1 a2_2 a2_3 a3 a4_0 a4_1 a4_2 a4_3 = some (r1, r2, r3)) :
  Calls Try.prog 30 #[.agg #[.bool a0_0, .int .i64 a0_1], .slice A1 l1.length c1, .agg #[.bool a2_0, .int .i64 a2_1, .int .i64 a2_2, .int .i64 a2_3], .int .i64 a3, .agg #[.bool a4_0, .int .i64 a4_1, .int .i64 a4_2, .int .i64 a4_3]] w fun e w' => ∃ v0_ : Value, e = .returned (.tuple #[v0_, .int .i64 r2, .int .i64 r3]) ∧ Kd.S k76 76 w' w.heap.size (fun _ => True) v0_ r1 ∧ Below w.heap.size w w' := by
 have hu29 := Try.underlying29
 have hu62 := Try.underlying62
 have hu76 := Try.underlying76
 have HR := Aside0.mk hr1
 have HC := Aside0.mk hc1
 clear hr1 hc1
 unfold mem_Store.f at h
 obtain ⟨b, hb, H⟩ := Option.bind_eq_some_iff.1 h
 have HA := Aside0.mk hb
 clear h hb
 cases b with
 | false =>
  rw [if_neg (by decide)] at H
  simp only [Option.some.injEq, Prod.mk.injEq] at H
  obtain ⟨rfl, rfl, rfl⟩ := H
  go_enter Try.func30, Try.ntmps30
  go_wp2_with (first | ((with_reducible refine gate_dst (N := 5) rfl ?_); refine zbox (N := 5) (cs := #[.bool a0_0, .int .i64 a0_1]) (t := 29) ?_; intro g5 hg w5 hbox hb; have HB5 := Aside0.mk hb; have BK5 := Aside0.mk hbox; have HG5 := Aside0.mk hg; clear hb hbox hg) | ((with_reducible refine gate_dst (N := 7) rfl ?_); refine zbox (N := 7) (cs := #[.bool a2_0, .int .i64 a2_1, .int .i64 a2_2, .int .i64 a2_3]) (t := 62) ?_; intro g7 hg w7 hbox hb; have HB7 := Aside0.mk hb; have BK7 := Aside0.mk hbox; have HG7 := Aside0.mk hg; clear hb hbox hg) | ((with_reducible refine gate_dst (N := 9) rfl ?_); refine zbox (N := 9) (cs := #[.bool a4_0, .int .i64 a4_1, .int .i64 a4_2, .int .i64 a4_3]) (t := 62) ?_; intro g9 hg w9 hbox hb; have HB9 := Aside0.mk hb; have BK9 := Aside0.mk hbox; have HG9 := Aside0.mk hg; clear hb hbox hg; have K5 := Aside0.mk (blk_below (blk_below BK5.out HB7.out) HB9.out); have K7 := Aside0.mk (blk_below BK7.out HB9.out); have HB := Aside0.mk (below_step (below_step HB5.out HB7.out) HB9.out); clear BK5 BK7 HB5 HB7; have hc5_0 : w9.cell? ⟨g5, 0, none⟩ = some (.bool a0_0) := (blk_cell K5.out 0).trans rfl; have hc5_1 : w9.cell? ⟨g5, 1, none⟩ = some (.int .i64 a0_1) := (blk_cell K5.out 1).trans rfl; have hc7_0 : w9.cell? ⟨g7, 0, none⟩ = some (.bool a2_0) := (blk_cell K7.out 0).trans rfl; have hc7_1 : w9.cell? ⟨g7, 1, none⟩ = some (.int .i64 a2_1) := (blk_cell K7.out 1).trans rfl; have hc7_2 : w9.cell? ⟨g7, 2, none⟩ = some (.int .i64 a2_2) := (blk_cell K7.out 2).trans rfl; have hc7_3 : w9.cell? ⟨g7, 3, none⟩ = some (.int .i64 a2_3) := (blk_cell K7.out 3).trans rfl) | (go_at_call 66; refine (mem_asked.calls a0_0 a0_1 _ _ l1 a2_0 a2_1 a2_2 a2_3 a3 false _ (Kd.C_below HR.out HB.out) HC.out HA.out).mono ?_; rintro e w10 ⟨rfl, hb⟩; have HBa := Aside0.mk (below_step HB.out hb); have X5 := Aside0.mk (blk_below K5.out hb); have X7 := Aside0.mk (blk_below K7.out hb); have X9 := Aside0.mk (blk_below BK9.out hb); clear hb K5 K7 BK9 HB hc5_0 hc5_1 hc7_0 hc7_1 hc7_2 hc7_3; have hd9_0 : w10.cell? ⟨g9, 0, none⟩ = some (.bool a4_0) := (blk_cell X9.out 0).trans rfl; have hd9_1 : w10.cell? ⟨g9, 1, none⟩ = some (.int .i64 a4_1) := (blk_cell X9.out 1).trans rfl; have hd9_2 : w10.cell? ⟨g9, 2, none⟩ = some (.int .i64 a4_2) := (blk_cell X9.out 2).trans rfl; have hd9_3 : w10.cell? ⟨g9, 3, none⟩ = some (.int .i64 a4_3) := (blk_cell X9.out 3).trans rfl))
  go_ret3
  exact ⟨_, by first | rfl | (simp [*]; done), Kd.S_nil _ _ _ _ _, HBa.out⟩
 | true =>
  rw [if_pos rfl] at H
  obtain ⟨c, hm, H⟩ := Option.bind_eq_some_iff.1 H
  have HM := Aside0.mk hm
  clear hm
  cases c with
  | false =>
   rw [if_neg (by decide)] at H
   simp only [Option.some.injEq, Prod.mk.injEq] at H
   obtain ⟨rfl, rfl, rfl⟩ := H
   go_enter Try.func30, Try.ntmps30
   go_wp2_with (first | ((with_reducible refine gate_dst (N := 5) rfl ?_); refine zbox (N := 5) (cs := #[.bool a0_0, .int .i64 a0_1]) (t := 29) ?_; intro g5 hg w5 hbox hb; have HB5 := Aside0.mk hb; have BK5 := Aside0.mk hbox; have HG5 := Aside0.mk hg; clear hb hbox hg) | ((with_reducible refine gate_dst (N := 7) rfl ?_); refine zbox (N := 7) (cs := #[.bool a2_0, .int .i64 a2_1, .int .i64 a2_2, .int .i64 a2_3]) (t := 62) ?_; intro g7 hg w7 hbox hb; have HB7 := Aside0.mk hb; have BK7 := Aside0.mk hbox; have HG7 := Aside0.mk hg; clear hb hbox hg) | ((with_reducible refine gate_dst (N := 9) rfl ?_); refine zbox (N := 9) (cs := #[.bool a4_0, .int .i64 a4_1, .int .i64 a4_2, .int .i64 a4_3]) (t := 62) ?_; intro g9 hg w9 hbox hb; have HB9 := Aside0.mk hb; have BK9 := Aside0.mk hbox; have HG9 := Aside0.mk hg; clear hb hbox hg; have K5 := Aside0.mk (blk_below (blk_below BK5.out HB7.out) HB9.out); have K7 := Aside0.mk (blk_below BK7.out HB9.out); have HB := Aside0.mk (below_step (below_step HB5.out HB7.out) HB9.out); clear BK5 BK7 HB5 HB7; have hc5_0 : w9.cell? ⟨g5, 0, none⟩ = some (.bool a0_0) := (blk_cell K5.out 0).trans rfl; have hc5_1 : w9.cell? ⟨g5, 1, none⟩ = some (.int .i64 a0_1) := (blk_cell K5.out 1).trans rfl; have hc7_0 : w9.cell? ⟨g7, 0, none⟩ = some (.bool a2_0) := (blk_cell K7.out 0).trans rfl; have hc7_1 : w9.cell? ⟨g7, 1, none⟩ = some (.int .i64 a2_1) := (blk_cell K7.out 1).trans rfl; have hc7_2 : w9.cell? ⟨g7, 2, none⟩ = some (.int .i64 a2_2) := (blk_cell K7.out 2).trans rfl; have hc7_3 : w9.cell? ⟨g7, 3, none⟩ = some (.int .i64 a2_3) := (blk_cell K7.out 3).trans rfl) | (go_at_call 66; refine (mem_asked.calls a0_0 a0_1 _ _ l1 a2_0 a2_1 a2_2 a2_3 a3 true _ (Kd.C_below HR.out HB.out) HC.out HA.out).mono ?_; rintro e w10 ⟨rfl, hb⟩; have HBa := Aside0.mk (below_step HB.out hb); have X5 := Aside0.mk (blk_below K5.out hb); have X7 := Aside0.mk (blk_below K7.out hb); have X9 := Aside0.mk (blk_below BK9.out hb); clear hb K5 K7 BK9 HB hc5_0 hc5_1 hc7_0 hc7_1 hc7_2 hc7_3; have hd9_0 : w10.cell? ⟨g9, 0, none⟩ = some (.bool a4_0) := (blk_cell X9.out 0).trans rfl; have hd9_1 : w10.cell? ⟨g9, 1, none⟩ = some (.int .i64 a4_1) := (blk_cell X9.out 1).trans rfl; have hd9_2 : w10.cell? ⟨g9, 2, none⟩ = some (.int .i64 a4_2) := (blk_cell X9.out 2).trans rfl; have hd9_3 : w10.cell? ⟨g9, 3, none⟩ = some (.int .i64 a4_3) := (blk_cell X9.out 3).trans rfl) | (go_at_call 67; refine (bytes_May.calls a3 a4_0 a4_1 a4_2 a4_3 false _ HM.out).mono ?_; rintro e w11 ⟨rfl, hb⟩; have HBm := Aside0.mk (below_step HBa.out hb); have Y5 := Aside0.mk (blk_below X5.out hb); have Y7 := Aside0.mk (blk_below X7.out hb); have Y9 := Aside0.mk (blk_below X9.out hb); clear hb X5 X7 X9 HBa hd9_0 hd9_1 hd9_2 hd9_3))
   go_ret3
   exact ⟨_, by first | rfl | (simp [*]; done), Kd.S_nil _ _ _ _ _, HBm.out⟩
  | true =>
   rw [if_pos rfl] at H
   by_cases l0 : l1.length ≤ 1000000
   case neg => rw [if_neg l0] at H; cases H
   rw [if_pos l0] at H
   by_cases l2 : (l1.all fun x => decide (x.f1.length ≤ 1000000)) = true
   case neg => rw [if_neg l2] at H; cases H
   rw [if_pos l2] at H
   obtain ⟨⟨m, bad⟩, hl, H⟩ := Option.bind_eq_some_iff.1 H
   simp only [Option.some.injEq, Prod.mk.injEq] at H
   obtain ⟨rfl, rfl, rfl⟩ := H
   have HLy := Aside0.mk hl
   have HL1 := Aside0.mk (show l1.length * 32 ≤ 140737488355328 by omega)
   have HL2 := Aside0.mk (show ∀ x ∈ l1, x.f1.length * 40 ≤ 140737488355328 from fun x hx => by have h_ := of_decide_eq_true (List.all_eq_true.1 l2 x hx); omega)
   clear hl l0 l2
   go_enter Try.func30, Try.ntmps30
   go_wp2_with (first | ((with_reducible refine gate_dst (N := 5) rfl ?_); refine zbox (N := 5) (cs := #[.bool a0_0, .int .i64 a0_1]) (t := 29) ?_; intro g5 hg w5 hbox hb; have HB5 := Aside0.mk hb; have BK5 := Aside0.mk hbox; have HG5 := Aside0.mk hg; clear hb hbox hg) | ((with_reducible refine gate_dst (N := 7) rfl ?_); refine zbox (N := 7) (cs := #[.bool a2_0, .int .i64 a2_1, .int .i64 a2_2, .int .i64 a2_3]) (t := 62) ?_; intro g7 hg w7 hbox hb; have HB7 := Aside0.mk hb; have BK7 := Aside0.mk hbox; have HG7 := Aside0.mk hg; clear hb hbox hg) | ((with_reducible refine gate_dst (N := 9) rfl ?_); refine zbox (N := 9) (cs := #[.bool a4_0, .int .i64 a4_1, .int .i64 a4_2, .int .i64 a4_3]) (t := 62) ?_; intro g9 hg w9 hbox hb; have HB9 := Aside0.mk hb; have BK9 := Aside0.mk hbox; have HG9 := Aside0.mk hg; clear hb hbox hg; have K5 := Aside0.mk (blk_below (blk_below BK5.out HB7.out) HB9.out); have K7 := Aside0.mk (blk_below BK7.out HB9.out); have HB := Aside0.mk (below_step (below_step HB5.out HB7.out) HB9.out); clear BK5 BK7 HB5 HB7; have hc5_0 : w9.cell? ⟨g5, 0, none⟩ = some (.bool a0_0) := (blk_cell K5.out 0).trans rfl; have hc5_1 : w9.cell? ⟨g5, 1, none⟩ = some (.int .i64 a0_1) := (blk_cell K5.out 1).trans rfl; have hc7_0 : w9.cell? ⟨g7, 0, none⟩ = some (.bool a2_0) := (blk_cell K7.out 0).trans rfl; have hc7_1 : w9.cell? ⟨g7, 1, none⟩ = some (.int .i64 a2_1) := (blk_cell K7.out 1).trans rfl; have hc7_2 : w9.cell? ⟨g7, 2, none⟩ = some (.int .i64 a2_2) := (blk_cell K7.out 2).trans rfl; have hc7_3 : w9.cell? ⟨g7, 3, none⟩ = some (.int .i64 a2_3) := (blk_cell K7.out 3).trans rfl) | (go_at_call 66; refine (mem_asked.calls a0_0 a0_1 _ _ l1 a2_0 a2_1 a2_2 a2_3 a3 true _ (Kd.C_below HR.out HB.out) HC.out HA.out).mono ?_; rintro e w10 ⟨rfl, hb⟩; have HBa := Aside0.mk (below_step HB.out hb); have X5 := Aside0.mk (blk_below K5.out hb); have X7 := Aside0.mk (blk_below K7.out hb); have X9 := Aside0.mk (blk_below BK9.out hb); clear hb K5 K7 BK9 HB hc5_0 hc5_1 hc7_0 hc7_1 hc7_2 hc7_3; have hd9_0 : w10.cell? ⟨g9, 0, none⟩ = some (.bool a4_0) := (blk_cell X9.out 0).trans rfl; have hd9_1 : w10.cell? ⟨g9, 1, none⟩ = some (.int .i64 a4_1) := (blk_cell X9.out 1).trans rfl; have hd9_2 : w10.cell? ⟨g9, 2, none⟩ = some (.int .i64 a4_2) := (blk_cell X9.out 2).trans rfl; have hd9_3 : w10.cell? ⟨g9, 3, none⟩ = some (.int .i64 a4_3) := (blk_cell X9.out 3).trans rfl) | (go_at_call 67; refine (bytes_May.calls a3 a4_0 a4_1 a4_2 a4_3 true _ HM.out).mono ?_; rintro e w11 ⟨rfl, hb⟩; have HBm := Aside0.mk (below_step HBa.out hb); have Y5 := Aside0.mk (blk_below X5.out hb); have Y7 := Aside0.mk (blk_below X7.out hb); have Y9 := Aside0.mk (blk_below X9.out hb); clear hb X5 X7 X9 HBa hd9_0 hd9_1 hd9_2 hd9_3) | (go_at_call 68; refine (own_calls _ _ l1 _ (Kd.C_below HR.out HBm.out) HL1.out HL2.out).mono ?_; rintro e w12 ⟨v, rfl, hs, hb⟩; obtain ⟨Av, cv, rfl⟩ := Kd.S_slice hs; have HSo := Aside0.mk hs; have HBo := Aside0.mk hb; have Z5 := Aside0.mk (blk_below Y5.out hb); have Z7 := Aside0.mk (blk_below Y7.out hb); have Z9 := Aside0.mk (blk_below Y9.out hb); clear hb hs Y5 Y7 Y9; have he5_0 : w12.cell? ⟨g5, 0, none⟩ = some (.bool a0_0) := (blk_cell Z5.out 0).trans rfl; have he5_1 : w12.cell? ⟨g5, 1, none⟩ = some (.int .i64 a0_1) := (blk_cell Z5.out 1).trans rfl; have he7_0 : w12.cell? ⟨g7, 0, none⟩ = some (.bool a2_0) := (blk_cell Z7.out 0).trans rfl; have he7_1 : w12.cell? ⟨g7, 1, none⟩ = some (.int .i64 a2_1) := (blk_cell Z7.out 1).trans rfl; have he7_2 : w12.cell? ⟨g7, 2, none⟩ = some (.int .i64 a2_2) := (blk_cell Z7.out 2).trans rfl; have he7_3 : w12.cell? ⟨g7, 3, none⟩ = some (.int .i64 a2_3) := (blk_cell Z7.out 3).trans rfl; have he9_0 : w12.cell? ⟨g9, 0, none⟩ = some (.bool a4_0) := (blk_cell Z9.out 0).trans rfl; have he9_1 : w12.cell? ⟨g9, 1, none⟩ = some (.int .i64 a4_1) := (blk_cell Z9.out 1).trans rfl; have he9_2 : w12.cell? ⟨g9, 2, none⟩ = some (.int .i64 a4_2) := (blk_cell Z9.out 2).trans rfl; have he9_3 : w12.cell? ⟨g9, 3, none⟩ = some (.int .i64 a4_3) := (blk_cell Z9.out 3).trans rfl) | (go_at_call 69; refine (lay_calls k a0_0 a0_1 _ l1 a2_0 a2_1 a2_2 a2_3 a3 a4_0 a4_1 a4_2 a4_3 _ _ _ _ HBo.out HSo.out HLy.out).mono ?_; rintro e w13 ⟨rfl, hs, hb⟩; have HSl := Aside0.mk hs; have HBl := Aside0.mk hb; clear hb hs HBo HSo Z5 Z7 Z9 he5_0 he5_1 he7_0 he7_1 he7_2 he7_3 he9_0 he9_1 he9_2 he9_3))
   go_ret3
   exact ⟨_, by first | rfl | (simp [*]; done), Kd.S_lower HSl.out HBm.out.size, below_step HBm.out HBl.out⟩

/-! cellarref1_Abi -/
def cellarref1_Abi.f (a0_0 : Bool) (a0_1 : Int) : Option (Bool) := if a0_1 = 2 then (some true) else (some (a0_1 == 4))
set_option maxHeartbeats 8000000 in
set_option maxRecDepth 100000 in
theorem cellarref1_Abi.calls (a0_0 : Bool) (a0_1 : Int) (r : Bool) (w : World) (h : cellarref1_Abi.f a0_0 a0_1 = some r) :
  Calls Try.prog 31 #[.agg #[.bool a0_0, .int .i64 a0_1]] w fun e w' => e = .returned (.bool r) ∧ Below w.heap.size w w' := by
 have hu29 := Try.underlying29
 have HB := Aside0.mk (Below.refl w.heap.size w)
 have H : (if a0_1 = 2 then (some true) else (some (a0_1 == 4))) = some r := h
 clear h
 by_cases c2 : a0_1 = 2
 ·rw [if_pos c2] at H
  have c2b0 : (a0_1 == 2) = true := beq_iff_eq.mpr c2
  have c2b1 : (a0_1 != 2) = false := bne_eq_false_iff_eq.mpr c2
  clear c2
  obtain rfl := Option.some.inj H
  go_enter Try.func31, Try.ntmps31
  go_wp2_with (first | ((with_reducible refine gate_dst (N := 1) rfl ?_); refine zbox (N := 1) (cs := #[.bool a0_0, .int .i64 a0_1]) (t := 29) ?_; intro gb216 hg w3 hbox hb; have n0_ := Aside0.mk (below_step (zw0 HB.out) hb); have BK216 := Aside0.mk (hbox); have GW216 := Aside0.mk (zg hg (below_size (zw0 HB.out))); have GE216 := GW216; clear HB; have HB := n0_; clear n0_; clear hb hbox hg; have hcz4_0 := zc BK216.out 0; have hcz4_1 := zc BK216.out 1; have hfz4_0 := blk_frozen BK216.out 0; have hfz4_1 := blk_frozen BK216.out 1))
  go_ret
  exact ⟨ze, zw1 HB.out GE216.out⟩
 ·rw [if_neg c2] at H
  have c2b0 : (a0_1 == 2) = false := beq_eq_false_iff_ne.mpr c2
  have c2b1 : (a0_1 != 2) = true := bne_iff_ne.mpr c2
  obtain rfl := Option.some.inj H
  go_enter Try.func31, Try.ntmps31
  go_wp2_with (first | ((with_reducible refine gate_dst (N := 1) rfl ?_); refine zbox (N := 1) (cs := #[.bool a0_0, .int .i64 a0_1]) (t := 29) ?_; intro gb216 hg w5 hbox hb; have n0_ := Aside0.mk (below_step (zw0 HB.out) hb); have BK216 := Aside0.mk (hbox); have GW216 := Aside0.mk (zg hg (below_size (zw0 HB.out))); have GE216 := GW216; clear HB; have HB := n0_; clear n0_; clear hb hbox hg; have hcz6_0 := zc BK216.out 0; have hcz6_1 := zc BK216.out 1; have hfz6_0 := blk_frozen BK216.out 0; have hfz6_1 := blk_frozen BK216.out 1))
  go_ret
  exact ⟨ze, zw1 HB.out GE216.out⟩

/-! cellarref1_Number -/
def cellarref1_Number.f (a0 : Int) (a1 : Int) : Option (Bool) := if 0 ≤ a1 then ((cellarref0_Num.f a0 (wrap64 ((shl .i64 1 a1) - 1))).bind fun t217 => (some t217)) else (none)
set_option maxHeartbeats 8000000 in
set_option maxRecDepth 100000 in
theorem cellarref1_Number.calls (a0 : Int) (a1 : Int) (r : Bool) (w : World) (h : cellarref1_Number.f a0 a1 = some r) :
  Calls Try.prog 46 #[.int .i64 a0, .int .i64 a1] w fun e w' => e = .returned (.bool r) ∧ Drawn0 w w' := by
 have H : (if 0 ≤ a1 then ((cellarref0_Num.f a0 (wrap64 ((shl .i64 1 a1) - 1))).bind fun t217 => (some t217)) else (none)) = some r := h
 clear h
 by_cases c3 : 0 ≤ a1
 ·rw [if_pos c3] at H
  have c3b0 := eq_true c3
  have c3b1 : decide (0 ≤ a1) = true := decide_eq_true c3
  clear c3
  obtain ⟨ji4, hji4⟩ : ∃ j_ : Int, (shl .i64 1 a1) = j_ := ⟨_, rfl⟩
  replace H : ((cellarref0_Num.f a0 (wrap64 ((ji4) - 1))).bind fun t217 => (some t217)) = some r := by first | (rw [hji4] at H; exact H) | (simp only [hji4] at H ⊢; exact H)
  have hji4_ : (IntKind.i64.wrap (1 * 2 ^ min a1.toNat 64)) = ji4 := hji4
  have hji4z : a1 ≤ 64 → (IntKind.i64.wrap (1 * 2 ^ a1.toNat)) = ji4 := shl_small hji4
  have hji4u : (IntKind.i64.wrap (2 ^ min a1.toNat 64)) = ji4 := by have h_ := hji4_; rw [Int.one_mul] at h_; exact h_
  have hji4v : a1 ≤ 64 → (IntKind.i64.wrap (2 ^ a1.toNat)) = ji4 := fun hle_ => by have h_ := hji4z hle_; rw [Int.one_mul] at h_; exact h_
  have hji4y : (wrap64 (1 * 2 ^ min a1.toNat 64)) = ji4 := (i64_w _).symm.trans hji4_
  have hji4x : a1 ≤ 64 → (wrap64 (1 * 2 ^ a1.toNat)) = ji4 := fun h_ => (i64_w _).symm.trans (hji4z h_)
  replace H := Option.bind_eq_some_iff.mp H
  obtain ⟨t217, A50, H⟩ := H
  replace H : (some t217) = some r := H
  have A5 := Aside0.mk A50
  clear A50
  obtain rfl := Option.some.inj H
  go_enter Try.func46, Try.ntmps46
  go_wp2_with (first | ((with_reducible refine gate_callee (f := 18) rfl ?_); refine goesL_ (some 9) rfl rfl Try.func18 (by kernel_rfl) rfl #[.int .i64 a0, .int .i64 (wrap64 ((ji4) - 1))] rfl (by (try simp only [List.map_toArray, List.map_cons, List.map_nil]); first | done | (simp only [hji4]; rfl) | rfl | (simp only [List.length_drop, List.length_take]; rfl)) ?_; (with_reducible refine (cellarref0_Num.calls a0 (wrap64 ((ji4) - 1)) t217 _ A5.out).mono ?_); rintro e w' ⟨rfl, ⟨nd, rfl⟩⟩; refine ⟨_, rfl, ?_⟩))
  go_ret
  exact ⟨by first | rfl | (simp; done) | (simp only [← hji4] <;> (first | rfl | simp)) | (simp [*]; done), by repeat (first | exact Drawn0.refl _ | apply Drawn0.step)⟩
 ·rw [if_neg c3] at H
  exact absurd H (by simp)

/-! cellarref1_Width -/
mutual
def cellarref1_Width.j0 : Nat → Int → Bool → Option (Int)
 | 0, _, _ => none
 | k + 1, x3, x4 => if x4 = true then (some 8) else (if x3 = 3 then (cellarref1_Width.j1 k x3 (x3 == 3)) else (cellarref1_Width.j1 k x3 (x3 == 4)))
def cellarref1_Width.j1 : Nat → Int → Bool → Option (Int)
 | 0, _, _ => none
 | k + 1, x3, x7 => if x7 = true then (some 16) else (if x3 = 5 then (some 32) else (if x3 = 6 then (some 32) else (some 0)))
end
def cellarref1_Width.f (k : Nat) (a0 : Int) : Option (Int) := if a0 = 1 then (cellarref1_Width.j0 k a0 (a0 == 1)) else (cellarref1_Width.j0 k a0 (a0 == 2))
theorem cellarref1_Width.mono_l : ∀ k, (∀ y0 y1, LeO (cellarref1_Width.j0 k y0 y1) (cellarref1_Width.j0 (k + 1) y0 y1)) ∧ (∀ y0 y1, LeO (cellarref1_Width.j1 k y0 y1) (cellarref1_Width.j1 (k + 1) y0 y1))
 | 0 => ⟨fun _ _ r h => by simp [cellarref1_Width.j0] at h, fun _ _ r h => by simp [cellarref1_Width.j1] at h⟩
 | k + 1 => by
  obtain ⟨ih0, ih1⟩ := cellarref1_Width.mono_l k
  refine ⟨?_, ?_⟩
  ·intro y0 y1
   unfold cellarref1_Width.j0
   repeat' first
   | (with_reducible apply ih0)
   | (with_reducible apply ih1)
   | (with_reducible apply LeO.refl)
   | (with_reducible apply LeO.none)
   | (with_reducible refine LeO.ite ?_ ?_)
   | (with_reducible refine LeO.bind ?_ (fun _ => ?_))
  ·intro y0 y1
   unfold cellarref1_Width.j1
   repeat' first
   | (with_reducible apply ih0)
   | (with_reducible apply ih1)
   | (with_reducible apply LeO.refl)
   | (with_reducible apply LeO.none)
   | (with_reducible refine LeO.ite ?_ ?_)
   | (with_reducible refine LeO.bind ?_ (fun _ => ?_))
theorem cellarref1_Width.mono : ∀ a0 k, LeO (cellarref1_Width.f k a0) (cellarref1_Width.f (k + 1) a0) := by
 intro a0 k
 obtain ⟨ih0, ih1⟩ := cellarref1_Width.mono_l k
 unfold cellarref1_Width.f
 repeat' first
   | (with_reducible apply ih0)
   | (with_reducible apply ih1)
   | (with_reducible apply LeO.refl)
   | (with_reducible apply LeO.none)
   | (with_reducible refine LeO.ite ?_ ?_)
   | (with_reducible refine LeO.bind ?_ (fun _ => ?_))
set_option maxHeartbeats 8000000 in
set_option maxRecDepth 100000 in
theorem cellarref1_Width.calls (k : Nat) (a0 : Int) (r : Int) (w : World) (h : cellarref1_Width.f k a0 = some r) :
  Calls Try.prog 70 #[.int .i64 a0] w fun e w' => e = .returned (.int .i64 r) ∧ Drawn0 w w' := by
 have H : (if a0 = 1 then (cellarref1_Width.j0 k a0 (a0 == 1)) else (cellarref1_Width.j0 k a0 (a0 == 2))) = some r := h
 clear h
 have HC2 := Aside0.mk H
 clear H
 go_enter Try.func70, Try.ntmps70
 go_upto_if 4 with (fail)
 go_cut [4] (fun v4 wc => ∃ (kq : Nat) (x4_1 : Bool), v4 = .bool x4_1 ∧ Aside0 (cellarref1_Width.j0 kq a0 x4_1 = some r) ∧ Aside0 (kq ≤ k) ∧ Drawn0 w wc)
 case first =>
  have H := HC2.out
  clear HC2
  by_cases c3 : a0 = 1
  rotate_left
  ·rw [if_neg c3] at H
   have c3b0 : (a0 == 1) = false := beq_eq_false_iff_ne.mpr c3
   have c3b1 : (a0 != 1) = true := bne_iff_ne.mpr c3
   (first | rw [c3b0] | (simp only [i64_w, i32_w]; rw [c3b0]) | skip)
   have H' := Aside0.mk H
   clear H
   go_wp2
   go_meet
   case rel => exact ⟨_, ((a0 == 2)), (zr), H', ⟨by first | omega | exact Nat.le_refl _⟩, by repeat (first | exact Drawn0.refl _ | apply Drawn0.step)⟩
  rw [if_pos c3] at H
  have c3b0 : (a0 == 1) = true := beq_iff_eq.mpr c3
  have c3b1 : (a0 != 1) = false := bne_eq_false_iff_eq.mpr c3
  clear c3
  (first | rw [c3b0] | (simp only [i64_w, i32_w]; rw [c3b0]) | skip)
  have H' := Aside0.mk H
  clear H
  go_wp2
  go_meet
  case rel => exact ⟨_, ((a0 == 1)), (zr), H', ⟨by first | omega | exact Nat.le_refl _⟩, by repeat (first | exact Drawn0.refl _ | apply Drawn0.step)⟩
 case rest =>
  clear HC2
  try clear p2; try clear c3; try clear c3b0; try clear c3b1
  obtain ⟨kq, x4_1, rfl, HA, HJ1, ⟨mc1, rfl⟩⟩ := hcut
  cases kq with
  | zero => exact absurd HA.out (by simp [cellarref1_Width.j0])
  | succ kj1 =>
   have H := HA.out
   clear HA
   simp only [cellarref1_Width.j0] at H
   by_cases c4 : x4_1 = true
   ·subst c4
    have H1 : (some 8) = some r := by rw [if_pos rfl] at H; exact H
    clear H
    have H := H1
    clear H1
    obtain rfl := Option.some.inj H
    go_wp2
    go_ret
    exact ⟨zr, by repeat (first | exact Drawn0.refl _ | apply Drawn0.step)⟩
   ·replace c4 := Bool.eq_false_iff.mpr c4
    subst c4
    have H1 : (if a0 = 3 then (cellarref1_Width.j1 kj1 a0 (a0 == 3)) else (cellarref1_Width.j1 kj1 a0 (a0 == 4))) = some r := by rw [if_neg (show ¬ (false = true) by decide)] at H; exact H
    clear H
    have H := H1
    clear H1
    have HC5 := Aside0.mk H
    clear H
    go_upto_if 7 with (fail)
    go_cut [7] (fun v7 wc => ∃ (kq : Nat) (x7_4 : Bool), v7 = .bool x7_4 ∧ Aside0 (cellarref1_Width.j1 kq a0 x7_4 = some r) ∧ Aside0 (kq ≤ kj1) ∧ Drawn0 w wc)
    case first =>
     have H := HC5.out
     clear HC5
     by_cases c6 : a0 = 3
     rotate_left
     ·rw [if_neg c6] at H
      have c6b0 : (a0 == 3) = false := beq_eq_false_iff_ne.mpr c6
      have c6b1 : (a0 != 3) = true := bne_iff_ne.mpr c6
      (first | rw [c6b0] | (simp only [i64_w, i32_w]; rw [c6b0]) | skip)
      have H' := Aside0.mk H
      clear H
      go_wp2
      go_meet
      case rel => exact ⟨_, ((a0 == 4)), (zr), H', ⟨by have := HJ1.out; first | omega | exact Nat.le_refl _⟩, by repeat (first | exact Drawn0.refl _ | apply Drawn0.step)⟩
     rw [if_pos c6] at H
     have c6b0 : (a0 == 3) = true := beq_iff_eq.mpr c6
     have c6b1 : (a0 != 3) = false := bne_eq_false_iff_eq.mpr c6
     clear c6
     (first | rw [c6b0] | (simp only [i64_w, i32_w]; rw [c6b0]) | skip)
     have H' := Aside0.mk H
     clear H
     go_wp2
     go_meet
     case rel => exact ⟨_, ((a0 == 3)), (zr), H', ⟨by have := HJ1.out; first | omega | exact Nat.le_refl _⟩, by repeat (first | exact Drawn0.refl _ | apply Drawn0.step)⟩
    case rest =>
     clear HC5
     try clear c1; try clear p2; try clear c3; try clear c3b0; try clear c3b1; try clear c4; try clear c6; try clear c6b0; try clear c6b1; try clear p2
     obtain ⟨kq, x7_4, rfl, HA, HJ4, ⟨mc4, rfl⟩⟩ := hcut
     cases kq with
     | zero => exact absurd HA.out (by simp [cellarref1_Width.j1])
     | succ kj4 =>
      have H := HA.out
      clear HA
      simp only [cellarref1_Width.j1] at H
      by_cases c7 : x7_4 = true
      ·subst c7
       have H1 : (some 16) = some r := by rw [if_pos rfl] at H; exact H
       clear H
       have H := H1
       clear H1
       obtain rfl := Option.some.inj H
       go_wp2
       go_ret
       exact ⟨zr, by repeat (first | exact Drawn0.refl _ | apply Drawn0.step)⟩
      ·replace c7 := Bool.eq_false_iff.mpr c7
       subst c7
       have H1 : (if a0 = 5 then (some 32) else (if a0 = 6 then (some 32) else (some 0))) = some r := by rw [if_neg (show ¬ (false = true) by decide)] at H; exact H
       clear H
       have H := H1
       clear H1
       by_cases c8 : a0 = 5
       ·rw [if_pos c8] at H
        have c8b0 : (a0 == 5) = true := beq_iff_eq.mpr c8
        have c8b1 : (a0 != 5) = false := bne_eq_false_iff_eq.mpr c8
        clear c8
        obtain rfl := Option.some.inj H
        go_wp2
        go_ret
        exact ⟨zr, by repeat (first | exact Drawn0.refl _ | apply Drawn0.step)⟩
       ·rw [if_neg c8] at H
        have c8b0 : (a0 == 5) = false := beq_eq_false_iff_ne.mpr c8
        have c8b1 : (a0 != 5) = true := bne_iff_ne.mpr c8
        by_cases c9 : a0 = 6
        ·rw [if_pos c9] at H
         have c9b0 : (a0 == 6) = true := beq_iff_eq.mpr c9
         have c9b1 : (a0 != 6) = false := bne_eq_false_iff_eq.mpr c9
         clear c9
         obtain rfl := Option.some.inj H
         go_wp2
         go_ret
         exact ⟨zr, by repeat (first | exact Drawn0.refl _ | apply Drawn0.step)⟩
        ·rw [if_neg c9] at H
         have c9b0 : (a0 == 6) = false := beq_eq_false_iff_ne.mpr c9
         have c9b1 : (a0 != 6) = true := bne_iff_ne.mpr c9
         obtain rfl := Option.some.inj H
         go_wp2
         go_ret
         exact ⟨zr, by repeat (first | exact Drawn0.refl _ | apply Drawn0.step)⟩

/-! cellarref7_Scalar -/
def cellarref7_Scalar.f (k : Nat) (a0 : Int) (a1_0 : Bool) (a1_1 : Int) (a1_2 : Int) (a1_3 : Int) : Option (Bool) := if a0 = 7 then (if a1_0 = true then (if a1_1 = 0 then ((cellarref0_Num.f a1_2 32).bind fun t219 => (if t219 = true then ((cellarref0_Num.f a1_3 32).bind fun t220 => (if t220 = true then (if a1_2 > 0 then (some true) else (some (a1_3 == 0))) else (some false))) else (some false))) else (some false)) else (some false)) else ((cellarref1_Width.f k a0).bind fun t221 => (if t221 > 0 then (if a1_0 = true then (some false) else (if a1_2 = 0 then (if a1_3 = 0 then ((cellarref1_Width.f k a0).bind fun t222 => ((cellarref1_Number.f a1_1 t222).bind fun t223 => (some t223))) else (some false)) else (some false))) else (some false)))
theorem cellarref7_Scalar.mono : ∀ a0 a1 a2 a3 a4 k, LeO (cellarref7_Scalar.f k a0 a1 a2 a3 a4) (cellarref7_Scalar.f (k + 1) a0 a1 a2 a3 a4) := by
 intro a0 a1 a2 a3 a4 k
 unfold cellarref7_Scalar.f
 repeat' first
   | (with_reducible apply cellarref1_Width.mono)
   | (with_reducible apply LeO.refl)
   | (with_reducible apply LeO.none)
   | (with_reducible refine LeO.ite ?_ ?_)
   | (with_reducible refine LeO.bind ?_ (fun _ => ?_))
set_option maxHeartbeats 8000000 in
set_option maxRecDepth 100000 in
theorem cellarref7_Scalar.calls (k : Nat) (a0 : Int) (a1_0 : Bool) (a1_1 : Int) (a1_2 : Int) (a1_3 : Int) (r : Bool) (w : World) (h : cellarref7_Scalar.f k a0 a1_0 a1_1 a1_2 a1_3 = some r) :
  Calls Try.prog 32 #[.int .i64 a0, .agg #[.bool a1_0, .int .i64 a1_1, .int .i64 a1_2, .int .i64 a1_3]] w fun e w' => e = .returned (.bool r) ∧ Below w.heap.size w w' := by
 have hu62 := Try.underlying62
 have HB := Aside0.mk (Below.refl w.heap.size w)
 have H : (if a0 = 7 then (if a1_0 = true then (if a1_1 = 0 then ((cellarref0_Num.f a1_2 32).bind fun t219 => (if t219 = true then ((cellarref0_Num.f a1_3 32).bind fun t220 => (if t220 = true then (if a1_2 > 0 then (some true) else (some (a1_3 == 0))) else (some false))) else (some false))) else (some false)) else (some false)) else ((cellarref1_Width.f k a0).bind fun t221 => (if t221 > 0 then (if a1_0 = true then (some false) else (if a1_2 = 0 then (if a1_3 = 0 then ((cellarref1_Width.f k a0).bind fun t222 => ((cellarref1_Number.f a1_1 t222).bind fun t223 => (some t223))) else (some false)) else (some false))) else (some false)))) = some r := h
 clear h
 by_cases c3 : a0 = 7
 ·rw [if_pos c3] at H
  have c3b0 : (a0 == 7) = true := beq_iff_eq.mpr c3
  have c3b1 : (a0 != 7) = false := bne_eq_false_iff_eq.mpr c3
  clear c3
  by_cases c4 : a1_0 = true
  rotate_left
  ·replace c4 := Bool.eq_false_iff.mpr c4
   subst c4
   have H1 : (some false) = some r := by rw [if_neg (show ¬ (false = true) by decide)] at H; exact H
   clear H
   have H := H1
   clear H1
   obtain rfl := Option.some.inj H
   go_enter Try.func32, Try.ntmps32
   go_wp2_with (first | ((with_reducible refine gate_dst (N := 3) rfl ?_); refine zbox (N := 3) (cs := #[.bool false, .int .i64 a1_1, .int .i64 a1_2, .int .i64 a1_3]) (t := 62) ?_; intro gb218 hg w21 hbox hb; have n0_ := Aside0.mk (below_step (zw0 HB.out) hb); have BK218 := Aside0.mk (hbox); have GW218 := Aside0.mk (zg hg (below_size (zw0 HB.out))); have GE218 := GW218; clear HB; have HB := n0_; clear n0_; clear hb hbox hg; have hcz22_0 := zc BK218.out 0; have hcz22_1 := zc BK218.out 1; have hcz22_2 := zc BK218.out 2; have hcz22_3 := zc BK218.out 3; have hfz22_0 := blk_frozen BK218.out 0; have hfz22_1 := blk_frozen BK218.out 1; have hfz22_2 := blk_frozen BK218.out 2; have hfz22_3 := blk_frozen BK218.out 3))
   repeat (go_quiet (first | ((with_reducible refine gate_dst (N := 3) rfl ?_); refine zbox (N := 3) (cs := #[.bool false, .int .i64 a1_1, .int .i64 a1_2, .int .i64 a1_3]) (t := 62) ?_; intro gb218 hg w21 hbox hb; have n0_ := Aside0.mk (below_step (zw0 HB.out) hb); have BK218 := Aside0.mk (hbox); have GW218 := Aside0.mk (zg hg (below_size (zw0 HB.out))); have GE218 := GW218; clear HB; have HB := n0_; clear n0_; clear hb hbox hg; have hcz22_0 := zc BK218.out 0; have hcz22_1 := zc BK218.out 1; have hcz22_2 := zc BK218.out 2; have hcz22_3 := zc BK218.out 3; have hfz22_0 := blk_frozen BK218.out 0; have hfz22_1 := blk_frozen BK218.out 1; have hfz22_2 := blk_frozen BK218.out 2; have hfz22_3 := blk_frozen BK218.out 3)); try go_wp2_with (first | ((with_reducible refine gate_dst (N := 3) rfl ?_); refine zbox (N := 3) (cs := #[.bool false, .int .i64 a1_1, .int .i64 a1_2, .int .i64 a1_3]) (t := 62) ?_; intro gb218 hg w21 hbox hb; have n0_ := Aside0.mk (below_step (zw0 HB.out) hb); have BK218 := Aside0.mk (hbox); have GW218 := Aside0.mk (zg hg (below_size (zw0 HB.out))); have GE218 := GW218; clear HB; have HB := n0_; clear n0_; clear hb hbox hg; have hcz22_0 := zc BK218.out 0; have hcz22_1 := zc BK218.out 1; have hcz22_2 := zc BK218.out 2; have hcz22_3 := zc BK218.out 3; have hfz22_0 := blk_frozen BK218.out 0; have hfz22_1 := blk_frozen BK218.out 1; have hfz22_2 := blk_frozen BK218.out 2; have hfz22_3 := blk_frozen BK218.out 3)))
   go_ret
   exact ⟨ze, zw1 HB.out GE218.out⟩
  subst c4
  have H1 : (if a1_1 = 0 then ((cellarref0_Num.f a1_2 32).bind fun t219 => (if t219 = true then ((cellarref0_Num.f a1_3 32).bind fun t220 => (if t220 = true then (if a1_2 > 0 then (some true) else (some (a1_3 == 0))) else (some false))) else (some false))) else (some false)) = some r := by rw [if_pos rfl] at H; exact H
  clear H
  have H := H1
  clear H1
  by_cases c5 : a1_1 = 0
  rotate_left
  ·rw [if_neg c5] at H
   have c5b0 : (a1_1 == 0) = false := beq_eq_false_iff_ne.mpr c5
   have c5b1 : (a1_1 != 0) = true := bne_iff_ne.mpr c5
   obtain rfl := Option.some.inj H
   go_enter Try.func32, Try.ntmps32
   go_wp2_with (first | ((with_reducible refine gate_dst (N := 3) rfl ?_); refine zbox (N := 3) (cs := #[.bool true, .int .i64 a1_1, .int .i64 a1_2, .int .i64 a1_3]) (t := 62) ?_; intro gb218 hg w19 hbox hb; have n0_ := Aside0.mk (below_step (zw0 HB.out) hb); have BK218 := Aside0.mk (hbox); have GW218 := Aside0.mk (zg hg (below_size (zw0 HB.out))); have GE218 := GW218; clear HB; have HB := n0_; clear n0_; clear hb hbox hg; have hcz20_0 := zc BK218.out 0; have hcz20_1 := zc BK218.out 1; have hcz20_2 := zc BK218.out 2; have hcz20_3 := zc BK218.out 3; have hfz20_0 := blk_frozen BK218.out 0; have hfz20_1 := blk_frozen BK218.out 1; have hfz20_2 := blk_frozen BK218.out 2; have hfz20_3 := blk_frozen BK218.out 3))
   repeat (go_quiet (first | ((with_reducible refine gate_dst (N := 3) rfl ?_); refine zbox (N := 3) (cs := #[.bool true, .int .i64 a1_1, .int .i64 a1_2, .int .i64 a1_3]) (t := 62) ?_; intro gb218 hg w19 hbox hb; have n0_ := Aside0.mk (below_step (zw0 HB.out) hb); have BK218 := Aside0.mk (hbox); have GW218 := Aside0.mk (zg hg (below_size (zw0 HB.out))); have GE218 := GW218; clear HB; have HB := n0_; clear n0_; clear hb hbox hg; have hcz20_0 := zc BK218.out 0; have hcz20_1 := zc BK218.out 1; have hcz20_2 := zc BK218.out 2; have hcz20_3 := zc BK218.out 3; have hfz20_0 := blk_frozen BK218.out 0; have hfz20_1 := blk_frozen BK218.out 1; have hfz20_2 := blk_frozen BK218.out 2; have hfz20_3 := blk_frozen BK218.out 3)); try go_wp2_with (first | ((with_reducible refine gate_dst (N := 3) rfl ?_); refine zbox (N := 3) (cs := #[.bool true, .int .i64 a1_1, .int .i64 a1_2, .int .i64 a1_3]) (t := 62) ?_; intro gb218 hg w19 hbox hb; have n0_ := Aside0.mk (below_step (zw0 HB.out) hb); have BK218 := Aside0.mk (hbox); have GW218 := Aside0.mk (zg hg (below_size (zw0 HB.out))); have GE218 := GW218; clear HB; have HB := n0_; clear n0_; clear hb hbox hg; have hcz20_0 := zc BK218.out 0; have hcz20_1 := zc BK218.out 1; have hcz20_2 := zc BK218.out 2; have hcz20_3 := zc BK218.out 3; have hfz20_0 := blk_frozen BK218.out 0; have hfz20_1 := blk_frozen BK218.out 1; have hfz20_2 := blk_frozen BK218.out 2; have hfz20_3 := blk_frozen BK218.out 3)))
   go_ret
   exact ⟨ze, zw1 HB.out GE218.out⟩
  rw [if_pos c5] at H
  have c5b0 : (a1_1 == 0) = true := beq_iff_eq.mpr c5
  have c5b1 : (a1_1 != 0) = false := bne_eq_false_iff_eq.mpr c5
  clear c5
  replace H := Option.bind_eq_some_iff.mp H
  obtain ⟨t219, A60, H⟩ := H
  replace H : (if t219 = true then ((cellarref0_Num.f a1_3 32).bind fun t220 => (if t220 = true then (if a1_2 > 0 then (some true) else (some (a1_3 == 0))) else (some false))) else (some false)) = some r := H
  have A6 := Aside0.mk A60
  clear A60
  by_cases c7 : t219 = true
  rotate_left
  ·replace c7 := Bool.eq_false_iff.mpr c7
   subst c7
   have H1 : (some false) = some r := by rw [if_neg (show ¬ (false = true) by decide)] at H; exact H
   clear H
   have H := H1
   clear H1
   obtain rfl := Option.some.inj H
   go_enter Try.func32, Try.ntmps32
   go_wp2_with (first | ((with_reducible refine gate_dst (N := 3) rfl ?_); refine zbox (N := 3) (cs := #[.bool true, .int .i64 a1_1, .int .i64 a1_2, .int .i64 a1_3]) (t := 62) ?_; intro gb218 hg w17 hbox hb; have n0_ := Aside0.mk (below_step (zw0 HB.out) hb); have BK218 := Aside0.mk (hbox); have GW218 := Aside0.mk (zg hg (below_size (zw0 HB.out))); have GE218 := GW218; clear HB; have HB := n0_; clear n0_; clear hb hbox hg; have hcz18_0 := zc BK218.out 0; have hcz18_1 := zc BK218.out 1; have hcz18_2 := zc BK218.out 2; have hcz18_3 := zc BK218.out 3; have hfz18_0 := blk_frozen BK218.out 0; have hfz18_1 := blk_frozen BK218.out 1; have hfz18_2 := blk_frozen BK218.out 2; have hfz18_3 := blk_frozen BK218.out 3) | (go_at_call 18; (with_reducible refine (cellarref0_Num.calls a1_2 32 false _ A6.out).mono ?_); rintro e w' ⟨rfl, ⟨nd, rfl⟩⟩; (try first | exact ⟨rfl, _, World.drewN_drewN _ _ _⟩ | exact ⟨rfl, _, Eq.trans (World.drewN_drewN _ _ _) (congrArg (World.drewN _) (Nat.add_assoc _ _ _))⟩)))
   repeat (go_quiet (first | ((with_reducible refine gate_dst (N := 3) rfl ?_); refine zbox (N := 3) (cs := #[.bool true, .int .i64 a1_1, .int .i64 a1_2, .int .i64 a1_3]) (t := 62) ?_; intro gb218 hg w17 hbox hb; have n0_ := Aside0.mk (below_step (zw0 HB.out) hb); have BK218 := Aside0.mk (hbox); have GW218 := Aside0.mk (zg hg (below_size (zw0 HB.out))); have GE218 := GW218; clear HB; have HB := n0_; clear n0_; clear hb hbox hg; have hcz18_0 := zc BK218.out 0; have hcz18_1 := zc BK218.out 1; have hcz18_2 := zc BK218.out 2; have hcz18_3 := zc BK218.out 3; have hfz18_0 := blk_frozen BK218.out 0; have hfz18_1 := blk_frozen BK218.out 1; have hfz18_2 := blk_frozen BK218.out 2; have hfz18_3 := blk_frozen BK218.out 3) | (go_at_call 18; (with_reducible refine (cellarref0_Num.calls a1_2 32 false _ A6.out).mono ?_); rintro e w' ⟨rfl, ⟨nd, rfl⟩⟩; (try first | exact ⟨rfl, _, World.drewN_drewN _ _ _⟩ | exact ⟨rfl, _, Eq.trans (World.drewN_drewN _ _ _) (congrArg (World.drewN _) (Nat.add_assoc _ _ _))⟩))); try go_wp2_with (first | ((with_reducible refine gate_dst (N := 3) rfl ?_); refine zbox (N := 3) (cs := #[.bool true, .int .i64 a1_1, .int .i64 a1_2, .int .i64 a1_3]) (t := 62) ?_; intro gb218 hg w17 hbox hb; have n0_ := Aside0.mk (below_step (zw0 HB.out) hb); have BK218 := Aside0.mk (hbox); have GW218 := Aside0.mk (zg hg (below_size (zw0 HB.out))); have GE218 := GW218; clear HB; have HB := n0_; clear n0_; clear hb hbox hg; have hcz18_0 := zc BK218.out 0; have hcz18_1 := zc BK218.out 1; have hcz18_2 := zc BK218.out 2; have hcz18_3 := zc BK218.out 3; have hfz18_0 := blk_frozen BK218.out 0; have hfz18_1 := blk_frozen BK218.out 1; have hfz18_2 := blk_frozen BK218.out 2; have hfz18_3 := blk_frozen BK218.out 3) | (go_at_call 18; (with_reducible refine (cellarref0_Num.calls a1_2 32 false _ A6.out).mono ?_); rintro e w' ⟨rfl, ⟨nd, rfl⟩⟩; (try first | exact ⟨rfl, _, World.drewN_drewN _ _ _⟩ | exact ⟨rfl, _, Eq.trans (World.drewN_drewN _ _ _) (congrArg (World.drewN _) (Nat.add_assoc _ _ _))⟩))))
   go_ret
   exact ⟨ze, zw1 HB.out GE218.out⟩
  subst c7
  have H1 : ((cellarref0_Num.f a1_3 32).bind fun t220 => (if t220 = true then (if a1_2 > 0 then (some true) else (some (a1_3 == 0))) else (some false))) = some r := by rw [if_pos rfl] at H; exact H
  clear H
  have H := H1
  clear H1
  replace H := Option.bind_eq_some_iff.mp H
  obtain ⟨t220, A80, H⟩ := H
  replace H : (if t220 = true then (if a1_2 > 0 then (some true) else (some (a1_3 == 0))) else (some false)) = some r := H
  have A8 := Aside0.mk A80
  clear A80
  by_cases c9 : t220 = true
  rotate_left
  ·replace c9 := Bool.eq_false_iff.mpr c9
   subst c9
   have H1 : (some false) = some r := by rw [if_neg (show ¬ (false = true) by decide)] at H; exact H
   clear H
   have H := H1
   clear H1
   obtain rfl := Option.some.inj H
   go_enter Try.func32, Try.ntmps32
   go_wp2_with (first | ((with_reducible refine gate_dst (N := 3) rfl ?_); refine zbox (N := 3) (cs := #[.bool true, .int .i64 a1_1, .int .i64 a1_2, .int .i64 a1_3]) (t := 62) ?_; intro gb218 hg w15 hbox hb; have n0_ := Aside0.mk (below_step (zw0 HB.out) hb); have BK218 := Aside0.mk (hbox); have GW218 := Aside0.mk (zg hg (below_size (zw0 HB.out))); have GE218 := GW218; clear HB; have HB := n0_; clear n0_; clear hb hbox hg; have hcz16_0 := zc BK218.out 0; have hcz16_1 := zc BK218.out 1; have hcz16_2 := zc BK218.out 2; have hcz16_3 := zc BK218.out 3; have hfz16_0 := blk_frozen BK218.out 0; have hfz16_1 := blk_frozen BK218.out 1; have hfz16_2 := blk_frozen BK218.out 2; have hfz16_3 := blk_frozen BK218.out 3) | (go_at_call 18; (with_reducible refine (cellarref0_Num.calls a1_2 32 true _ A6.out).mono ?_); rintro e w' ⟨rfl, ⟨nd, rfl⟩⟩; (try first | exact ⟨rfl, _, World.drewN_drewN _ _ _⟩ | exact ⟨rfl, _, Eq.trans (World.drewN_drewN _ _ _) (congrArg (World.drewN _) (Nat.add_assoc _ _ _))⟩)) | (go_at_call 18; (with_reducible refine (cellarref0_Num.calls a1_3 32 false _ A8.out).mono ?_); rintro e w' ⟨rfl, ⟨nd, rfl⟩⟩; (try first | exact ⟨rfl, _, World.drewN_drewN _ _ _⟩ | exact ⟨rfl, _, Eq.trans (World.drewN_drewN _ _ _) (congrArg (World.drewN _) (Nat.add_assoc _ _ _))⟩)))
   repeat (go_quiet (first | ((with_reducible refine gate_dst (N := 3) rfl ?_); refine zbox (N := 3) (cs := #[.bool true, .int .i64 a1_1, .int .i64 a1_2, .int .i64 a1_3]) (t := 62) ?_; intro gb218 hg w15 hbox hb; have n0_ := Aside0.mk (below_step (zw0 HB.out) hb); have BK218 := Aside0.mk (hbox); have GW218 := Aside0.mk (zg hg (below_size (zw0 HB.out))); have GE218 := GW218; clear HB; have HB := n0_; clear n0_; clear hb hbox hg; have hcz16_0 := zc BK218.out 0; have hcz16_1 := zc BK218.out 1; have hcz16_2 := zc BK218.out 2; have hcz16_3 := zc BK218.out 3; have hfz16_0 := blk_frozen BK218.out 0; have hfz16_1 := blk_frozen BK218.out 1; have hfz16_2 := blk_frozen BK218.out 2; have hfz16_3 := blk_frozen BK218.out 3) | (go_at_call 18; (with_reducible refine (cellarref0_Num.calls a1_2 32 true _ A6.out).mono ?_); rintro e w' ⟨rfl, ⟨nd, rfl⟩⟩; (try first | exact ⟨rfl, _, World.drewN_drewN _ _ _⟩ | exact ⟨rfl, _, Eq.trans (World.drewN_drewN _ _ _) (congrArg (World.drewN _) (Nat.add_assoc _ _ _))⟩)) | (go_at_call 18; (with_reducible refine (cellarref0_Num.calls a1_3 32 false _ A8.out).mono ?_); rintro e w' ⟨rfl, ⟨nd, rfl⟩⟩; (try first | exact ⟨rfl, _, World.drewN_drewN _ _ _⟩ | exact ⟨rfl, _, Eq.trans (World.drewN_drewN _ _ _) (congrArg (World.drewN _) (Nat.add_assoc _ _ _))⟩))); try go_wp2_with (first | ((with_reducible refine gate_dst (N := 3) rfl ?_); refine zbox (N := 3) (cs := #[.bool true, .int .i64 a1_1, .int .i64 a1_2, .int .i64 a1_3]) (t := 62) ?_; intro gb218 hg w15 hbox hb; have n0_ := Aside0.mk (below_step (zw0 HB.out) hb); have BK218 := Aside0.mk (hbox); have GW218 := Aside0.mk (zg hg (below_size (zw0 HB.out))); have GE218 := GW218; clear HB; have HB := n0_; clear n0_; clear hb hbox hg; have hcz16_0 := zc BK218.out 0; have hcz16_1 := zc BK218.out 1; have hcz16_2 := zc BK218.out 2; have hcz16_3 := zc BK218.out 3; have hfz16_0 := blk_frozen BK218.out 0; have hfz16_1 := blk_frozen BK218.out 1; have hfz16_2 := blk_frozen BK218.out 2; have hfz16_3 := blk_frozen BK218.out 3) | (go_at_call 18; (with_reducible refine (cellarref0_Num.calls a1_2 32 true _ A6.out).mono ?_); rintro e w' ⟨rfl, ⟨nd, rfl⟩⟩; (try first | exact ⟨rfl, _, World.drewN_drewN _ _ _⟩ | exact ⟨rfl, _, Eq.trans (World.drewN_drewN _ _ _) (congrArg (World.drewN _) (Nat.add_assoc _ _ _))⟩)) | (go_at_call 18; (with_reducible refine (cellarref0_Num.calls a1_3 32 false _ A8.out).mono ?_); rintro e w' ⟨rfl, ⟨nd, rfl⟩⟩; (try first | exact ⟨rfl, _, World.drewN_drewN _ _ _⟩ | exact ⟨rfl, _, Eq.trans (World.drewN_drewN _ _ _) (congrArg (World.drewN _) (Nat.add_assoc _ _ _))⟩))))
   go_ret
   exact ⟨ze, zw1 HB.out GE218.out⟩
  subst c9
  have H1 : (if a1_2 > 0 then (some true) else (some (a1_3 == 0))) = some r := by rw [if_pos rfl] at H; exact H
  clear H
  have H := H1
  clear H1
  by_cases c10 : a1_2 > 0
  ·rw [if_pos c10] at H
   have c10b0 : decide (0 < a1_2) = true := decide_eq_true c10
   clear c10
   obtain rfl := Option.some.inj H
   go_enter Try.func32, Try.ntmps32
   go_wp2_with (first | ((with_reducible refine gate_dst (N := 3) rfl ?_); refine zbox (N := 3) (cs := #[.bool true, .int .i64 a1_1, .int .i64 a1_2, .int .i64 a1_3]) (t := 62) ?_; intro gb218 hg w11 hbox hb; have n0_ := Aside0.mk (below_step (zw0 HB.out) hb); have BK218 := Aside0.mk (hbox); have GW218 := Aside0.mk (zg hg (below_size (zw0 HB.out))); have GE218 := GW218; clear HB; have HB := n0_; clear n0_; clear hb hbox hg; have hcz12_0 := zc BK218.out 0; have hcz12_1 := zc BK218.out 1; have hcz12_2 := zc BK218.out 2; have hcz12_3 := zc BK218.out 3; have hfz12_0 := blk_frozen BK218.out 0; have hfz12_1 := blk_frozen BK218.out 1; have hfz12_2 := blk_frozen BK218.out 2; have hfz12_3 := blk_frozen BK218.out 3) | (go_at_call 18; (with_reducible refine (cellarref0_Num.calls a1_2 32 true _ A6.out).mono ?_); rintro e w' ⟨rfl, ⟨nd, rfl⟩⟩; (try first | exact ⟨rfl, _, World.drewN_drewN _ _ _⟩ | exact ⟨rfl, _, Eq.trans (World.drewN_drewN _ _ _) (congrArg (World.drewN _) (Nat.add_assoc _ _ _))⟩)) | (go_at_call 18; (with_reducible refine (cellarref0_Num.calls a1_3 32 true _ A8.out).mono ?_); rintro e w' ⟨rfl, ⟨nd, rfl⟩⟩; (try first | exact ⟨rfl, _, World.drewN_drewN _ _ _⟩ | exact ⟨rfl, _, Eq.trans (World.drewN_drewN _ _ _) (congrArg (World.drewN _) (Nat.add_assoc _ _ _))⟩)))
   repeat (go_quiet (first | ((with_reducible refine gate_dst (N := 3) rfl ?_); refine zbox (N := 3) (cs := #[.bool true, .int .i64 a1_1, .int .i64 a1_2, .int .i64 a1_3]) (t := 62) ?_; intro gb218 hg w11 hbox hb; have n0_ := Aside0.mk (below_step (zw0 HB.out) hb); have BK218 := Aside0.mk (hbox); have GW218 := Aside0.mk (zg hg (below_size (zw0 HB.out))); have GE218 := GW218; clear HB; have HB := n0_; clear n0_; clear hb hbox hg; have hcz12_0 := zc BK218.out 0; have hcz12_1 := zc BK218.out 1; have hcz12_2 := zc BK218.out 2; have hcz12_3 := zc BK218.out 3; have hfz12_0 := blk_frozen BK218.out 0; have hfz12_1 := blk_frozen BK218.out 1; have hfz12_2 := blk_frozen BK218.out 2; have hfz12_3 := blk_frozen BK218.out 3) | (go_at_call 18; (with_reducible refine (cellarref0_Num.calls a1_2 32 true _ A6.out).mono ?_); rintro e w' ⟨rfl, ⟨nd, rfl⟩⟩; (try first | exact ⟨rfl, _, World.drewN_drewN _ _ _⟩ | exact ⟨rfl, _, Eq.trans (World.drewN_drewN _ _ _) (congrArg (World.drewN _) (Nat.add_assoc _ _ _))⟩)) | (go_at_call 18; (with_reducible refine (cellarref0_Num.calls a1_3 32 true _ A8.out).mono ?_); rintro e w' ⟨rfl, ⟨nd, rfl⟩⟩; (try first | exact ⟨rfl, _, World.drewN_drewN _ _ _⟩ | exact ⟨rfl, _, Eq.trans (World.drewN_drewN _ _ _) (congrArg (World.drewN _) (Nat.add_assoc _ _ _))⟩))); try go_wp2_with (first | ((with_reducible refine gate_dst (N := 3) rfl ?_); refine zbox (N := 3) (cs := #[.bool true, .int .i64 a1_1, .int .i64 a1_2, .int .i64 a1_3]) (t := 62) ?_; intro gb218 hg w11 hbox hb; have n0_ := Aside0.mk (below_step (zw0 HB.out) hb); have BK218 := Aside0.mk (hbox); have GW218 := Aside0.mk (zg hg (below_size (zw0 HB.out))); have GE218 := GW218; clear HB; have HB := n0_; clear n0_; clear hb hbox hg; have hcz12_0 := zc BK218.out 0; have hcz12_1 := zc BK218.out 1; have hcz12_2 := zc BK218.out 2; have hcz12_3 := zc BK218.out 3; have hfz12_0 := blk_frozen BK218.out 0; have hfz12_1 := blk_frozen BK218.out 1; have hfz12_2 := blk_frozen BK218.out 2; have hfz12_3 := blk_frozen BK218.out 3) | (go_at_call 18; (with_reducible refine (cellarref0_Num.calls a1_2 32 true _ A6.out).mono ?_); rintro e w' ⟨rfl, ⟨nd, rfl⟩⟩; (try first | exact ⟨rfl, _, World.drewN_drewN _ _ _⟩ | exact ⟨rfl, _, Eq.trans (World.drewN_drewN _ _ _) (congrArg (World.drewN _) (Nat.add_assoc _ _ _))⟩)) | (go_at_call 18; (with_reducible refine (cellarref0_Num.calls a1_3 32 true _ A8.out).mono ?_); rintro e w' ⟨rfl, ⟨nd, rfl⟩⟩; (try first | exact ⟨rfl, _, World.drewN_drewN _ _ _⟩ | exact ⟨rfl, _, Eq.trans (World.drewN_drewN _ _ _) (congrArg (World.drewN _) (Nat.add_assoc _ _ _))⟩))))
   go_ret
   exact ⟨ze, zw1 HB.out GE218.out⟩
  rw [if_neg c10] at H
  have c10b0 : decide (0 < a1_2) = false := decide_eq_false c10
  clear c10
  obtain rfl := Option.some.inj H
  go_enter Try.func32, Try.ntmps32
  go_wp2_with (first | ((with_reducible refine gate_dst (N := 3) rfl ?_); refine zbox (N := 3) (cs := #[.bool true, .int .i64 a1_1, .int .i64 a1_2, .int .i64 a1_3]) (t := 62) ?_; intro gb218 hg w13 hbox hb; have n0_ := Aside0.mk (below_step (zw0 HB.out) hb); have BK218 := Aside0.mk (hbox); have GW218 := Aside0.mk (zg hg (below_size (zw0 HB.out))); have GE218 := GW218; clear HB; have HB := n0_; clear n0_; clear hb hbox hg; have hcz14_0 := zc BK218.out 0; have hcz14_1 := zc BK218.out 1; have hcz14_2 := zc BK218.out 2; have hcz14_3 := zc BK218.out 3; have hfz14_0 := blk_frozen BK218.out 0; have hfz14_1 := blk_frozen BK218.out 1; have hfz14_2 := blk_frozen BK218.out 2; have hfz14_3 := blk_frozen BK218.out 3) | (go_at_call 18; (with_reducible refine (cellarref0_Num.calls a1_2 32 true _ A6.out).mono ?_); rintro e w' ⟨rfl, ⟨nd, rfl⟩⟩; (try first | exact ⟨rfl, _, World.drewN_drewN _ _ _⟩ | exact ⟨rfl, _, Eq.trans (World.drewN_drewN _ _ _) (congrArg (World.drewN _) (Nat.add_assoc _ _ _))⟩)) | (go_at_call 18; (with_reducible refine (cellarref0_Num.calls a1_3 32 true _ A8.out).mono ?_); rintro e w' ⟨rfl, ⟨nd, rfl⟩⟩; (try first | exact ⟨rfl, _, World.drewN_drewN _ _ _⟩ | exact ⟨rfl, _, Eq.trans (World.drewN_drewN _ _ _) (congrArg (World.drewN _) (Nat.add_assoc _ _ _))⟩)))
  repeat (go_quiet (first | ((with_reducible refine gate_dst (N := 3) rfl ?_); refine zbox (N := 3) (cs := #[.bool true, .int .i64 a1_1, .int .i64 a1_2, .int .i64 a1_3]) (t := 62) ?_; intro gb218 hg w13 hbox hb; have n0_ := Aside0.mk (below_step (zw0 HB.out) hb); have BK218 := Aside0.mk (hbox); have GW218 := Aside0.mk (zg hg (below_size (zw0 HB.out))); have GE218 := GW218; clear HB; have HB := n0_; clear n0_; clear hb hbox hg; have hcz14_0 := zc BK218.out 0; have hcz14_1 := zc BK218.out 1; have hcz14_2 := zc BK218.out 2; have hcz14_3 := zc BK218.out 3; have hfz14_0 := blk_frozen BK218.out 0; have hfz14_1 := blk_frozen BK218.out 1; have hfz14_2 := blk_frozen BK218.out 2; have hfz14_3 := blk_frozen BK218.out 3) | (go_at_call 18; (with_reducible refine (cellarref0_Num.calls a1_2 32 true _ A6.out).mono ?_); rintro e w' ⟨rfl, ⟨nd, rfl⟩⟩; (try first | exact ⟨rfl, _, World.drewN_drewN _ _ _⟩ | exact ⟨rfl, _, Eq.trans (World.drewN_drewN _ _ _) (congrArg (World.drewN _) (Nat.add_assoc _ _ _))⟩)) | (go_at_call 18; (with_reducible refine (cellarref0_Num.calls a1_3 32 true _ A8.out).mono ?_); rintro e w' ⟨rfl, ⟨nd, rfl⟩⟩; (try first | exact ⟨rfl, _, World.drewN_drewN _ _ _⟩ | exact ⟨rfl, _, Eq.trans (World.drewN_drewN _ _ _) (congrArg (World.drewN _) (Nat.add_assoc _ _ _))⟩))); try go_wp2_with (first | ((with_reducible refine gate_dst (N := 3) rfl ?_); refine zbox (N := 3) (cs := #[.bool true, .int .i64 a1_1, .int .i64 a1_2, .int .i64 a1_3]) (t := 62) ?_; intro gb218 hg w13 hbox hb; have n0_ := Aside0.mk (below_step (zw0 HB.out) hb); have BK218 := Aside0.mk (hbox); have GW218 := Aside0.mk (zg hg (below_size (zw0 HB.out))); have GE218 := GW218; clear HB; have HB := n0_; clear n0_; clear hb hbox hg; have hcz14_0 := zc BK218.out 0; have hcz14_1 := zc BK218.out 1; have hcz14_2 := zc BK218.out 2; have hcz14_3 := zc BK218.out 3; have hfz14_0 := blk_frozen BK218.out 0; have hfz14_1 := blk_frozen BK218.out 1; have hfz14_2 := blk_frozen BK218.out 2; have hfz14_3 := blk_frozen BK218.out 3) | (go_at_call 18; (with_reducible refine (cellarref0_Num.calls a1_2 32 true _ A6.out).mono ?_); rintro e w' ⟨rfl, ⟨nd, rfl⟩⟩; (try first | exact ⟨rfl, _, World.drewN_drewN _ _ _⟩ | exact ⟨rfl, _, Eq.trans (World.drewN_drewN _ _ _) (congrArg (World.drewN _) (Nat.add_assoc _ _ _))⟩)) | (go_at_call 18; (with_reducible refine (cellarref0_Num.calls a1_3 32 true _ A8.out).mono ?_); rintro e w' ⟨rfl, ⟨nd, rfl⟩⟩; (try first | exact ⟨rfl, _, World.drewN_drewN _ _ _⟩ | exact ⟨rfl, _, Eq.trans (World.drewN_drewN _ _ _) (congrArg (World.drewN _) (Nat.add_assoc _ _ _))⟩))))
  go_ret
  exact ⟨ze, zw1 HB.out GE218.out⟩
 ·rw [if_neg c3] at H
  have c3b0 : (a0 == 7) = false := beq_eq_false_iff_ne.mpr c3
  have c3b1 : (a0 != 7) = true := bne_iff_ne.mpr c3
  replace H := Option.bind_eq_some_iff.mp H
  obtain ⟨t221, A230, H⟩ := H
  replace H : (if t221 > 0 then (if a1_0 = true then (some false) else (if a1_2 = 0 then (if a1_3 = 0 then ((cellarref1_Width.f k a0).bind fun t222 => ((cellarref1_Number.f a1_1 t222).bind fun t223 => (some t223))) else (some false)) else (some false))) else (some false)) = some r := H
  have A23 := Aside0.mk A230
  clear A230
  by_cases c24 : t221 > 0
  ·rw [if_pos c24] at H
   have c24b0 : decide (0 < t221) = true := decide_eq_true c24
   clear c24
   by_cases c25 : a1_0 = true
   ·subst c25
    have H1 : (some false) = some r := by rw [if_pos rfl] at H; exact H
    clear H
    have H := H1
    clear H1
    obtain rfl := Option.some.inj H
    go_enter Try.func32, Try.ntmps32
    go_wp2_with (first | ((with_reducible refine gate_dst (N := 3) rfl ?_); refine zbox (N := 3) (cs := #[.bool true, .int .i64 a1_1, .int .i64 a1_2, .int .i64 a1_3]) (t := 62) ?_; intro gb218 hg w26 hbox hb; have n0_ := Aside0.mk (below_step (zw0 HB.out) hb); have BK218 := Aside0.mk (hbox); have GW218 := Aside0.mk (zg hg (below_size (zw0 HB.out))); have GE218 := GW218; clear HB; have HB := n0_; clear n0_; clear hb hbox hg) | (go_at_call 70; (with_reducible refine (cellarref1_Width.calls k a0 t221 _ A23.out).mono ?_); rintro e w' ⟨rfl, ⟨nd, rfl⟩⟩; (try first | exact ⟨rfl, _, World.drewN_drewN _ _ _⟩ | exact ⟨rfl, _, Eq.trans (World.drewN_drewN _ _ _) (congrArg (World.drewN _) (Nat.add_assoc _ _ _))⟩); have hcz27_0 := zc BK218.out 0; have hcz27_1 := zc BK218.out 1; have hcz27_2 := zc BK218.out 2; have hcz27_3 := zc BK218.out 3; have hfz27_0 := blk_frozen BK218.out 0; have hfz27_1 := blk_frozen BK218.out 1; have hfz27_2 := blk_frozen BK218.out 2; have hfz27_3 := blk_frozen BK218.out 3))
    repeat (go_quiet (first | ((with_reducible refine gate_dst (N := 3) rfl ?_); refine zbox (N := 3) (cs := #[.bool true, .int .i64 a1_1, .int .i64 a1_2, .int .i64 a1_3]) (t := 62) ?_; intro gb218 hg w26 hbox hb; have n0_ := Aside0.mk (below_step (zw0 HB.out) hb); have BK218 := Aside0.mk (hbox); have GW218 := Aside0.mk (zg hg (below_size (zw0 HB.out))); have GE218 := GW218; clear HB; have HB := n0_; clear n0_; clear hb hbox hg) | (go_at_call 70; (with_reducible refine (cellarref1_Width.calls k a0 t221 _ A23.out).mono ?_); rintro e w' ⟨rfl, ⟨nd, rfl⟩⟩; (try first | exact ⟨rfl, _, World.drewN_drewN _ _ _⟩ | exact ⟨rfl, _, Eq.trans (World.drewN_drewN _ _ _) (congrArg (World.drewN _) (Nat.add_assoc _ _ _))⟩); have hcz27_0 := zc BK218.out 0; have hcz27_1 := zc BK218.out 1; have hcz27_2 := zc BK218.out 2; have hcz27_3 := zc BK218.out 3; have hfz27_0 := blk_frozen BK218.out 0; have hfz27_1 := blk_frozen BK218.out 1; have hfz27_2 := blk_frozen BK218.out 2; have hfz27_3 := blk_frozen BK218.out 3)); try go_wp2_with (first | ((with_reducible refine gate_dst (N := 3) rfl ?_); refine zbox (N := 3) (cs := #[.bool true, .int .i64 a1_1, .int .i64 a1_2, .int .i64 a1_3]) (t := 62) ?_; intro gb218 hg w26 hbox hb; have n0_ := Aside0.mk (below_step (zw0 HB.out) hb); have BK218 := Aside0.mk (hbox); have GW218 := Aside0.mk (zg hg (below_size (zw0 HB.out))); have GE218 := GW218; clear HB; have HB := n0_; clear n0_; clear hb hbox hg) | (go_at_call 70; (with_reducible refine (cellarref1_Width.calls k a0 t221 _ A23.out).mono ?_); rintro e w' ⟨rfl, ⟨nd, rfl⟩⟩; (try first | exact ⟨rfl, _, World.drewN_drewN _ _ _⟩ | exact ⟨rfl, _, Eq.trans (World.drewN_drewN _ _ _) (congrArg (World.drewN _) (Nat.add_assoc _ _ _))⟩); have hcz27_0 := zc BK218.out 0; have hcz27_1 := zc BK218.out 1; have hcz27_2 := zc BK218.out 2; have hcz27_3 := zc BK218.out 3; have hfz27_0 := blk_frozen BK218.out 0; have hfz27_1 := blk_frozen BK218.out 1; have hfz27_2 := blk_frozen BK218.out 2; have hfz27_3 := blk_frozen BK218.out 3)))
    go_ret
    exact ⟨ze, zw1 HB.out GE218.out⟩
   replace c25 := Bool.eq_false_iff.mpr c25
   subst c25
   have H1 : (if a1_2 = 0 then (if a1_3 = 0 then ((cellarref1_Width.f k a0).bind fun t222 => ((cellarref1_Number.f a1_1 t222).bind fun t223 => (some t223))) else (some false)) else (some false)) = some r := by rw [if_neg (show ¬ (false = true) by decide)] at H; exact H
   clear H
   have H := H1
   clear H1
   by_cases c28 : a1_2 = 0
   rotate_left
   ·rw [if_neg c28] at H
    have c28b0 : (a1_2 == 0) = false := beq_eq_false_iff_ne.mpr c28
    have c28b1 : (a1_2 != 0) = true := bne_iff_ne.mpr c28
    obtain rfl := Option.some.inj H
    go_enter Try.func32, Try.ntmps32
    go_wp2_with (first | ((with_reducible refine gate_dst (N := 3) rfl ?_); refine zbox (N := 3) (cs := #[.bool false, .int .i64 a1_1, .int .i64 a1_2, .int .i64 a1_3]) (t := 62) ?_; intro gb218 hg w36 hbox hb; have n0_ := Aside0.mk (below_step (zw0 HB.out) hb); have BK218 := Aside0.mk (hbox); have GW218 := Aside0.mk (zg hg (below_size (zw0 HB.out))); have GE218 := GW218; clear HB; have HB := n0_; clear n0_; clear hb hbox hg) | (go_at_call 70; (with_reducible refine (cellarref1_Width.calls k a0 t221 _ A23.out).mono ?_); rintro e w' ⟨rfl, ⟨nd, rfl⟩⟩; (try first | exact ⟨rfl, _, World.drewN_drewN _ _ _⟩ | exact ⟨rfl, _, Eq.trans (World.drewN_drewN _ _ _) (congrArg (World.drewN _) (Nat.add_assoc _ _ _))⟩); have hcz37_0 := zc BK218.out 0; have hcz37_1 := zc BK218.out 1; have hcz37_2 := zc BK218.out 2; have hcz37_3 := zc BK218.out 3; have hfz37_0 := blk_frozen BK218.out 0; have hfz37_1 := blk_frozen BK218.out 1; have hfz37_2 := blk_frozen BK218.out 2; have hfz37_3 := blk_frozen BK218.out 3))
    repeat (go_quiet (first | ((with_reducible refine gate_dst (N := 3) rfl ?_); refine zbox (N := 3) (cs := #[.bool false, .int .i64 a1_1, .int .i64 a1_2, .int .i64 a1_3]) (t := 62) ?_; intro gb218 hg w36 hbox hb; have n0_ := Aside0.mk (below_step (zw0 HB.out) hb); have BK218 := Aside0.mk (hbox); have GW218 := Aside0.mk (zg hg (below_size (zw0 HB.out))); have GE218 := GW218; clear HB; have HB := n0_; clear n0_; clear hb hbox hg) | (go_at_call 70; (with_reducible refine (cellarref1_Width.calls k a0 t221 _ A23.out).mono ?_); rintro e w' ⟨rfl, ⟨nd, rfl⟩⟩; (try first | exact ⟨rfl, _, World.drewN_drewN _ _ _⟩ | exact ⟨rfl, _, Eq.trans (World.drewN_drewN _ _ _) (congrArg (World.drewN _) (Nat.add_assoc _ _ _))⟩); have hcz37_0 := zc BK218.out 0; have hcz37_1 := zc BK218.out 1; have hcz37_2 := zc BK218.out 2; have hcz37_3 := zc BK218.out 3; have hfz37_0 := blk_frozen BK218.out 0; have hfz37_1 := blk_frozen BK218.out 1; have hfz37_2 := blk_frozen BK218.out 2; have hfz37_3 := blk_frozen BK218.out 3)); try go_wp2_with (first | ((with_reducible refine gate_dst (N := 3) rfl ?_); refine zbox (N := 3) (cs := #[.bool false, .int .i64 a1_1, .int .i64 a1_2, .int .i64 a1_3]) (t := 62) ?_; intro gb218 hg w36 hbox hb; have n0_ := Aside0.mk (below_step (zw0 HB.out) hb); have BK218 := Aside0.mk (hbox); have GW218 := Aside0.mk (zg hg (below_size (zw0 HB.out))); have GE218 := GW218; clear HB; have HB := n0_; clear n0_; clear hb hbox hg) | (go_at_call 70; (with_reducible refine (cellarref1_Width.calls k a0 t221 _ A23.out).mono ?_); rintro e w' ⟨rfl, ⟨nd, rfl⟩⟩; (try first | exact ⟨rfl, _, World.drewN_drewN _ _ _⟩ | exact ⟨rfl, _, Eq.trans (World.drewN_drewN _ _ _) (congrArg (World.drewN _) (Nat.add_assoc _ _ _))⟩); have hcz37_0 := zc BK218.out 0; have hcz37_1 := zc BK218.out 1; have hcz37_2 := zc BK218.out 2; have hcz37_3 := zc BK218.out 3; have hfz37_0 := blk_frozen BK218.out 0; have hfz37_1 := blk_frozen BK218.out 1; have hfz37_2 := blk_frozen BK218.out 2; have hfz37_3 := blk_frozen BK218.out 3)))
    go_ret
    exact ⟨ze, zw1 HB.out GE218.out⟩
   rw [if_pos c28] at H
   have c28b0 : (a1_2 == 0) = true := beq_iff_eq.mpr c28
   have c28b1 : (a1_2 != 0) = false := bne_eq_false_iff_eq.mpr c28
   clear c28
   by_cases c29 : a1_3 = 0
   rotate_left
   ·rw [if_neg c29] at H
    have c29b0 : (a1_3 == 0) = false := beq_eq_false_iff_ne.mpr c29
    have c29b1 : (a1_3 != 0) = true := bne_iff_ne.mpr c29
    obtain rfl := Option.some.inj H
    go_enter Try.func32, Try.ntmps32
    go_wp2_with (first | ((with_reducible refine gate_dst (N := 3) rfl ?_); refine zbox (N := 3) (cs := #[.bool false, .int .i64 a1_1, .int .i64 a1_2, .int .i64 a1_3]) (t := 62) ?_; intro gb218 hg w34 hbox hb; have n0_ := Aside0.mk (below_step (zw0 HB.out) hb); have BK218 := Aside0.mk (hbox); have GW218 := Aside0.mk (zg hg (below_size (zw0 HB.out))); have GE218 := GW218; clear HB; have HB := n0_; clear n0_; clear hb hbox hg) | (go_at_call 70; (with_reducible refine (cellarref1_Width.calls k a0 t221 _ A23.out).mono ?_); rintro e w' ⟨rfl, ⟨nd, rfl⟩⟩; (try first | exact ⟨rfl, _, World.drewN_drewN _ _ _⟩ | exact ⟨rfl, _, Eq.trans (World.drewN_drewN _ _ _) (congrArg (World.drewN _) (Nat.add_assoc _ _ _))⟩); have hcz35_0 := zc BK218.out 0; have hcz35_1 := zc BK218.out 1; have hcz35_2 := zc BK218.out 2; have hcz35_3 := zc BK218.out 3; have hfz35_0 := blk_frozen BK218.out 0; have hfz35_1 := blk_frozen BK218.out 1; have hfz35_2 := blk_frozen BK218.out 2; have hfz35_3 := blk_frozen BK218.out 3))
    repeat (go_quiet (first | ((with_reducible refine gate_dst (N := 3) rfl ?_); refine zbox (N := 3) (cs := #[.bool false, .int .i64 a1_1, .int .i64 a1_2, .int .i64 a1_3]) (t := 62) ?_; intro gb218 hg w34 hbox hb; have n0_ := Aside0.mk (below_step (zw0 HB.out) hb); have BK218 := Aside0.mk (hbox); have GW218 := Aside0.mk (zg hg (below_size (zw0 HB.out))); have GE218 := GW218; clear HB; have HB := n0_; clear n0_; clear hb hbox hg) | (go_at_call 70; (with_reducible refine (cellarref1_Width.calls k a0 t221 _ A23.out).mono ?_); rintro e w' ⟨rfl, ⟨nd, rfl⟩⟩; (try first | exact ⟨rfl, _, World.drewN_drewN _ _ _⟩ | exact ⟨rfl, _, Eq.trans (World.drewN_drewN _ _ _) (congrArg (World.drewN _) (Nat.add_assoc _ _ _))⟩); have hcz35_0 := zc BK218.out 0; have hcz35_1 := zc BK218.out 1; have hcz35_2 := zc BK218.out 2; have hcz35_3 := zc BK218.out 3; have hfz35_0 := blk_frozen BK218.out 0; have hfz35_1 := blk_frozen BK218.out 1; have hfz35_2 := blk_frozen BK218.out 2; have hfz35_3 := blk_frozen BK218.out 3)); try go_wp2_with (first | ((with_reducible refine gate_dst (N := 3) rfl ?_); refine zbox (N := 3) (cs := #[.bool false, .int .i64 a1_1, .int .i64 a1_2, .int .i64 a1_3]) (t := 62) ?_; intro gb218 hg w34 hbox hb; have n0_ := Aside0.mk (below_step (zw0 HB.out) hb); have BK218 := Aside0.mk (hbox); have GW218 := Aside0.mk (zg hg (below_size (zw0 HB.out))); have GE218 := GW218; clear HB; have HB := n0_; clear n0_; clear hb hbox hg) | (go_at_call 70; (with_reducible refine (cellarref1_Width.calls k a0 t221 _ A23.out).mono ?_); rintro e w' ⟨rfl, ⟨nd, rfl⟩⟩; (try first | exact ⟨rfl, _, World.drewN_drewN _ _ _⟩ | exact ⟨rfl, _, Eq.trans (World.drewN_drewN _ _ _) (congrArg (World.drewN _) (Nat.add_assoc _ _ _))⟩); have hcz35_0 := zc BK218.out 0; have hcz35_1 := zc BK218.out 1; have hcz35_2 := zc BK218.out 2; have hcz35_3 := zc BK218.out 3; have hfz35_0 := blk_frozen BK218.out 0; have hfz35_1 := blk_frozen BK218.out 1; have hfz35_2 := blk_frozen BK218.out 2; have hfz35_3 := blk_frozen BK218.out 3)))
    go_ret
    exact ⟨ze, zw1 HB.out GE218.out⟩
   rw [if_pos c29] at H
   have c29b0 : (a1_3 == 0) = true := beq_iff_eq.mpr c29
   have c29b1 : (a1_3 != 0) = false := bne_eq_false_iff_eq.mpr c29
   clear c29
   replace H := Option.bind_eq_some_iff.mp H
   obtain ⟨t222, A300, H⟩ := H
   replace H : ((cellarref1_Number.f a1_1 t222).bind fun t223 => (some t223)) = some r := H
   have A30 := Aside0.mk A300
   clear A300
   obtain rfl : t221 = t222 := by have h1_ := A23.out; rw [A30.out] at h1_; exact (Option.some.inj h1_).symm
   replace H := Option.bind_eq_some_iff.mp H
   obtain ⟨t223, A310, H⟩ := H
   replace H : (some t223) = some r := H
   have A31 := Aside0.mk A310
   clear A310
   obtain rfl := Option.some.inj H
   go_enter Try.func32, Try.ntmps32
   go_wp2_with (first | ((with_reducible refine gate_dst (N := 3) rfl ?_); refine zbox (N := 3) (cs := #[.bool false, .int .i64 a1_1, .int .i64 a1_2, .int .i64 a1_3]) (t := 62) ?_; intro gb218 hg w32 hbox hb; have n0_ := Aside0.mk (below_step (zw0 HB.out) hb); have BK218 := Aside0.mk (hbox); have GW218 := Aside0.mk (zg hg (below_size (zw0 HB.out))); have GE218 := GW218; clear HB; have HB := n0_; clear n0_; clear hb hbox hg) | (go_at_call 70; (with_reducible refine (cellarref1_Width.calls k a0 t221 _ A23.out).mono ?_); rintro e w' ⟨rfl, ⟨nd, rfl⟩⟩; (try first | exact ⟨rfl, _, World.drewN_drewN _ _ _⟩ | exact ⟨rfl, _, Eq.trans (World.drewN_drewN _ _ _) (congrArg (World.drewN _) (Nat.add_assoc _ _ _))⟩); have hcz33_0 := zc BK218.out 0; have hcz33_1 := zc BK218.out 1; have hcz33_2 := zc BK218.out 2; have hcz33_3 := zc BK218.out 3; have hfz33_0 := blk_frozen BK218.out 0; have hfz33_1 := blk_frozen BK218.out 1; have hfz33_2 := blk_frozen BK218.out 2; have hfz33_3 := blk_frozen BK218.out 3) | (go_at_call 70; (with_reducible refine (cellarref1_Width.calls k a0 t221 _ A30.out).mono ?_); rintro e w' ⟨rfl, ⟨nd, rfl⟩⟩; (try first | exact ⟨rfl, _, World.drewN_drewN _ _ _⟩ | exact ⟨rfl, _, Eq.trans (World.drewN_drewN _ _ _) (congrArg (World.drewN _) (Nat.add_assoc _ _ _))⟩)) | (go_at_call 46; (with_reducible refine (cellarref1_Number.calls a1_1 t221 t223 _ A31.out).mono ?_); rintro e w' ⟨rfl, ⟨nd, rfl⟩⟩; (try first | exact ⟨rfl, _, World.drewN_drewN _ _ _⟩ | exact ⟨rfl, _, Eq.trans (World.drewN_drewN _ _ _) (congrArg (World.drewN _) (Nat.add_assoc _ _ _))⟩)))
   repeat (go_quiet (first | ((with_reducible refine gate_dst (N := 3) rfl ?_); refine zbox (N := 3) (cs := #[.bool false, .int .i64 a1_1, .int .i64 a1_2, .int .i64 a1_3]) (t := 62) ?_; intro gb218 hg w32 hbox hb; have n0_ := Aside0.mk (below_step (zw0 HB.out) hb); have BK218 := Aside0.mk (hbox); have GW218 := Aside0.mk (zg hg (below_size (zw0 HB.out))); have GE218 := GW218; clear HB; have HB := n0_; clear n0_; clear hb hbox hg) | (go_at_call 70; (with_reducible refine (cellarref1_Width.calls k a0 t221 _ A23.out).mono ?_); rintro e w' ⟨rfl, ⟨nd, rfl⟩⟩; (try first | exact ⟨rfl, _, World.drewN_drewN _ _ _⟩ | exact ⟨rfl, _, Eq.trans (World.drewN_drewN _ _ _) (congrArg (World.drewN _) (Nat.add_assoc _ _ _))⟩); have hcz33_0 := zc BK218.out 0; have hcz33_1 := zc BK218.out 1; have hcz33_2 := zc BK218.out 2; have hcz33_3 := zc BK218.out 3; have hfz33_0 := blk_frozen BK218.out 0; have hfz33_1 := blk_frozen BK218.out 1; have hfz33_2 := blk_frozen BK218.out 2; have hfz33_3 := blk_frozen BK218.out 3) | (go_at_call 70; (with_reducible refine (cellarref1_Width.calls k a0 t221 _ A30.out).mono ?_); rintro e w' ⟨rfl, ⟨nd, rfl⟩⟩; (try first | exact ⟨rfl, _, World.drewN_drewN _ _ _⟩ | exact ⟨rfl, _, Eq.trans (World.drewN_drewN _ _ _) (congrArg (World.drewN _) (Nat.add_assoc _ _ _))⟩)) | (go_at_call 46; (with_reducible refine (cellarref1_Number.calls a1_1 t221 t223 _ A31.out).mono ?_); rintro e w' ⟨rfl, ⟨nd, rfl⟩⟩; (try first | exact ⟨rfl, _, World.drewN_drewN _ _ _⟩ | exact ⟨rfl, _, Eq.trans (World.drewN_drewN _ _ _) (congrArg (World.drewN _) (Nat.add_assoc _ _ _))⟩))); try go_wp2_with (first | ((with_reducible refine gate_dst (N := 3) rfl ?_); refine zbox (N := 3) (cs := #[.bool false, .int .i64 a1_1, .int .i64 a1_2, .int .i64 a1_3]) (t := 62) ?_; intro gb218 hg w32 hbox hb; have n0_ := Aside0.mk (below_step (zw0 HB.out) hb); have BK218 := Aside0.mk (hbox); have GW218 := Aside0.mk (zg hg (below_size (zw0 HB.out))); have GE218 := GW218; clear HB; have HB := n0_; clear n0_; clear hb hbox hg) | (go_at_call 70; (with_reducible refine (cellarref1_Width.calls k a0 t221 _ A23.out).mono ?_); rintro e w' ⟨rfl, ⟨nd, rfl⟩⟩; (try first | exact ⟨rfl, _, World.drewN_drewN _ _ _⟩ | exact ⟨rfl, _, Eq.trans (World.drewN_drewN _ _ _) (congrArg (World.drewN _) (Nat.add_assoc _ _ _))⟩); have hcz33_0 := zc BK218.out 0; have hcz33_1 := zc BK218.out 1; have hcz33_2 := zc BK218.out 2; have hcz33_3 := zc BK218.out 3; have hfz33_0 := blk_frozen BK218.out 0; have hfz33_1 := blk_frozen BK218.out 1; have hfz33_2 := blk_frozen BK218.out 2; have hfz33_3 := blk_frozen BK218.out 3) | (go_at_call 70; (with_reducible refine (cellarref1_Width.calls k a0 t221 _ A30.out).mono ?_); rintro e w' ⟨rfl, ⟨nd, rfl⟩⟩; (try first | exact ⟨rfl, _, World.drewN_drewN _ _ _⟩ | exact ⟨rfl, _, Eq.trans (World.drewN_drewN _ _ _) (congrArg (World.drewN _) (Nat.add_assoc _ _ _))⟩)) | (go_at_call 46; (with_reducible refine (cellarref1_Number.calls a1_1 t221 t223 _ A31.out).mono ?_); rintro e w' ⟨rfl, ⟨nd, rfl⟩⟩; (try first | exact ⟨rfl, _, World.drewN_drewN _ _ _⟩ | exact ⟨rfl, _, Eq.trans (World.drewN_drewN _ _ _) (congrArg (World.drewN _) (Nat.add_assoc _ _ _))⟩))))
   go_ret
   exact ⟨ze, zw1 HB.out GE218.out⟩
  ·rw [if_neg c24] at H
   have c24b0 : decide (0 < t221) = false := decide_eq_false c24
   clear c24
   obtain rfl := Option.some.inj H
   go_enter Try.func32, Try.ntmps32
   go_wp2_with (first | ((with_reducible refine gate_dst (N := 3) rfl ?_); refine zbox (N := 3) (cs := #[.bool a1_0, .int .i64 a1_1, .int .i64 a1_2, .int .i64 a1_3]) (t := 62) ?_; intro gb218 hg w38 hbox hb; have n0_ := Aside0.mk (below_step (zw0 HB.out) hb); have BK218 := Aside0.mk (hbox); have GW218 := Aside0.mk (zg hg (below_size (zw0 HB.out))); have GE218 := GW218; clear HB; have HB := n0_; clear n0_; clear hb hbox hg) | (go_at_call 70; (with_reducible refine (cellarref1_Width.calls k a0 t221 _ A23.out).mono ?_); rintro e w' ⟨rfl, ⟨nd, rfl⟩⟩; (try first | exact ⟨rfl, _, World.drewN_drewN _ _ _⟩ | exact ⟨rfl, _, Eq.trans (World.drewN_drewN _ _ _) (congrArg (World.drewN _) (Nat.add_assoc _ _ _))⟩)))
   repeat (go_quiet (first | ((with_reducible refine gate_dst (N := 3) rfl ?_); refine zbox (N := 3) (cs := #[.bool a1_0, .int .i64 a1_1, .int .i64 a1_2, .int .i64 a1_3]) (t := 62) ?_; intro gb218 hg w38 hbox hb; have n0_ := Aside0.mk (below_step (zw0 HB.out) hb); have BK218 := Aside0.mk (hbox); have GW218 := Aside0.mk (zg hg (below_size (zw0 HB.out))); have GE218 := GW218; clear HB; have HB := n0_; clear n0_; clear hb hbox hg) | (go_at_call 70; (with_reducible refine (cellarref1_Width.calls k a0 t221 _ A23.out).mono ?_); rintro e w' ⟨rfl, ⟨nd, rfl⟩⟩; (try first | exact ⟨rfl, _, World.drewN_drewN _ _ _⟩ | exact ⟨rfl, _, Eq.trans (World.drewN_drewN _ _ _) (congrArg (World.drewN _) (Nat.add_assoc _ _ _))⟩))); try go_wp2_with (first | ((with_reducible refine gate_dst (N := 3) rfl ?_); refine zbox (N := 3) (cs := #[.bool a1_0, .int .i64 a1_1, .int .i64 a1_2, .int .i64 a1_3]) (t := 62) ?_; intro gb218 hg w38 hbox hb; have n0_ := Aside0.mk (below_step (zw0 HB.out) hb); have BK218 := Aside0.mk (hbox); have GW218 := Aside0.mk (zg hg (below_size (zw0 HB.out))); have GE218 := GW218; clear HB; have HB := n0_; clear n0_; clear hb hbox hg) | (go_at_call 70; (with_reducible refine (cellarref1_Width.calls k a0 t221 _ A23.out).mono ?_); rintro e w' ⟨rfl, ⟨nd, rfl⟩⟩; (try first | exact ⟨rfl, _, World.drewN_drewN _ _ _⟩ | exact ⟨rfl, _, Eq.trans (World.drewN_drewN _ _ _) (congrArg (World.drewN _) (Nat.add_assoc _ _ _))⟩))))
   go_ret
   exact ⟨ze, zw1 HB.out GE218.out⟩

end Go.Proofs.Ytjoplkillkhiaaa.St
