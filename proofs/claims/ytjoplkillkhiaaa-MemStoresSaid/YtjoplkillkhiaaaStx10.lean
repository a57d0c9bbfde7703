-- Written by this session's own edition of the print.
import Derived.Test.YtjoplkillkhiaaaStx0
import Derived.Test.YtjoplkillkhiaaaStx4
import Derived.Test.YtjoplkillkhiaaaStx9
import Derived.Test.YtjoplkillkhiaaaZSq
import Derived.Test.YtjoplkillkhiaaaZSq2
import Derived.Test.YtjoplkillkhiaaaZSq3
namespace Go.Proofs.Ytjoplkillkhiaaa.St
open Go.RowKit Go.Proofs.Ytjoplkillkhiaaa.Fn Go.Proofs.YtjoplkillkhiaaaW.PrintWords Go.Proofs.YtjoplkillkhiaaaW.PrintLast Go.Proofs.YtjoplkillkhiaaaW.PrintMore
attribute [local go_sem] max2_int min2_int max_two min_two max_three min_three max_four min_four   -- for this text's walks alone
set_option linter.unusedVariables false
set_option linter.unusedSimpArgs false

/-! cellarref0_EqBlocks -/
def cellarref0_EqBlocks.l0 : Nat → List (S76) → List (S76) → Int → Option (Bool)
 | 0, _, _, _ => none
 | k + 1, x0, x1, x5 => if x5 < (x0.length : Int) then (if 0 ≤ x5 then (if x5 < (x1.length : Int) then ((cellarref0_EqBlock.f k ((rd_T76 x0 x5).f0) ((rd_T76 x0 x5).f1) ((rd_T76 x1 x5).f0) ((rd_T76 x1 x5).f1)).bind fun t267 => (if t267 = true then (cellarref0_EqBlocks.l0 k x0 x1 (wrap64 (x5 + 1))) else (some false))) else (none)) else (none)) else (some true)
def cellarref0_EqBlocks.f (k : Nat) (l0 : List (S76)) (l1 : List (S76)) : Option (Bool) := if (l0.length : Int) = (l1.length : Int) then (cellarref0_EqBlocks.l0 k l0 l1 0) else (some false)
theorem cellarref0_EqBlocks.mono_l : ∀ k, (∀ y0 y1 y2, LeO (cellarref0_EqBlocks.l0 k y0 y1 y2) (cellarref0_EqBlocks.l0 (k + 1) y0 y1 y2))
 | 0 => fun _ _ _ r h => by simp [cellarref0_EqBlocks.l0] at h
 | k + 1 => by
  have ih0 := cellarref0_EqBlocks.mono_l k
  ·intro y0 y1 y2
   unfold cellarref0_EqBlocks.l0
   repeat' first
   | (with_reducible apply ih0)
   | (with_reducible apply cellarref0_EqBlock.mono)
   | (with_reducible apply LeO.refl)
   | (with_reducible apply LeO.none)
   | (with_reducible refine LeO.ite ?_ ?_)
   | (with_reducible refine LeO.bind ?_ (fun _ => ?_))
theorem cellarref0_EqBlocks.mono : ∀ a0 a1 k, LeO (cellarref0_EqBlocks.f k a0 a1) (cellarref0_EqBlocks.f (k + 1) a0 a1) := by
 intro a0 a1 k
 have ih0 := cellarref0_EqBlocks.mono_l k
 unfold cellarref0_EqBlocks.f
 repeat' first
   | (with_reducible apply ih0)
   | (with_reducible apply cellarref0_EqBlock.mono)
   | (with_reducible apply LeO.refl)
   | (with_reducible apply LeO.none)
   | (with_reducible refine LeO.ite ?_ ?_)
   | (with_reducible refine LeO.bind ?_ (fun _ => ?_))
def cellarref0_EqBlocks.T6 : Bool × List (List Nat × List Nat) := (true, [([], []), ([], []), ([0, 1], [0, 1]), ([2], [2]), ([], []), ([], []), ([4, 5], [4, 5]), ([6], [6]), ([3, 7], [3, 7]), ([8], [8])])
def cellarref0_EqBlocks.B6 : List Nat := [0, 0, 3, 7, 0, 0, 48, 112, 255, 511]
theorem cellarref0_EqBlocks.tab6 : rtab .any (opsOf Try.f36 6) = cellarref0_EqBlocks.T6 := by kernel_rfl
theorem cellarref0_EqBlocks.bits6 : waitsOk cellarref0_EqBlocks.T6.2 cellarref0_EqBlocks.B6 = true := by kernel_rfl
set_option maxHeartbeats 8000000 in
set_option maxRecDepth 100000 in
theorem cellarref0_EqBlocks.calls (k : Nat) (A0 : Option Addr) (c0 : Nat) (l0 : List (S76)) (A1 : Option Addr) (c1 : Nat) (l1 : List (S76)) (r : Bool) (w : World) (hr0 : Kd.C k76 w A0 l0.length l0) (hc0 : l0.length ≤ c0) (hr1 : Kd.C k76 w A1 l1.length l1) (hc1 : l1.length ≤ c1) (h : cellarref0_EqBlocks.f k l0 l1 = some r) :
  Calls Try.prog 36 #[.slice A0 l0.length c0, .slice A1 l1.length c1] w fun e w' => e = .returned (.bool r) ∧ Below w.heap.size w w' := by
 have hu76 := Try.underlying76
 have HR0 := Aside0.mk hr0
 have HC0 := Aside0.mk hc0
 clear hr0 hc0
 have HR1 := Aside0.mk hr1
 have HC1 := Aside0.mk hc1
 clear hr1 hc1
 have HB := Aside0.mk (Below.refl w.heap.size w)
 have H : (if (l0.length : Int) = (l1.length : Int) then (cellarref0_EqBlocks.l0 k l0 l1 0) else (some false)) = some r := h
 clear h
 by_cases c3 : (l0.length : Int) = (l1.length : Int)
 ·rw [if_pos c3] at H
  have c3b0 : ((l0.length : Int) == (l1.length : Int)) = true := beq_iff_eq.mpr c3
  have c3b1 : ((l0.length : Int) != (l1.length : Int)) = false := bne_eq_false_iff_eq.mpr c3
  have c3b2 : (l0.length == l1.length) = true := by first | simpa using c3 | (simp at c3 ⊢; omega)
  clear c3
  have H' := Aside0.mk H
  clear H
  go_enter Try.func36, Try.ntmps36
  go_wp2
  go_loopg [5] k (fun kq v5 w' => ∃ (x5_1 : Int), v5 = .int .i64 x5_1 ∧ Aside0 (cellarref0_EqBlocks.l0 kq l0 l1 x5_1 = some r) ∧ Aside0 (kq ≤ k) ∧ Aside0 (Below w.heap.size w w'))
  case atStart => exact ⟨(0), (zr), H', ⟨Nat.le_refl _⟩, ⟨zw0 HB.out⟩⟩
  case round =>
   clear H'
   try clear c1; try clear p2; try clear c3; try clear c3b0; try clear c3b1; try clear c3b2
   obtain ⟨x5_1, rfl, HA, HK1, HB⟩ := hrel
   cases gk with
   | zero => exact absurd HA.out (by simp [cellarref0_EqBlocks.l0])
   | succ k1 =>
    have H := HA.out
    clear HA
    simp only [cellarref0_EqBlocks.l0] at H
    by_cases c4 : x5_1 < (l0.length : Int)
    rotate_left
    ·rw [if_neg c4] at H
     have c4b0 : decide (x5_1 < (l0.length : Int)) = false := decide_eq_false c4
     clear c4
     obtain rfl := Option.some.inj H
     go_wp2
     go_ret
     exact ⟨ze, zw0 HB.out⟩
    rw [if_pos c4] at H
    have c4b0 : decide (x5_1 < (l0.length : Int)) = true := decide_eq_true c4
    clear c4
    by_cases c5 : 0 ≤ x5_1
    rotate_left
    ·rw [if_neg c5] at H
     exact absurd H (by simp)
    rw [if_pos c5] at H
    have c5b0 : decide (0 ≤ x5_1) = true := decide_eq_true c5
    clear c5
    by_cases c6 : x5_1 < (l1.length : Int)
    rotate_left
    ·rw [if_neg c6] at H
     exact absurd H (by simp)
    rw [if_pos c6] at H
    have c6b0 : decide (x5_1 < (l1.length : Int)) = true := decide_eq_true c6
    clear c6
    replace H := Option.bind_eq_some_iff.mp H
    obtain ⟨t267, A70, H⟩ := H
    replace H : (if t267 = true then (cellarref0_EqBlocks.l0 k1 l0 l1 (wrap64 (x5_1 + 1))) else (some false)) = some r := H
    have A7 := Aside0.mk A70
    clear A70
    by_cases c8 : t267 = true
    rotate_left
    ·replace c8 := Bool.eq_false_iff.mpr c8
     subst c8
     have H1 : (some false) = some r := by rw [if_neg (show ¬ (false = true) by decide)] at H; exact H
     clear H
     have H := H1
     clear H1
     obtain rfl := Option.some.inj H
     try go_wp2
     have n0_ := Aside0.mk (below_drew1 HB.out)
     clear HB
     have HB := n0_
     clear n0_
     have p265 : 0 ≤ (x5_1 : Int) := zdec
     have q265 : x5_1 < (l0.length : Int) := zdec
     obtain ⟨ad265, A265_1, c265_1, e265, hx265_0, hx265_1, hl265_1, hi265_1⟩ := at_T76 HR0.out x5_1 p265 q265
     have hw265_1 := hx265_1
     have hw265_0 := hx265_0
     cases e265
     replace hx265_0 := zh HB.out hx265_0
     replace hx265_1 := zh HB.out hx265_1
     have HR265_1 := Aside0.mk hi265_1
     have HC265_1 := Aside0.mk hl265_1
     clear hi265_1 hl265_1
     replace p265 := eq_true p265
     replace q265 := eq_true q265
     have p266 : 0 ≤ (x5_1 : Int) := zdec
     have q266 : x5_1 < (l1.length : Int) := zdec
     obtain ⟨ad266, A266_1, c266_1, e266, hx266_0, hx266_1, hl266_1, hi266_1⟩ := at_T76 HR1.out x5_1 p266 q266
     have hw266_1 := hx266_1
     have hw266_0 := hx266_0
     cases e266
     replace hx266_0 := zh HB.out hx266_0
     replace hx266_1 := zh HB.out hx266_1
     have HR266_1 := Aside0.mk hi266_1
     have HC266_1 := Aside0.mk hl266_1
     clear hi266_1 hl266_1
     replace p266 := eq_true p266
     replace q266 := eq_true q266
     refine start_ (n := 10) (S := fun w' => w'.cell? (ad265.add ((x5_1).toNat * 2)) = some (.int .i64 ((rd_T76 l0 x5_1).f0)) ∧ w'.cell? ⟨(ad265.add ((x5_1).toNat * 2)).block, (ad265.add ((x5_1).toNat * 2)).off + 1, none⟩ = some (.slice A265_1 ((rd_T76 l0 x5_1).f1).length c265_1) ∧ w'.cell? (ad266.add ((x5_1).toNat * 2)) = some (.int .i64 ((rd_T76 l1 x5_1).f0)) ∧ w'.cell? ⟨(ad266.add ((x5_1).toNat * 2)).block, (ad266.add ((x5_1).toNat * 2)).off + 1, none⟩ = some (.slice A266_1 ((rd_T76 l1 x5_1).f1).length c266_1)) (ds := []) #[false,false,false,false,false,false,false,false,false,false] (by kernel_rfl) rfl rfl ⟨((HB.out.cell (World.block_lt_of_cell? w _ hw265_0)).trans hw265_0), ((HB.out.cell (World.block_lt_of_cell? w _ hw265_1)).trans hw265_1), ((HB.out.cell (World.block_lt_of_cell? w _ hw266_0)).trans hw266_0), ((HB.out.cell (World.block_lt_of_cell? w _ hw266_1)).trans hw266_1)⟩ (fun hHeld => ?_); refine with_tabW cellarref0_EqBlocks.tab6 cellarref0_EqBlocks.bits6 (fun HT_ HW_ => ?_)
     generalize wr.drew = w11 at HB HR265_1 HR266_1 hx265_0 hx265_1 hx266_0 hx266_1 hHeld ⊢
     refine zq 0 (some 17) HT_ ?_; refine zq 1 (some 18) HT_ ?_; refine zq 2 (some 19) HT_ ?_; refine zq 4 (some 21) HT_ ?_; refine zq 5 (some 22) HT_ ?_; refine zq 6 (some 23) HT_ ?_; refine zt 3 (some 20) HT_ HW_ hHeld ?_; refine zt 7 (some 24) HT_ HW_ hHeld ?_
     refine one_ (i := 8) (N := some 25) #[true,true,true,true,true,true,true,true,true,false] rfl rfl (one_of HT_.out (by kernel_rfl)) (by decide) (fun K hK => ?_)
     refine goes_ Try.func73 (by kernel_rfl) rfl #[.agg #[.int .i64 ((rd_T76 l0 x5_1).f0), .slice A265_1 ((rd_T76 l0 x5_1).f1).length c265_1], .agg #[.int .i64 ((rd_T76 l1 x5_1).f0), .slice A266_1 ((rd_T76 l1 x5_1).f1).length c266_1]] (by rfl) rfl rfl (by (try simp only [List.map_toArray, List.map_cons, List.map_nil]); first | done | rfl | (simp only [List.length_drop, List.length_take]; rfl)) ?_
     with_reducible refine (cellarref0_EqBlock.calls k1 ((rd_T76 l0 x5_1).f0) _ _ ((rd_T76 l0 x5_1).f1) ((rd_T76 l1 x5_1).f0) _ _ ((rd_T76 l1 x5_1).f1) false _ ?side1 ?side2 ?side3 ?side4 A7.out).mono ?_
     (case side1 => repeat (first | exact (Kd.C_below HR265_1.out HB.out) | (with_reducible refine Kd.C_alloc ?_ _) | (with_reducible refine Kd.C_drewN ?_ _) | (with_reducible refine Kd.C_drew ?_)))
     (case side2 => exact HC265_1.out)
     (case side3 => repeat (first | exact (Kd.C_below HR266_1.out HB.out) | (with_reducible refine Kd.C_alloc ?_ _) | (with_reducible refine Kd.C_drewN ?_ _) | (with_reducible refine Kd.C_drew ?_)))
     (case side4 => exact HC266_1.out)
     rintro e w12 ⟨rfl, hb⟩
     refine ⟨_, rfl, ?_⟩
     have n0_ := Aside0.mk (below_step (zw0 HB.out) hb)
     clear HB
     have HB := n0_
     clear n0_
     (try clear hb)
     (try clear hb2)
     (try clear hk)
     (try clear hi)
     refine hK.out _ _ ⟨((HB.out.cell (World.block_lt_of_cell? w _ hw265_0)).trans hw265_0), ((HB.out.cell (World.block_lt_of_cell? w _ hw265_1)).trans hw265_1), ((HB.out.cell (World.block_lt_of_cell? w _ hw266_0)).trans hw266_0), ((HB.out.cell (World.block_lt_of_cell? w _ hw266_1)).trans hw266_1)⟩ (fun hHeld => ?_)
     clear hK K
     refine norm_ (a' := ?_) ?_ ?_
     rotate_left
     ·show Act.put _ (some 25) _ = _
      simp only [Act.put, List.setIfInBounds_toArray, List.set_cons_zero, List.set_cons_succ, i64_w, i32_w]
      rfl
     refine zq 9 (some 26) HT_ ?_
     refine done_ (done_of HT_.out (by kernel_rfl)) ?_
     try go_wp2
     go_ret
     exact ⟨ze, zw0 HB.out⟩
    subst c8
    have H1 : (cellarref0_EqBlocks.l0 k1 l0 l1 (wrap64 (x5_1 + 1))) = some r := by rw [if_pos rfl] at H; exact H
    clear H
    have H := H1
    clear H1
    have H' := Aside0.mk H
    clear H
    try go_wp2
    have n0_ := Aside0.mk (below_drew1 HB.out)
    clear HB
    have HB := n0_
    clear n0_
    have p265 : 0 ≤ (x5_1 : Int) := zdec
    have q265 : x5_1 < (l0.length : Int) := zdec
    obtain ⟨ad265, A265_1, c265_1, e265, hx265_0, hx265_1, hl265_1, hi265_1⟩ := at_T76 HR0.out x5_1 p265 q265
    have hw265_1 := hx265_1
    have hw265_0 := hx265_0
    cases e265
    replace hx265_0 := zh HB.out hx265_0
    replace hx265_1 := zh HB.out hx265_1
    have HR265_1 := Aside0.mk hi265_1
    have HC265_1 := Aside0.mk hl265_1
    clear hi265_1 hl265_1
    replace p265 := eq_true p265
    replace q265 := eq_true q265
    have p266 : 0 ≤ (x5_1 : Int) := zdec
    have q266 : x5_1 < (l1.length : Int) := zdec
    obtain ⟨ad266, A266_1, c266_1, e266, hx266_0, hx266_1, hl266_1, hi266_1⟩ := at_T76 HR1.out x5_1 p266 q266
    have hw266_1 := hx266_1
    have hw266_0 := hx266_0
    cases e266
    replace hx266_0 := zh HB.out hx266_0
    replace hx266_1 := zh HB.out hx266_1
    have HR266_1 := Aside0.mk hi266_1
    have HC266_1 := Aside0.mk hl266_1
    clear hi266_1 hl266_1
    replace p266 := eq_true p266
    replace q266 := eq_true q266
    refine start_ (n := 10) (S := fun w' => w'.cell? (ad265.add ((x5_1).toNat * 2)) = some (.int .i64 ((rd_T76 l0 x5_1).f0)) ∧ w'.cell? ⟨(ad265.add ((x5_1).toNat * 2)).block, (ad265.add ((x5_1).toNat * 2)).off + 1, none⟩ = some (.slice A265_1 ((rd_T76 l0 x5_1).f1).length c265_1) ∧ w'.cell? (ad266.add ((x5_1).toNat * 2)) = some (.int .i64 ((rd_T76 l1 x5_1).f0)) ∧ w'.cell? ⟨(ad266.add ((x5_1).toNat * 2)).block, (ad266.add ((x5_1).toNat * 2)).off + 1, none⟩ = some (.slice A266_1 ((rd_T76 l1 x5_1).f1).length c266_1)) (ds := []) #[false,false,false,false,false,false,false,false,false,false] (by kernel_rfl) rfl rfl ⟨((HB.out.cell (World.block_lt_of_cell? w _ hw265_0)).trans hw265_0), ((HB.out.cell (World.block_lt_of_cell? w _ hw265_1)).trans hw265_1), ((HB.out.cell (World.block_lt_of_cell? w _ hw266_0)).trans hw266_0), ((HB.out.cell (World.block_lt_of_cell? w _ hw266_1)).trans hw266_1)⟩ (fun hHeld => ?_); refine with_tabW cellarref0_EqBlocks.tab6 cellarref0_EqBlocks.bits6 (fun HT_ HW_ => ?_)
    generalize wr.drew = w9 at HB HR265_1 HR266_1 hx265_0 hx265_1 hx266_0 hx266_1 hHeld ⊢
    refine zq 0 (some 17) HT_ ?_; refine zq 1 (some 18) HT_ ?_; refine zq 2 (some 19) HT_ ?_; refine zq 4 (some 21) HT_ ?_; refine zq 5 (some 22) HT_ ?_; refine zq 6 (some 23) HT_ ?_; refine zt 3 (some 20) HT_ HW_ hHeld ?_; refine zt 7 (some 24) HT_ HW_ hHeld ?_
    refine one_ (i := 8) (N := some 25) #[true,true,true,true,true,true,true,true,true,false] rfl rfl (one_of HT_.out (by kernel_rfl)) (by decide) (fun K hK => ?_)
    refine goes_ Try.func73 (by kernel_rfl) rfl #[.agg #[.int .i64 ((rd_T76 l0 x5_1).f0), .slice A265_1 ((rd_T76 l0 x5_1).f1).length c265_1], .agg #[.int .i64 ((rd_T76 l1 x5_1).f0), .slice A266_1 ((rd_T76 l1 x5_1).f1).length c266_1]] (by rfl) rfl rfl (by (try simp only [List.map_toArray, List.map_cons, List.map_nil]); first | done | rfl | (simp only [List.length_drop, List.length_take]; rfl)) ?_
    with_reducible refine (cellarref0_EqBlock.calls k1 ((rd_T76 l0 x5_1).f0) _ _ ((rd_T76 l0 x5_1).f1) ((rd_T76 l1 x5_1).f0) _ _ ((rd_T76 l1 x5_1).f1) true _ ?side1 ?side2 ?side3 ?side4 A7.out).mono ?_
    (case side1 => repeat (first | exact (Kd.C_below HR265_1.out HB.out) | (with_reducible refine Kd.C_alloc ?_ _) | (with_reducible refine Kd.C_drewN ?_ _) | (with_reducible refine Kd.C_drew ?_)))
    (case side2 => exact HC265_1.out)
    (case side3 => repeat (first | exact (Kd.C_below HR266_1.out HB.out) | (with_reducible refine Kd.C_alloc ?_ _) | (with_reducible refine Kd.C_drewN ?_ _) | (with_reducible refine Kd.C_drew ?_)))
    (case side4 => exact HC266_1.out)
    rintro e w10 ⟨rfl, hb⟩
    refine ⟨_, rfl, ?_⟩
    have n0_ := Aside0.mk (below_step (zw0 HB.out) hb)
    clear HB
    have HB := n0_
    clear n0_
    (try clear hb)
    (try clear hb2)
    (try clear hk)
    (try clear hi)
    refine hK.out _ _ ⟨((HB.out.cell (World.block_lt_of_cell? w _ hw265_0)).trans hw265_0), ((HB.out.cell (World.block_lt_of_cell? w _ hw265_1)).trans hw265_1), ((HB.out.cell (World.block_lt_of_cell? w _ hw266_0)).trans hw266_0), ((HB.out.cell (World.block_lt_of_cell? w _ hw266_1)).trans hw266_1)⟩ (fun hHeld => ?_)
    clear hK K
    refine norm_ (a' := ?_) ?_ ?_
    rotate_left
    ·show Act.put _ (some 25) _ = _
     simp only [Act.put, List.setIfInBounds_toArray, List.set_cons_zero, List.set_cons_succ, i64_w, i32_w]
     rfl
    refine zq 9 (some 26) HT_ ?_
    refine done_ (done_of HT_.out (by kernel_rfl)) ?_
    try go_wp2
    go_roundg k1
    case measure => have := HK1.out; omega
    case rel => exact ⟨(wrap64 (x5_1 + 1)), (zr), H', ⟨by have := HK1.out; omega⟩, ⟨zw0 HB.out⟩⟩
 ·rw [if_neg c3] at H
  have c3b0 : ((l0.length : Int) == (l1.length : Int)) = false := beq_eq_false_iff_ne.mpr c3
  have c3b1 : ((l0.length : Int) != (l1.length : Int)) = true := bne_iff_ne.mpr c3
  have c3b2 : (l0.length == l1.length) = false := by first | simpa using c3 | (simp at c3 ⊢; omega)
  obtain rfl := Option.some.inj H
  go_enter Try.func36, Try.ntmps36
  go_wp2
  go_ret
  exact ⟨ze, zw0 HB.out⟩

/-! cellarlaw0_Bytes -/
def cellarlaw0_Bytes.l0 : Nat → List (S74) → Int → Option ((List (S74)))
 | 0, _, _ => none
 | k + 1, x0, x2 => if x2 < (x0.length : Int) then (if 0 ≤ x2 then (cellarlaw0_Bytes.l0 k (x0.set (x2 : Int).toNat (⟨(-9), 0, 0, 0, 0⟩ : S74)) (wrap64 (x2 + 1))) else (none)) else (some x0)
def cellarlaw0_Bytes.f (k : Nat) (l0 : List (S74)) : Option ((List (S74))) := cellarlaw0_Bytes.l0 k l0 0
theorem cellarlaw0_Bytes.mono_l : ∀ k, (∀ y0 y1, LeO (cellarlaw0_Bytes.l0 k y0 y1) (cellarlaw0_Bytes.l0 (k + 1) y0 y1))
 | 0 => fun _ _ r h => by simp [cellarlaw0_Bytes.l0] at h
 | k + 1 => by
  have ih0 := cellarlaw0_Bytes.mono_l k
  ·intro y0 y1
   unfold cellarlaw0_Bytes.l0
   repeat' first
   | (with_reducible apply ih0)
   | (with_reducible apply LeO.refl)
   | (with_reducible apply LeO.none)
   | (with_reducible refine LeO.ite ?_ ?_)
   | (with_reducible refine LeO.bind ?_ (fun _ => ?_))
theorem cellarlaw0_Bytes.mono : ∀ a0 k, LeO (cellarlaw0_Bytes.f k a0) (cellarlaw0_Bytes.f (k + 1) a0) := by
 intro a0 k
 have ih0 := cellarlaw0_Bytes.mono_l k
 unfold cellarlaw0_Bytes.f
 repeat' first
   | (with_reducible apply ih0)
   | (with_reducible apply LeO.refl)
   | (with_reducible apply LeO.none)
   | (with_reducible refine LeO.ite ?_ ?_)
   | (with_reducible refine LeO.bind ?_ (fun _ => ?_))
set_option maxHeartbeats 8000000 in
set_option maxRecDepth 100000 in
theorem cellarlaw0_Bytes.calls (k : Nat) (P0_ : Nat → Prop) (u9000_ : Value) (l0 : List (S74)) (r : List (S74)) (w0 w : World) (hB : Below w0.heap.size w0 w) (ho0 : Kd.R k74 74 w w0.heap.size P0_ u9000_ l0) (h : cellarlaw0_Bytes.f k l0 = some r) :
  Calls Try.prog 74 #[u9000_] w fun e w' => e = .returned (.tuple #[]) ∧ Kd.R k74 74 w' w0.heap.size (fun k_ => (P0_ k_ ∨ w.heap.size ≤ k_)) u9000_ r ∧ Below w0.heap.size w0 w' ∧ Kept w w' (fun k_ => P0_ k_) := by
 have hu74 := Try.underlying74
 have HO0 := Aside0.mk (show Kd.R k74 74 w w0.heap.size (fun k_ => (P0_ k_ ∨ w.heap.size ≤ k_)) u9000_ l0 from Kd.R_mono ho0 (fun k_ hk => (.inl hk)))
 have HK := Aside0.mk (Kept.refl w (fun k_ => P0_ k_))
 have HW0 := Aside0.mk hB.size
 have HB := Aside0.mk hB
 clear hB
 have H : (cellarlaw0_Bytes.l0 k l0 0) = some r := h
 clear h
 have H' := Aside0.mk H
 clear H
 go_enter Try.func74, Try.ntmps74
 go_wp2
 go_loopg [2] k (fun kq v2 w' => ∃ (x0_1 : List (S74)) (x2_1 : Int), v2 = .int .i64 x2_1 ∧ Aside0 (cellarlaw0_Bytes.l0 kq x0_1 x2_1 = some r) ∧ Aside0 (kq ≤ k) ∧ Aside0 (Kd.R k74 74 w' w0.heap.size (fun k_ => (P0_ k_ ∨ w.heap.size ≤ k_)) u9000_ x0_1) ∧ Aside0 (Kept w w' (fun k_ => P0_ k_)) ∧ Aside0 (Below w0.heap.size w0 w'))
 case atStart => exact ⟨(l0), (0), (zr), H', ⟨Nat.le_refl _⟩, ⟨by (with_reducible repeat (first | apply Kd.R_alloc | apply Kd.R_drewN | apply Kd.R_drew)); exact HO0.out⟩, ⟨by repeat (first | (with_reducible first | exact HK.out | apply Kept.alloc | apply Kept.drewN | apply Kept.drew) | exact HK.out)⟩, ⟨zw0 HB.out⟩⟩
 case round =>
  clear H'
  obtain ⟨x0_1, x2_1, rfl, HA, HK1, HO_0, HK, HB⟩ := hrel
  cases gk with
  | zero => exact absurd HA.out (by simp [cellarlaw0_Bytes.l0])
  | succ k1 =>
   have H := HA.out
   clear HA
   simp only [cellarlaw0_Bytes.l0] at H
   by_cases c2 : x2_1 < (x0_1.length : Int)
   ·rw [if_pos c2] at H
    have c2b0 : decide (x2_1 < (x0_1.length : Int)) = true := decide_eq_true c2
    clear c2
    by_cases c3 : 0 ≤ x2_1
    rotate_left
    ·rw [if_neg c3] at H
     exact absurd H (by simp)
    rw [if_pos c3] at H
    have c3b0 : decide (0 ≤ x2_1) = true := decide_eq_true c3
    clear c3
    obtain ⟨y268, hy268⟩ : ∃ y_ : List (S74), y_ = (x0_1.set (x2_1 : Int).toNat (⟨(-9), 0, 0, 0, 0⟩ : S74)) := ⟨_, rfl⟩
    replace H : (cellarlaw0_Bytes.l0 k1 y268 (wrap64 (x2_1 + 1))) = some r := by first | (rw [hy268]; with_reducible exact H) | (have H2_ := (Option.bind_some _ _).symm.trans H; rw [hy268]; with_reducible exact H2_) | (have H2_ := (Option.bind_some _ _).symm.trans H; with_reducible exact H2_) | with_reducible exact H | (rw [hy268]; exact H) | exact H
    have Ny268 := Aside0.mk hy268
    clear hy268
    have H' := Aside0.mk H
    clear H
    obtain ⟨Ao5, co5, eo5⟩ := Kd.R_slice HO_0.out
    subst eo5
    have p4 : 0 ≤ (x2_1 : Int) := zdec
    have q4 : (x2_1 : Int) < ((x0_1.length : Int) : Int) := zdec
    obtain ⟨go4, co4, eo4, gb4, gl4, cl4, HG4⟩ := Kd.R_form HO_0.out (by omega)
    (first | cases eo4 | (injection eo4 with ea_ en_ ec_; (first | subst ea_ | (injection ea_ with ea_; subst ea_)); subst ec_; clear en_))
    have GB4 := Aside0.mk gb4
    have GG4 := Aside0.mk HG4
    clear gb4 gl4 HG4
    have HMgo4 := Aside0.mk (show (P0_ go4 ∨ w.heap.size ≤ go4) from (HO_0.out.1 _ rfl))
    obtain ⟨ce4, hcl4, hM4, hcc4, hfr4⟩ := Kd.R_elem HO_0.out z74 (x2_1 : Int) p4 q4
    obtain rfl := k74_openM hM4
    have hx4_0 : wr.cell? ⟨go4, (x2_1 : Int).toNat * 5, none⟩ = some (.int .i64 ((rd_T74 x0_1 x2_1).f0)) := hcc4 0 _ rfl
    have hx4_1 : wr.cell? ⟨go4, (x2_1 : Int).toNat * 5 + 1, none⟩ = some (.int .i64 ((rd_T74 x0_1 x2_1).f1)) := hcc4 1 _ rfl
    have hx4_2 : wr.cell? ⟨go4, (x2_1 : Int).toNat * 5 + 2, none⟩ = some (.int .i64 ((rd_T74 x0_1 x2_1).f2)) := hcc4 2 _ rfl
    have hx4_3 : wr.cell? ⟨go4, (x2_1 : Int).toNat * 5 + 3, none⟩ = some (.int .i64 ((rd_T74 x0_1 x2_1).f3)) := hcc4 3 _ rfl
    have hx4_4 : wr.cell? ⟨go4, (x2_1 : Int).toNat * 5 + 4, none⟩ = some (.int .i64 ((rd_T74 x0_1 x2_1).f4)) := hcc4 4 _ rfl
    have hf4_0 : wr.frozen? ⟨go4, (x2_1 : Int).toNat * 5, none⟩ = false := hfr4 0
    have hf4_1 : wr.frozen? ⟨go4, (x2_1 : Int).toNat * 5 + 1, none⟩ = false := hfr4 1
    have hf4_2 : wr.frozen? ⟨go4, (x2_1 : Int).toNat * 5 + 2, none⟩ = false := hfr4 2
    have hf4_3 : wr.frozen? ⟨go4, (x2_1 : Int).toNat * 5 + 3, none⟩ = false := hfr4 3
    have hf4_4 : wr.frozen? ⟨go4, (x2_1 : Int).toNat * 5 + 4, none⟩ = false := hfr4 4
    clear hcl4 hcc4 hfr4 hM4
    replace p4 := eq_true p4
    replace q4 := eq_true q4
    have HX6 := Aside0.mk (show Kd.R k74 74 wr w0.heap.size (fun k_ => (P0_ k_ ∨ w.heap.size ≤ k_)) (.slice (some ⟨go4, 0, none⟩) x0_1.length co5) x0_1 from (by (with_reducible repeat (first | apply Kd.R_alloc | apply Kd.R_drewN | apply Kd.R_drew)); exact HO_0.out))
    obtain ⟨ce6, hcl6, hM6, hcc6, hfr6⟩ := Kd.R_elem HX6.out z74 (x2_1 : Int) (zdec) (by have h_ : (x2_1 : Int) < ((x0_1.length : Int) : Int) := zdec; first | exact h_ | (have e_ := (Kd.R_reads' HO_0.out).1; omega) | simpa using h_)
    obtain rfl := k74_openM hM6
    have HP6 := Kd.R_seg HX6.out (x2_1 : Int) (zdec) (by have h_ : (x2_1 : Int) < ((x0_1.length : Int) : Int) := zdec; first | exact h_ | (have e_ := (Kd.R_reads' HO_0.out).1; omega) | simpa using h_) (seg := [.int .i64 (-9), .int .i64 0, .int .i64 0, .int .i64 0, .int .i64 0]) (j := 0) hcl6 hcc6 (show 5 ≤ 5 from by decide) (x' := (⟨(-9), 0, 0, 0, 0⟩ : S74)) (k74_mkM _ _ _ (⟨(-9), 0, 0, 0, 0⟩ : S74) ) (fun _ hk => hk)
    have hx6_0 := hcc6 0 _ rfl
    (try simp only [show (k74).sz = 5 from rfl, Nat.mul_one, Nat.add_zero] at hx6_0)
    have hf6_0 := hfr6 0
    (try simp only [show (k74).sz = 5 from rfl, Nat.mul_one, Nat.add_zero] at hf6_0)
    have hx6_1 := hcc6 1 _ rfl
    (try simp only [show (k74).sz = 5 from rfl, Nat.mul_one, Nat.add_zero] at hx6_1)
    have hf6_1 := hfr6 1
    (try simp only [show (k74).sz = 5 from rfl, Nat.mul_one, Nat.add_zero] at hf6_1)
    have hx6_2 := hcc6 2 _ rfl
    (try simp only [show (k74).sz = 5 from rfl, Nat.mul_one, Nat.add_zero] at hx6_2)
    have hf6_2 := hfr6 2
    (try simp only [show (k74).sz = 5 from rfl, Nat.mul_one, Nat.add_zero] at hf6_2)
    have hx6_3 := hcc6 3 _ rfl
    (try simp only [show (k74).sz = 5 from rfl, Nat.mul_one, Nat.add_zero] at hx6_3)
    have hf6_3 := hfr6 3
    (try simp only [show (k74).sz = 5 from rfl, Nat.mul_one, Nat.add_zero] at hf6_3)
    have hx6_4 := hcc6 4 _ rfl
    (try simp only [show (k74).sz = 5 from rfl, Nat.mul_one, Nat.add_zero] at hx6_4)
    have hf6_4 := hfr6 4
    (try simp only [show (k74).sz = 5 from rfl, Nat.mul_one, Nat.add_zero] at hf6_4)
    clear hcl6 hcc6 hfr6 hM6
    go_wp2_with (first | ((with_reducible refine gate_store (t := 74) (p := 12) rfl ?_); refine store_event (t := 74) (p := 12) (v := ?vo_w7) (w1 := (((((wr.setCell ⟨go4, (x2_1 : Int).toNat * 5, none⟩ (.int .i64 (-9))).setCell ⟨go4, (x2_1 : Int).toNat * 5 + 1, none⟩ (.int .i64 0)).setCell ⟨go4, (x2_1 : Int).toNat * 5 + 2, none⟩ (.int .i64 0)).setCell ⟨go4, (x2_1 : Int).toNat * 5 + 3, none⟩ (.int .i64 0)).setCell ⟨go4, (x2_1 : Int).toNat * 5 + 4, none⟩ (.int .i64 0))) ?hg ?ho ?hn ?hr ?_; (case ho => rfl); (case hg => rfl); (case hn => rfl); (case hr => first | (go_simp; done) | (go_simp; rfl)); intro w7 hw; have hg : wr.grownBy w7 (some go4) := (by rw [hw]; exact HP6.2); have hp_ : Kd.R k74 74 w7 w0.heap.size (fun k_ => (P0_ k_ ∨ w.heap.size ≤ k_)) (.slice (some ⟨go4, 0, none⟩) x0_1.length co5) y268 := (by rw [hw, Ny268.out]; exact HP6.1); clear HP6; have n0_ := Aside0.mk (hp_); have n1_ := Aside0.mk ((by rw [hw]; exact below_set (below_set (below_set (below_set (below_set (HB.out) GB4.out) GB4.out) GB4.out) GB4.out) GB4.out : Below w0.heap.size w0 w7)); have n2_ := Aside0.mk (Kept.of_grown (S := (fun k_ => P0_ k_)) hg (by repeat (first | (with_reducible first | exact HK.out | apply Kept.alloc | apply Kept.drewN | apply Kept.drew) | exact HK.out)) (fun k_ e_ => (HO_0.out.1 k_ e_))); clear HO_0 HB HK; have HO_0 := n0_; have HB := n1_; have HK := n2_; clear n0_ n1_ n2_; clear hg hw hp_))
    go_roundg k1
    case measure => have := HK1.out; omega
    case rel => exact ⟨(y268), (wrap64 (x2_1 + 1)), (zr), H', ⟨by have := HK1.out; omega⟩, ⟨by (with_reducible repeat (first | apply Kd.R_alloc | apply Kd.R_drewN | apply Kd.R_drew)); exact HO_0.out⟩, ⟨by repeat (first | (with_reducible first | exact HK.out | apply Kept.alloc | apply Kept.drewN | apply Kept.drew) | exact HK.out)⟩, ⟨zw0 HB.out⟩⟩
   ·rw [if_neg c2] at H
    have c2b0 : decide (x2_1 < (x0_1.length : Int)) = false := decide_eq_false c2
    clear c2
    obtain rfl := Option.some.inj H
    obtain ⟨Ao8, co8, eo8⟩ := Kd.R_slice HO_0.out
    subst eo8
    go_wp2
    first | go_end0 | ((try simp only [Exit.inBlock, Exit.then]); refine bodyPost_ret (results_none rfl _ _ _) rfl ?_)
    exact ⟨ze, by (with_reducible repeat (first | apply Kd.R_alloc | apply Kd.R_drewN | apply Kd.R_drew)); exact HO_0.out, zw0 HB.out, by repeat (first | (with_reducible first | exact HK.out | apply Kept.alloc | apply Kept.drewN | apply Kept.drew) | exact HK.out)⟩

/-! cellar/cellarlaw0.Blocks -/
def cellarlaw0_Blocks.f (_ : Nat) (_ : List (S76)) : Option Unit := some ()
theorem cellarlaw0_Blocks.mono : ∀ a k, LeO (cellarlaw0_Blocks.f k a) (cellarlaw0_Blocks.f (k + 1) a) := fun _ _ => LeO.refl _
theorem cellarlaw0_Blocks.bytes_ends (m : Nat) : ∀ (x : List S74) (i : Int), 0 ≤ i → i ≤ x.length → (x.length : Int) - i ≤ m → (x.length : Int) ≤ 9223372036854775807 → ∃ r, cellarlaw0_Bytes.l0 (m + 1) x i = some r := by
  induction m with
  | zero =>
    intro x i h0 h1 h2 h3
    exact ⟨x, by rw [cellarlaw0_Bytes.l0, if_neg (by omega)]⟩
  | succ m ih =>
    intro x i h0 h1 h2 h3
    by_cases hi : i < (x.length : Int)
    · have hw : wrap64 (i + 1) = i + 1 := by unfold wrap64; omega
      obtain ⟨r, hr⟩ := ih (x.set i.toNat (⟨(-9), 0, 0, 0, 0⟩ : S74)) (i + 1) (by omega) (by rw [List.length_set]; omega) (by rw [List.length_set]; omega) (by rw [List.length_set]; omega)
      refine ⟨r, ?_⟩
      rw [cellarlaw0_Bytes.l0, if_pos hi, if_pos h0, hw]
      exact hr
    · exact ⟨x, by rw [cellarlaw0_Bytes.l0, if_neg hi]⟩
set_option maxHeartbeats 8000000 in
set_option maxRecDepth 100000 in
theorem cellarlaw0_Blocks.calls (u : Value) (l : List (S76)) (w0 w : World) (hB : Below w0.heap.size w0 w) (hS : Kd.S k76 76 w w0.heap.size (fun _ => True) u l) :
  Calls Try.prog 37 #[u] w fun e w' => e = .returned (.tuple #[]) ∧ Below w0.heap.size w0 w' := by
 have hu76 := Try.underlying76
 obtain ⟨Ao, co, rfl⟩ := Kd.S_slice hS
 have hbig := (Kd.S_reads' hS).2.2.2.1
 have HS := Aside0.mk hS
 have HB := Aside0.mk hB
 clear hS hB
 go_enter Try.func37, Try.ntmps37
 go_wp2
 go_loopg [2] l.length (fun gg s2 wr => ∃ (kk : Nat) (x : List (S76)), x.length = l.length ∧ kk ≤ l.length ∧ l.length - kk ≤ gg ∧ s2 = .int .i64 kk ∧ Aside0 (Below w0.heap.size w0 wr) ∧ Aside0 (Kd.S k76 76 wr w0.heap.size (fun _ => True) (.slice Ao l.length co) x))
 case atStart => exact ⟨0, l, rfl, Nat.zero_le _, by omega, rfl, HB, HS⟩
 case round =>
  clear HB HS
  obtain ⟨kk, x, hxl, hkk, hg, rfl, BW, HS⟩ := hrel
  by_cases hlt : kk < l.length
  · have hltz : (kk : Int) < (l.length : Int) := by omega
    obtain ⟨g, cap, eA, hbg, hgl, hcells⟩ := Kd.R_form (Kd.S_R HS.out) (by omega)
    injection eA with e1 e0 e2
    clear e0
    subst e1 e2
    obtain ⟨oki, c, hcl, hM, hcc, hoki, hH⟩ := Kd.S_lend HS.out z76 (kk : Int) (by omega) (by omega)
    generalize x.getD (kk : Int).toNat z76 = el at hM
    obtain ⟨v1, rfl, hR1⟩ := k76_openM hM
    have hcell1 : wr.cell? ⟨g, kk * 2 + 1, none⟩ = some v1 := by
      have := hcc 1 v1 rfl
      rwa [Int.toNat_natCast] at this
    obtain ⟨A1, c1, rfl⟩ := Kd.R_slice hR1
    obtain ⟨rb, hrb⟩ := cellarlaw0_Blocks.bytes_ends el.f1.length el.f1 0 (by omega) (by omega) (by omega) (by have := (Kd.R_reads' hR1).2.2.2.1; omega)
    have HR1 := Aside0.mk hR1
    have HRB := Aside0.mk hrb
    have HH := Aside0.mk hH
    have HOK := Aside0.mk hoki
    have HGB := Aside0.mk hbg
    clear hR1 hrb hH hM hcc hoki hcells hcl HS hbg
    go_wp2_with (first | ((with_reducible refine gate_callee (f := 74) rfl ?_); refine zgo (some 14) Try.func74 #[.slice A1 el.f1.length c1] ?_; refine (cellarlaw0_Bytes.calls _ oki _ el.f1 rb w0 _ BW.out HR1.out HRB.out).mono ?_; rintro e wq_ ⟨rfl, _, hb, hk⟩; refine ⟨_, rfl, ?_⟩; have HH2 := Aside0.mk (Kd.H_step HH.out (fun k _ hn hlt => hk.2 k hlt hn)); have HB2 := Aside0.mk hb; clear hk hb HH BW HR1 HRB; obtain ⟨rows, hrl_, hraw, _, _, hcc2, _⟩ := Kd.H_raw HH2.out (by omega) (by omega); obtain ⟨cr, _, _, _, hcrf⟩ := Kd.R_elem hraw [] (kk : Int) (by omega) (by omega); have hd0 : wq_.cell? ⟨g, kk * 2, none⟩ = some (.int .i64 el.f0) := hcc2 0 _ rfl; have hd1 : wq_.cell? ⟨g, kk * 2 + 1, none⟩ = some (.slice A1 el.f1.length c1) := hcc2 1 _ rfl; have hz0 : wq_.frozen? ⟨g, kk * 2, none⟩ = false := hcrf 0; have hz1 : wq_.frozen? ⟨g, kk * 2 + 1, none⟩ = false := hcrf 1; have HS2 := Aside0.mk (show Kd.S k76 76 ((wq_.setCell ⟨g, kk * 2, none⟩ (.int .i64 (-9))).setCell ⟨g, kk * 2 + 1, none⟩ (.slice none 0 0)) w0.heap.size (fun _ => True) (.slice (some ⟨g, 0, none⟩) l.length co) (x.set (kk : Int).toNat (⟨-9, []⟩ : S76)) from Kd.H_back (Kd.H_seg HH2.out (by omega) (by omega) (seg := [.int .i64 (-9), .slice none 0 0]) (j := 0) (show 2 ≤ 2 from Nat.le_refl _) (fun q hq => by simp only [List.mem_cons, List.not_mem_nil, or_false] at hq; rcases hq with rfl | rfl <;> rfl)).1 (okp := fun _ => False) (k76_mkM _ _ _ (⟨-9, []⟩ : S76) (Kd.R_nil _ _ _ _ _)) (fun _ h_ => h_.elim)); clear hraw hcc2 hcrf hrl_ HH2) | ((with_reducible refine gate_store (t := 76) (p := 18) rfl ?_); refine store_event (t := 76) (p := 18) (v := ?vo_w7) (w1 := ((wq_.setCell ⟨g, kk * 2, none⟩ (.int .i64 (-9))).setCell ⟨g, kk * 2 + 1, none⟩ (.slice none 0 0))) ?hg ?ho ?hn ?hr ?_; (case ho => rfl); (case hg => rfl); (case hn => rfl); (case hr => first | (go_simp; done) | (go_simp; rfl)); intro w7 hw; have HS3 := Aside0.mk (show Kd.S k76 76 w7 w0.heap.size (fun _ => True) (.slice (some ⟨g, 0, none⟩) l.length co) (x.set (kk : Int).toNat (⟨-9, []⟩ : S76)) from by rw [hw]; exact HS2.out); have HB3 := Aside0.mk (show Below w0.heap.size w0 w7 from by rw [hw]; exact below_set (below_set HB2.out HGB.out) HGB.out); clear hw HS2 HB2))
    go_roundg (l.length - (kk + 1))
    case measure => omega
    case rel => exact ⟨kk + 1, _, by rw [List.length_set]; exact hxl, by omega, by omega, by go_num, HB3, HS3⟩
  · have hltz : ¬ (kk : Int) < (l.length : Int) := by omega
    go_wp2
    first | go_end0 | ((try simp only [Exit.inBlock, Exit.then]); refine bodyPost_ret (results_none rfl _ _ _) rfl ?_)
    exact ⟨by first | rfl | (simp [errW_none, errW_some] <;> rfl), BW.out⟩

/-! cellar/bytes.state$1 -/
theorem state_pred (B : Nat) (n : Int) (w : World) (hB : B < w.heap.size) (hcell : w.cell? ⟨B, 0, none⟩ = some (.int .i64 n)) :
    PredK Try.prog k74 129 #[.pointer (some ⟨B, 0, none⟩)] (fun cs => .agg cs.toArray) (fun x => some (x.f0 == n)) w := fun W x cs b hb hK hx => by
  obtain rfl := k74_open hK
  injection hx with hx
  subst hx
  have hc : W.cell? ⟨B, 0, none⟩ = some (.int .i64 n) := (hb.cell (p := ⟨B, 0, none⟩) hB).trans hcell
  have hBW : B < W.heap.size := Nat.lt_of_lt_of_le hB hb.size
  have hne : B ≠ W.heap.size := by omega
  have hu := Try.underlying74
  clear hcell
  show Calls Try.prog 129 #[.agg #[.int .i64 x.f0, .int .i64 x.f1, .int .i64 x.f2, .int .i64 x.f3, .int .i64 x.f4], .pointer (some ⟨B, 0, none⟩)] W _
  go_enter Try.func129, Try.ntmps129
  go_wp2
  all_goals (go_ret; exact ⟨by first | rfl | (simp; done), by repeat (first | exact Below.refl _ _ | apply below_alloc | apply pw_below_drewN | apply below_drew1)⟩)

/-! cellar/bytes.state -/
def bytes_state.f (l : List S74) (n : Int) : Option Bool := anyO (fun x => some (x.f0 == n)) l
set_option maxHeartbeats 4000000 in
theorem bytes_state.calls (A0 : Option Addr) (c0 : Nat) (l : List S74) (n : Int) (r : Bool) (w : World) (hr0 : Kd.C k74 w A0 l.length l) (hc0 : l.length ≤ c0) (h : bytes_state.f l n = some r) :
    Calls Try.prog 119 #[.slice A0 l.length c0, .int .i64 n] w fun e w' => e = .returned (.bool r) ∧ Below w.heap.size w w' := by
  have hb0 : Below w.heap.size w (w.alloc (.cells #[.int .i64 n] 3)) := below_alloc (Below.refl _ _) _
  have HC := Aside0.mk (ContainsFunc_T74 _ 129 #[.pointer (some ⟨w.heap.size, 0, none⟩)] (enters_of Try.func129 (by kernel_rfl) rfl) A0 c0 l r (w.alloc (.cells #[.int .i64 n] 3)) (Kd.C_below hr0 hb0) (state_pred w.heap.size n _ (by simp) (by simp)) h)
  have HB := Aside0.mk hb0
  clear hr0 hc0 h hb0
  go_enter Try.func119, Try.ntmps119
  go_wp2_with (go_at_call 122; refine HC.out.mono ?_; rintro e w' ⟨rfl, hb'⟩)
  go_ret
  exact ⟨by first | rfl | (simp; done), below_step HB.out hb'⟩

end Go.Proofs.Ytjoplkillkhiaaa.St
