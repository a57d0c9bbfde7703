-- Written by this session's own edition of the print.
import Derived.Test.YtjoplkillkhiaaaLx0
import Derived.Test.YtjoplkillkhiaaaLx4
import Derived.Test.YtjoplkillkhiaaaUSq
import Derived.Test.YtjoplkillkhiaaaUSq2
namespace Go.Proofs.Ytjoplkillkhiaaa.L
open Go.RowKit Go.Proofs.Ytjoplkillkhiaaa.Fn Go.Proofs.YtjoplkillkhiaaaW.PrintWords Go.Proofs.YtjoplkillkhiaaaW.PrintLast Go.Proofs.YtjoplkillkhiaaaW.PrintMore
attribute [local go_sem] max2_int min2_int max_two min_two max_three min_three max_four min_four   -- for this text's walks alone
set_option linter.unusedVariables false
set_option linter.unusedSimpArgs false

/-! cellarlaw7_Heavy -/
def cellarlaw7_Heavy.l0 : Nat → Int → Int → List (S29) → List (List (S31)) → List ByteArray → List Int → Option (Bool)
 | 0, _, _, _, _, _, _ => none
 | k + 1, x3, x4, x202000, x202001, x202002, x202003 => if x4 < (x202001.length : Int) then (if x3 < 1048576 then (if 0 ≤ x4 then ((cellarlaw0_TypesWeight.f k (rd_L6 x202001 x4)).bind fun t204 => (cellarlaw7_Heavy.l0 k (wrap64 (x3 + t204)) (wrap64 (x4 + 1)) x202000 x202001 x202002 x202003)) else (none)) else (some (decide (x3 > 900)))) else (some (decide (x3 > 900)))
def cellarlaw7_Heavy.f (k : Nat) (l0_0 : List (S29)) (l0_1 : List (List (S31))) (l0_2 : List ByteArray) (l0_3 : List Int) : Option (Bool) := (cellarlaw0_Texts.f k l0_2).bind fun t202 => (cellarlaw7_Heavy.l0 k (wrap64 ((wrap64 ((l0_0.length : Int) + (l0_3.length : Int))) + t202)) 0 l0_0 l0_1 l0_2 l0_3)
theorem cellarlaw7_Heavy.mono_l : ∀ k, (∀ y0 y1 y2 y3 y4 y5, LeO (cellarlaw7_Heavy.l0 k y0 y1 y2 y3 y4 y5) (cellarlaw7_Heavy.l0 (k + 1) y0 y1 y2 y3 y4 y5))
 | 0 => fun _ _ _ _ _ _ r h => by simp [cellarlaw7_Heavy.l0] at h
 | k + 1 => by
  have ih0 := cellarlaw7_Heavy.mono_l k
  ·intro y0 y1 y2 y3 y4 y5
   unfold cellarlaw7_Heavy.l0
   repeat' first
   | (with_reducible apply ih0)
   | (with_reducible apply cellarlaw0_Texts.mono)
   | (with_reducible apply cellarlaw0_TypesWeight.mono)
   | (with_reducible apply LeO.refl)
   | (with_reducible apply LeO.none)
   | (with_reducible refine LeO.ite ?_ ?_)
   | (with_reducible refine LeO.bind ?_ (fun _ => ?_))
theorem cellarlaw7_Heavy.mono : ∀ a0 a1 a2 a3 k, LeO (cellarlaw7_Heavy.f k a0 a1 a2 a3) (cellarlaw7_Heavy.f (k + 1) a0 a1 a2 a3) := by
 intro a0 a1 a2 a3 k
 have ih0 := cellarlaw7_Heavy.mono_l k
 unfold cellarlaw7_Heavy.f
 repeat' first
   | (with_reducible apply ih0)
   | (with_reducible apply cellarlaw0_Texts.mono)
   | (with_reducible apply cellarlaw0_TypesWeight.mono)
   | (with_reducible apply LeO.refl)
   | (with_reducible apply LeO.none)
   | (with_reducible refine LeO.ite ?_ ?_)
   | (with_reducible refine LeO.bind ?_ (fun _ => ?_))
set_option maxHeartbeats 8000000 in
set_option maxRecDepth 100000 in
theorem cellarlaw7_Heavy.calls (k : Nat) (A0_0 : Option Addr) (c0_0 : Nat) (l0_0 : List (S29)) (A0_1 : Option Addr) (c0_1 : Nat) (l0_1 : List (List (S31))) (A0_2 : Option Addr) (c0_2 : Nat) (l0_2 : List ByteArray) (A0_3 : Option Addr) (c0_3 : Nat) (l0_3 : List Int) (r : Bool) (w : World) (hr0_0 : Kd.C k29 w A0_0 l0_0.length l0_0) (hc0_0 : l0_0.length ≤ c0_0) (hr0_1 : Kd.C (Kd.slice 31 k31) w A0_1 l0_1.length l0_1) (hc0_1 : l0_1.length ≤ c0_1) (hr0_2 : Kd.C Kd.string w A0_2 l0_2.length l0_2) (hc0_2 : l0_2.length ≤ c0_2) (hr0_3 : Kd.C (Kd.int .i64) w A0_3 l0_3.length l0_3) (hc0_3 : l0_3.length ≤ c0_3) (h : cellarlaw7_Heavy.f k l0_0 l0_1 l0_2 l0_3 = some r) :
  Calls Try.prog 14 #[.agg #[.slice A0_0 l0_0.length c0_0, .slice A0_1 l0_1.length c0_1, .slice A0_2 l0_2.length c0_2, .slice A0_3 l0_3.length c0_3]] w fun e w' => e = .returned (.bool r) ∧ Below w.heap.size w w' := by
 have hu27 := Try.underlying27
 have HR0_0 := Aside0.mk hr0_0
 have HC0_0 := Aside0.mk hc0_0
 clear hr0_0 hc0_0
 have HR0_1 := Aside0.mk hr0_1
 have HC0_1 := Aside0.mk hc0_1
 clear hr0_1 hc0_1
 have HR0_2 := Aside0.mk hr0_2
 have HC0_2 := Aside0.mk hc0_2
 clear hr0_2 hc0_2
 have HR0_3 := Aside0.mk hr0_3
 have HC0_3 := Aside0.mk hc0_3
 clear hr0_3 hc0_3
 have HB := Aside0.mk (Below.refl w.heap.size w)
 have H : ((cellarlaw0_Texts.f k l0_2).bind fun t202 => (cellarlaw7_Heavy.l0 k (wrap64 ((wrap64 ((l0_0.length : Int) + (l0_3.length : Int))) + t202)) 0 l0_0 l0_1 l0_2 l0_3)) = some r := h
 clear h
 replace H := Option.bind_eq_some_iff.mp H
 obtain ⟨t202, A20, H⟩ := H
 replace H : (cellarlaw7_Heavy.l0 k (wrap64 ((wrap64 ((l0_0.length : Int) + (l0_3.length : Int))) + t202)) 0 l0_0 l0_1 l0_2 l0_3) = some r := H
 have A2 := Aside0.mk A20
 clear A20
 have H' := Aside0.mk H
 clear H
 go_enter Try.func14, Try.ntmps14
 go_wp2_with (first | ((with_reducible refine gate_dst (N := 1) rfl ?_); refine zbox (N := 1) (cs := #[.slice A0_0 l0_0.length c0_0, .slice A0_1 l0_1.length c0_1, .slice A0_2 l0_2.length c0_2, .slice A0_3 l0_3.length c0_3]) (t := 27) ?_; intro gb201 hg w3 hbox hb; have n0_ := Aside0.mk (below_step (zw0 HB.out) hb); have BK201 := Aside0.mk (hbox); have GW201 := Aside0.mk (zg hg (below_size (zw0 HB.out))); have GE201 := GW201; clear HB; have HB := n0_; clear n0_; clear hb hbox hg; have hcz4_0 := zc BK201.out 0; have hcz4_1 := zc BK201.out 1; have hcz4_2 := zc BK201.out 2; have hcz4_3 := zc BK201.out 3; have hfz4_0 := blk_frozen BK201.out 0; have hfz4_1 := blk_frozen BK201.out 1; have hfz4_2 := blk_frozen BK201.out 2; have hfz4_3 := blk_frozen BK201.out 3) | (go_at_call 52; (with_reducible refine (cellarlaw0_Texts.calls k _ _ l0_2 t202 _ ?side1 ?side2 A2.out).mono ?_); (case side1 => repeat (first | exact (Kd.C_below HR0_2.out HB.out) | (with_reducible refine Kd.C_alloc ?_ _) | (with_reducible refine Kd.C_drewN ?_ _) | (with_reducible refine Kd.C_drew ?_))); (case side2 => exact HC0_2.out); rintro e w' ⟨rfl, ⟨nd, rfl⟩⟩; (try first | exact ⟨rfl, _, World.drewN_drewN _ _ _⟩ | exact ⟨rfl, _, Eq.trans (World.drewN_drewN _ _ _) (congrArg (World.drewN _) (Nat.add_assoc _ _ _))⟩)))
 repeat (go_quiet (first | ((with_reducible refine gate_dst (N := 1) rfl ?_); refine zbox (N := 1) (cs := #[.slice A0_0 l0_0.length c0_0, .slice A0_1 l0_1.length c0_1, .slice A0_2 l0_2.length c0_2, .slice A0_3 l0_3.length c0_3]) (t := 27) ?_; intro gb201 hg w3 hbox hb; have n0_ := Aside0.mk (below_step (zw0 HB.out) hb); have BK201 := Aside0.mk (hbox); have GW201 := Aside0.mk (zg hg (below_size (zw0 HB.out))); have GE201 := GW201; clear HB; have HB := n0_; clear n0_; clear hb hbox hg; have hcz4_0 := zc BK201.out 0; have hcz4_1 := zc BK201.out 1; have hcz4_2 := zc BK201.out 2; have hcz4_3 := zc BK201.out 3; have hfz4_0 := blk_frozen BK201.out 0; have hfz4_1 := blk_frozen BK201.out 1; have hfz4_2 := blk_frozen BK201.out 2; have hfz4_3 := blk_frozen BK201.out 3) | (go_at_call 52; (with_reducible refine (cellarlaw0_Texts.calls k _ _ l0_2 t202 _ ?side1 ?side2 A2.out).mono ?_); (case side1 => repeat (first | exact (Kd.C_below HR0_2.out HB.out) | (with_reducible refine Kd.C_alloc ?_ _) | (with_reducible refine Kd.C_drewN ?_ _) | (with_reducible refine Kd.C_drew ?_))); (case side2 => exact HC0_2.out); rintro e w' ⟨rfl, ⟨nd, rfl⟩⟩; (try first | exact ⟨rfl, _, World.drewN_drewN _ _ _⟩ | exact ⟨rfl, _, Eq.trans (World.drewN_drewN _ _ _) (congrArg (World.drewN _) (Nat.add_assoc _ _ _))⟩))); try go_wp2_with (first | ((with_reducible refine gate_dst (N := 1) rfl ?_); refine zbox (N := 1) (cs := #[.slice A0_0 l0_0.length c0_0, .slice A0_1 l0_1.length c0_1, .slice A0_2 l0_2.length c0_2, .slice A0_3 l0_3.length c0_3]) (t := 27) ?_; intro gb201 hg w3 hbox hb; have n0_ := Aside0.mk (below_step (zw0 HB.out) hb); have BK201 := Aside0.mk (hbox); have GW201 := Aside0.mk (zg hg (below_size (zw0 HB.out))); have GE201 := GW201; clear HB; have HB := n0_; clear n0_; clear hb hbox hg; have hcz4_0 := zc BK201.out 0; have hcz4_1 := zc BK201.out 1; have hcz4_2 := zc BK201.out 2; have hcz4_3 := zc BK201.out 3; have hfz4_0 := blk_frozen BK201.out 0; have hfz4_1 := blk_frozen BK201.out 1; have hfz4_2 := blk_frozen BK201.out 2; have hfz4_3 := blk_frozen BK201.out 3) | (go_at_call 52; (with_reducible refine (cellarlaw0_Texts.calls k _ _ l0_2 t202 _ ?side1 ?side2 A2.out).mono ?_); (case side1 => repeat (first | exact (Kd.C_below HR0_2.out HB.out) | (with_reducible refine Kd.C_alloc ?_ _) | (with_reducible refine Kd.C_drewN ?_ _) | (with_reducible refine Kd.C_drew ?_))); (case side2 => exact HC0_2.out); rintro e w' ⟨rfl, ⟨nd, rfl⟩⟩; (try first | exact ⟨rfl, _, World.drewN_drewN _ _ _⟩ | exact ⟨rfl, _, Eq.trans (World.drewN_drewN _ _ _) (congrArg (World.drewN _) (Nat.add_assoc _ _ _))⟩))))
 go_loopg [3, 4] k (fun kq v3 v4 w' => ∃ (x3_1 : Int) (x4_1 : Int), v3 = .int .i64 x3_1 ∧ v4 = .int .i64 x4_1 ∧ Aside0 (cellarlaw7_Heavy.l0 kq x3_1 x4_1 l0_0 l0_1 l0_2 l0_3 = some r) ∧ Aside0 (kq ≤ k) ∧ Aside0 (w'.heap[gb201]? = some (.cells #[(.slice A0_0 l0_0.length c0_0), (.slice A0_1 l0_1.length c0_1), (.slice A0_2 l0_2.length c0_2), (.slice A0_3 l0_3.length c0_3)] 27 (0, 0))) ∧ Aside0 (Below w.heap.size w w'))
 case atStart => exact ⟨(wrap64 ((wrap64 ((l0_0.length : Int) + (l0_3.length : Int))) + t202)), (0), (zr), (zr), H', ⟨Nat.le_refl _⟩, ⟨zb BK201.out⟩, ⟨zw1 HB.out GE201.out⟩⟩
 case round =>
  clear H'
  try clear c1; try clear p2
  obtain ⟨x3_1, x4_1, rfl, rfl, HA, HK1, BK201, HB⟩ := hrel
  cases gk with
  | zero => exact absurd HA.out (by simp [cellarlaw7_Heavy.l0])
  | succ k1 =>
   have H := HA.out
   clear HA
   simp only [cellarlaw7_Heavy.l0] at H
   by_cases c5 : x4_1 < (l0_1.length : Int)
   ·rw [if_pos c5] at H
    have c5b0 : decide (x4_1 < (l0_1.length : Int)) = true := decide_eq_true c5
    clear c5
    by_cases c6 : x3_1 < 1048576
    rotate_left
    ·rw [if_neg c6] at H
     have c6b0 : decide (x3_1 < 1048576) = false := decide_eq_false c6
     clear c6
     obtain rfl := Option.some.inj H
     have hcz10_0 := zc BK201.out 0
     have hcz10_1 := zc BK201.out 1
     have hcz10_2 := zc BK201.out 2
     have hcz10_3 := zc BK201.out 3
     have hfz10_0 := blk_frozen BK201.out 0
     have hfz10_1 := blk_frozen BK201.out 1
     have hfz10_2 := blk_frozen BK201.out 2
     have hfz10_3 := blk_frozen BK201.out 3
     go_wp2
     repeat (go_quiet (fail); try go_wp2)
     go_ret
     exact ⟨ze, zw1 HB.out GE201.out⟩
    rw [if_pos c6] at H
    have c6b0 : decide (x3_1 < 1048576) = true := decide_eq_true c6
    clear c6
    by_cases c7 : 0 ≤ x4_1
    rotate_left
    ·rw [if_neg c7] at H
     exact absurd H (by simp)
    rw [if_pos c7] at H
    have c7b0 : decide (0 ≤ x4_1) = true := decide_eq_true c7
    clear c7
    replace H := Option.bind_eq_some_iff.mp H
    obtain ⟨t204, A80, H⟩ := H
    replace H : (cellarlaw7_Heavy.l0 k1 (wrap64 (x3_1 + t204)) (wrap64 (x4_1 + 1)) l0_0 l0_1 l0_2 l0_3) = some r := H
    have A8 := Aside0.mk A80
    clear A80
    have H' := Aside0.mk H
    clear H
    have hcz9_0 := zc BK201.out 0
    have hcz9_1 := zc BK201.out 1
    have hcz9_2 := zc BK201.out 2
    have hcz9_3 := zc BK201.out 3
    have hfz9_0 := blk_frozen BK201.out 0
    have hfz9_1 := blk_frozen BK201.out 1
    have hfz9_2 := blk_frozen BK201.out 2
    have hfz9_3 := blk_frozen BK201.out 3
    have p203 : 0 ≤ (x4_1 : Int) := zdec
    have q203 : x4_1 < (l0_1.length : Int) := zdec
    obtain ⟨ad203, A203_0, c203_0, e203, hx203_0, hl203_0, hi203_0⟩ := at_L6 HR0_1.out x4_1 p203 q203
    cases e203
    replace hx203_0 := zh HB.out hx203_0
    have HR203_0 := Aside0.mk hi203_0
    have HC203_0 := Aside0.mk hl203_0
    clear hi203_0 hl203_0
    replace p203 := eq_true p203
    replace q203 := eq_true q203
    go_wp2_with (first | (go_at_call 53; (with_reducible refine (cellarlaw0_TypesWeight.calls k1 _ _ (rd_L6 l0_1 x4_1) t204 _ ?side1 ?side2 A8.out).mono ?_); (case side1 => repeat (first | exact (Kd.C_below HR203_0.out HB.out) | (with_reducible refine Kd.C_alloc ?_ _) | (with_reducible refine Kd.C_drewN ?_ _) | (with_reducible refine Kd.C_drew ?_))); (case side2 => exact HC203_0.out); rintro e w' ⟨rfl, ⟨nd, rfl⟩⟩; (try first | exact ⟨rfl, _, World.drewN_drewN _ _ _⟩ | exact ⟨rfl, _, Eq.trans (World.drewN_drewN _ _ _) (congrArg (World.drewN _) (Nat.add_assoc _ _ _))⟩)))
    repeat (go_quiet (first | (go_at_call 53; (with_reducible refine (cellarlaw0_TypesWeight.calls k1 _ _ (rd_L6 l0_1 x4_1) t204 _ ?side1 ?side2 A8.out).mono ?_); (case side1 => repeat (first | exact (Kd.C_below HR203_0.out HB.out) | (with_reducible refine Kd.C_alloc ?_ _) | (with_reducible refine Kd.C_drewN ?_ _) | (with_reducible refine Kd.C_drew ?_))); (case side2 => exact HC203_0.out); rintro e w' ⟨rfl, ⟨nd, rfl⟩⟩; (try first | exact ⟨rfl, _, World.drewN_drewN _ _ _⟩ | exact ⟨rfl, _, Eq.trans (World.drewN_drewN _ _ _) (congrArg (World.drewN _) (Nat.add_assoc _ _ _))⟩))); try go_wp2_with (first | (go_at_call 53; (with_reducible refine (cellarlaw0_TypesWeight.calls k1 _ _ (rd_L6 l0_1 x4_1) t204 _ ?side1 ?side2 A8.out).mono ?_); (case side1 => repeat (first | exact (Kd.C_below HR203_0.out HB.out) | (with_reducible refine Kd.C_alloc ?_ _) | (with_reducible refine Kd.C_drewN ?_ _) | (with_reducible refine Kd.C_drew ?_))); (case side2 => exact HC203_0.out); rintro e w' ⟨rfl, ⟨nd, rfl⟩⟩; (try first | exact ⟨rfl, _, World.drewN_drewN _ _ _⟩ | exact ⟨rfl, _, Eq.trans (World.drewN_drewN _ _ _) (congrArg (World.drewN _) (Nat.add_assoc _ _ _))⟩))))
    go_roundg k1
    case measure => have := HK1.out; omega
    case rel => exact ⟨(wrap64 (x3_1 + t204)), (wrap64 (x4_1 + 1)), (zr), (zr), H', ⟨by have := HK1.out; omega⟩, ⟨zb BK201.out⟩, ⟨zw1 HB.out GE201.out⟩⟩
   ·rw [if_neg c5] at H
    have c5b0 : decide (x4_1 < (l0_1.length : Int)) = false := decide_eq_false c5
    clear c5
    obtain rfl := Option.some.inj H
    have hcz11_0 := zc BK201.out 0
    have hcz11_1 := zc BK201.out 1
    have hcz11_2 := zc BK201.out 2
    have hcz11_3 := zc BK201.out 3
    have hfz11_0 := blk_frozen BK201.out 0
    have hfz11_1 := blk_frozen BK201.out 1
    have hfz11_2 := blk_frozen BK201.out 2
    have hfz11_3 := blk_frozen BK201.out 3
    go_wp2
    repeat (go_quiet (fail); try go_wp2)
    go_ret
    exact ⟨ze, zw1 HB.out GE201.out⟩

/-! cellarlaw7_machines -/
def cellarlaw7_machines.f (l0_0 : List (S29)) (l0_1 : List (List (S31))) (l0_2 : List ByteArray) (l0_3 : List Int) : Option ((List (S29))) := (some (([(⟨false, 4⟩ : S29), (⟨true, 2⟩ : S29)] : List (S29)) : List (S29))).bind fun y206 => (if y206.length + l0_0.length < 8796093022208 then ((some (y206 ++ l0_0 : List (S29))).bind fun y209 => (if (y209.length : Int) > 4 then (if 4 ≤ (y209.length : Int) then (some (y209.take (4 : Int).toNat)) else (none)) else (some y209))) else (none))
set_option maxHeartbeats 8000000 in
set_option maxRecDepth 100000 in
theorem cellarlaw7_machines.calls (A0_0 : Option Addr) (c0_0 : Nat) (l0_0 : List (S29)) (A0_1 : Option Addr) (c0_1 : Nat) (l0_1 : List (List (S31))) (A0_2 : Option Addr) (c0_2 : Nat) (l0_2 : List ByteArray) (A0_3 : Option Addr) (c0_3 : Nat) (l0_3 : List Int) (r : List (S29)) (w : World) (hr0_0 : Kd.C k29 w A0_0 l0_0.length l0_0) (hc0_0 : l0_0.length ≤ c0_0) (hr0_1 : Kd.C (Kd.slice 31 k31) w A0_1 l0_1.length l0_1) (hc0_1 : l0_1.length ≤ c0_1) (hr0_2 : Kd.C Kd.string w A0_2 l0_2.length l0_2) (hc0_2 : l0_2.length ≤ c0_2) (hr0_3 : Kd.C (Kd.int .i64) w A0_3 l0_3.length l0_3) (hc0_3 : l0_3.length ≤ c0_3) (h : cellarlaw7_machines.f l0_0 l0_1 l0_2 l0_3 = some r) :
  Calls Try.prog 15 #[.agg #[.slice A0_0 l0_0.length c0_0, .slice A0_1 l0_1.length c0_1, .slice A0_2 l0_2.length c0_2, .slice A0_3 l0_3.length c0_3]] w fun e w' => ∃ v0_ : Value, e = .returned (v0_) ∧ Kd.R k29 29 w' w.heap.size (fun _ => True) v0_ r ∧ Below w.heap.size w w' := by
 have hu27 := Try.underlying27
 have hu29 := Try.underlying29
 have HR0_0 := Aside0.mk hr0_0
 have HC0_0 := Aside0.mk hc0_0
 clear hr0_0 hc0_0
 have HR0_1 := Aside0.mk hr0_1
 have HC0_1 := Aside0.mk hc0_1
 clear hr0_1 hc0_1
 have HR0_2 := Aside0.mk hr0_2
 have HC0_2 := Aside0.mk hc0_2
 clear hr0_2 hc0_2
 have HR0_3 := Aside0.mk hr0_3
 have HC0_3 := Aside0.mk hc0_3
 clear hr0_3 hc0_3
 have HB := Aside0.mk (Below.refl w.heap.size w)
 have H : ((some (([(⟨false, 4⟩ : S29), (⟨true, 2⟩ : S29)] : List (S29)) : List (S29))).bind fun y206 => (if y206.length + l0_0.length < 8796093022208 then ((some (y206 ++ l0_0 : List (S29))).bind fun y209 => (if (y209.length : Int) > 4 then (if 4 ≤ (y209.length : Int) then (some (y209.take (4 : Int).toNat)) else (none)) else (some y209))) else (none))) = some r := h
 clear h
 obtain ⟨y206, hy206⟩ : ∃ y_ : List (S29), y_ = (([(⟨false, 4⟩ : S29), (⟨true, 2⟩ : S29)] : List (S29))) := ⟨_, rfl⟩
 replace H : (if y206.length + l0_0.length < 8796093022208 then ((some (y206 ++ l0_0 : List (S29))).bind fun y209 => (if (y209.length : Int) > 4 then (if 4 ≤ (y209.length : Int) then (some (y209.take (4 : Int).toNat)) else (none)) else (some y209))) else (none)) = some r := by first | (rw [hy206]; with_reducible exact H) | (have H2_ := (Option.bind_some _ _).symm.trans H; rw [hy206]; with_reducible exact H2_) | (have H2_ := (Option.bind_some _ _).symm.trans H; with_reducible exact H2_) | with_reducible exact H | (rw [hy206]; exact H) | exact H
 have Ny206 := Aside0.mk hy206
 clear hy206
 by_cases c2 : y206.length + l0_0.length < 8796093022208
 ·rw [if_pos c2] at H
  have LMc2 := Aside0.mk c2
  clear c2
  obtain ⟨y209, hy209⟩ : ∃ y_ : List (S29), y_ = (y206 ++ l0_0) := ⟨_, rfl⟩
  replace H : (if (y209.length : Int) > 4 then (if 4 ≤ (y209.length : Int) then (some (y209.take (4 : Int).toNat)) else (none)) else (some y209)) = some r := by first | (rw [hy209]; with_reducible exact H) | (have H2_ := (Option.bind_some _ _).symm.trans H; rw [hy209]; with_reducible exact H2_) | (have H2_ := (Option.bind_some _ _).symm.trans H; with_reducible exact H2_) | with_reducible exact H | (rw [hy209]; exact H) | exact H
  have Ny209 := Aside0.mk hy209
  clear hy209
  by_cases c3 : (y209.length : Int) > 4
  rotate_left
  ·rw [if_neg c3] at H
   have c3b0 : decide (4 < (y209.length : Int)) = false := decide_eq_false c3
   have c3b1 : decide (4 < y209.length) = false := decide_eq_false (by omega)
   clear c3
   obtain rfl := Option.some.inj H
   go_enter Try.func15, Try.ntmps15
   go_wp2_with (first | ((with_reducible refine gate_dst (N := 1) rfl ?_); refine zbox (N := 1) (cs := #[.slice A0_0 l0_0.length c0_0, .slice A0_1 l0_1.length c0_1, .slice A0_2 l0_2.length c0_2, .slice A0_3 l0_3.length c0_3]) (t := 27) ?_; intro gb205 hg w12 hbox hb; have n0_ := Aside0.mk (below_step (zw0 HB.out) hb); have BK205 := Aside0.mk (hbox); have GW205 := Aside0.mk (zg hg (below_size (zw0 HB.out))); have GE205 := GW205; clear HB; have HB := n0_; clear n0_; clear hb hbox hg) | ((with_reducible refine gate_dst (N := 6) rfl ?_); refine Kd.R_lit k29 _ 29 ?hg (N := 6) ?hd (xs := ([(⟨false, 4⟩ : S29), (⟨true, 2⟩ : S29)] : List (S29))) (inner := [.bool false, .int .i64 4, .bool true, .int .i64 2]) (ok := fun _ => True) (okp := fun _ => True) ?hr ?hp (fun _ hk => hk) trivial (Below.refl _ _) (Nat.le_refl _) (by simp) ?_; (case hd => rfl); (case hg => rfl); (case hr => first | (go_simp; done) | (go_simp; rfl)); (case hp => exact (Reps.c2 (show Kd.M k29 _ _ _ (⟨false, 4⟩ : S29) [.bool false, .int .i64 4] from (k29_mkM _ _ _ (⟨false, 4⟩ : S29) )) (Reps.c2 (show Kd.M k29 _ _ _ (⟨true, 2⟩ : S29) [.bool true, .int .i64 2] from (k29_mkM _ _ _ (⟨true, 2⟩ : S29) )) (Reps.none _ _)))); intro v207 w13 ho14 hb hg_ hnew_; clear hg_ hnew_; (first | rw [← Ny206.out] at ho14 | (simp only [Int.reduceToNat] at ho14; rw [← Ny206.out] at ho14)); have HO208 := Aside0.mk (Kd.R_lower ho14 (below_size (zw1 HB.out GE205.out))); have n1_ := Aside0.mk (zbb BK205.out hb); have n2_ := Aside0.mk (below_step (zw1 HB.out GE205.out) hb); clear BK205 HB; have BK205 := n1_; have HB := n2_; clear n1_ n2_; clear hb ho14; have hcz15_0 := zc BK205.out 0; have hcz15_1 := zc BK205.out 1; have hcz15_2 := zc BK205.out 2; have hcz15_3 := zc BK205.out 3; have hfz15_0 := blk_frozen BK205.out 0; have hfz15_1 := blk_frozen BK205.out 1; have hfz15_2 := blk_frozen BK205.out 2; have hfz15_3 := blk_frozen BK205.out 3) | ((with_reducible refine gate_builtin (b := .append) (xs := #[.tmp 6, .tmp 8]) rfl ?_); at_builtin; refine Kd.R_append_rows k29 (w0 := w) w.heap.size rfl (.tmp 6) (.tmp 8) 22 29 (.agg #[(.bool false), (.int .i64 0)]) 16 rfl Try.underlying22 info29 rfl (by decide) (by omega) v207 y206 l0_0 _ _ _ (fun _ => True) (fun _ => False) rfl rfl ?aO ?aR (fun _ _ h => h) (fun _ h => h.elim) ?aF ?aB ?aS ?aL ?_; (case aR => repeat (first | exact (Kd.C_below HR0_0.out HB.out) | (with_reducible refine Kd.C_alloc ?_ _) | (with_reducible refine Kd.C_drewN ?_ _) | (with_reducible refine Kd.C_drew ?_))); (case aB => exact (zw1 HB.out GE205.out)); (case aF => exact (fun _ _ => trivial)); (case aO => exact (by (with_reducible repeat (first | apply Kd.R_alloc | apply Kd.R_drewN | apply Kd.R_drew)); exact HO208.out)); (case aS => exact (below_size (zw1 HB.out GE205.out))); (case aL => have := LMc2.out; omega); intro v210 w16 ho hb hg hat; rw [← Ny209.out] at ho; have n0_ := Aside0.mk (blk_grown (g := gb205) (o := .cells #[.slice A0_0 l0_0.length c0_0, .slice A0_1 l0_1.length c0_1, .slice A0_2 l0_2.length c0_2, .slice A0_3 l0_3.length c0_3] 27 (0, 0)) (zb BK205.out) hg (Kd.R_ne HO208.out BK205.out (by decide))); have n1_ := Aside0.mk (hb); have HO211 := Aside0.mk (ho); clear BK205 HB HO208; have BK205 := n0_; have HB := n1_; clear n0_ n1_; clear ho hb hg hat; obtain ⟨Ao17, co17, eo17⟩ := Kd.R_slice HO211.out; subst eo17))
   go_ret
   exact ⟨_, ze, by (with_reducible repeat (first | apply Kd.R_alloc | apply Kd.R_drewN | apply Kd.R_drew)); exact HO211.out, zw1 HB.out GE205.out⟩
  rw [if_pos c3] at H
  have c3b0 : decide (4 < (y209.length : Int)) = true := decide_eq_true c3
  have c3b1 : decide (4 < y209.length) = true := decide_eq_true (by omega)
  clear c3
  by_cases c4 : 4 ≤ (y209.length : Int)
  rotate_left
  ·rw [if_neg c4] at H
   exact absurd H (by simp)
  rw [if_pos c4] at H
  have c4b0 := eq_true c4
  have c4b1 : decide (4 ≤ (y209.length : Int)) = true := decide_eq_true c4
  clear c4
  obtain ⟨y212, hy212⟩ : ∃ y_ : List (S29), y_ = (y209.take (4 : Int).toNat) := ⟨_, rfl⟩
  replace H : (some y212) = some r := by first | (rw [hy212]; with_reducible exact H) | (have H2_ := (Option.bind_some _ _).symm.trans H; rw [hy212]; with_reducible exact H2_) | (have H2_ := (Option.bind_some _ _).symm.trans H; with_reducible exact H2_) | with_reducible exact H | (rw [hy212]; exact H) | exact H
  have Ny212 := Aside0.mk hy212
  clear hy212
  obtain rfl := Option.some.inj H
  go_enter Try.func15, Try.ntmps15
  go_wp2_with (first | ((with_reducible refine gate_dst (N := 1) rfl ?_); refine zbox (N := 1) (cs := #[.slice A0_0 l0_0.length c0_0, .slice A0_1 l0_1.length c0_1, .slice A0_2 l0_2.length c0_2, .slice A0_3 l0_3.length c0_3]) (t := 27) ?_; intro gb205 hg w5 hbox hb; have n0_ := Aside0.mk (below_step (zw0 HB.out) hb); have BK205 := Aside0.mk (hbox); have GW205 := Aside0.mk (zg hg (below_size (zw0 HB.out))); have GE205 := GW205; clear HB; have HB := n0_; clear n0_; clear hb hbox hg) | ((with_reducible refine gate_dst (N := 6) rfl ?_); refine Kd.R_lit k29 _ 29 ?hg (N := 6) ?hd (xs := ([(⟨false, 4⟩ : S29), (⟨true, 2⟩ : S29)] : List (S29))) (inner := [.bool false, .int .i64 4, .bool true, .int .i64 2]) (ok := fun _ => True) (okp := fun _ => True) ?hr ?hp (fun _ hk => hk) trivial (Below.refl _ _) (Nat.le_refl _) (by simp) ?_; (case hd => rfl); (case hg => rfl); (case hr => first | (go_simp; done) | (go_simp; rfl)); (case hp => exact (Reps.c2 (show Kd.M k29 _ _ _ (⟨false, 4⟩ : S29) [.bool false, .int .i64 4] from (k29_mkM _ _ _ (⟨false, 4⟩ : S29) )) (Reps.c2 (show Kd.M k29 _ _ _ (⟨true, 2⟩ : S29) [.bool true, .int .i64 2] from (k29_mkM _ _ _ (⟨true, 2⟩ : S29) )) (Reps.none _ _)))); intro v207 w6 ho7 hb hg_ hnew_; clear hg_ hnew_; (first | rw [← Ny206.out] at ho7 | (simp only [Int.reduceToNat] at ho7; rw [← Ny206.out] at ho7)); have HO208 := Aside0.mk (Kd.R_lower ho7 (below_size (zw1 HB.out GE205.out))); have n1_ := Aside0.mk (zbb BK205.out hb); have n2_ := Aside0.mk (below_step (zw1 HB.out GE205.out) hb); clear BK205 HB; have BK205 := n1_; have HB := n2_; clear n1_ n2_; clear hb ho7; have hcz8_0 := zc BK205.out 0; have hcz8_1 := zc BK205.out 1; have hcz8_2 := zc BK205.out 2; have hcz8_3 := zc BK205.out 3; have hfz8_0 := blk_frozen BK205.out 0; have hfz8_1 := blk_frozen BK205.out 1; have hfz8_2 := blk_frozen BK205.out 2; have hfz8_3 := blk_frozen BK205.out 3) | ((with_reducible refine gate_builtin (b := .append) (xs := #[.tmp 6, .tmp 8]) rfl ?_); at_builtin; refine Kd.R_append_rows k29 (w0 := w) w.heap.size rfl (.tmp 6) (.tmp 8) 22 29 (.agg #[(.bool false), (.int .i64 0)]) 16 rfl Try.underlying22 info29 rfl (by decide) (by omega) v207 y206 l0_0 _ _ _ (fun _ => True) (fun _ => False) rfl rfl ?aO ?aR (fun _ _ h => h) (fun _ h => h.elim) ?aF ?aB ?aS ?aL ?_; (case aR => repeat (first | exact (Kd.C_below HR0_0.out HB.out) | (with_reducible refine Kd.C_alloc ?_ _) | (with_reducible refine Kd.C_drewN ?_ _) | (with_reducible refine Kd.C_drew ?_))); (case aB => exact (zw1 HB.out GE205.out)); (case aF => exact (fun _ _ => trivial)); (case aO => exact (by (with_reducible repeat (first | apply Kd.R_alloc | apply Kd.R_drewN | apply Kd.R_drew)); exact HO208.out)); (case aS => exact (below_size (zw1 HB.out GE205.out))); (case aL => have := LMc2.out; omega); intro v210 w9 ho hb hg hat; rw [← Ny209.out] at ho; have n0_ := Aside0.mk (blk_grown (g := gb205) (o := .cells #[.slice A0_0 l0_0.length c0_0, .slice A0_1 l0_1.length c0_1, .slice A0_2 l0_2.length c0_2, .slice A0_3 l0_3.length c0_3] 27 (0, 0)) (zb BK205.out) hg (Kd.R_ne HO208.out BK205.out (by decide))); have n1_ := Aside0.mk (hb); have HO211 := Aside0.mk (ho); clear BK205 HB HO208; have BK205 := n0_; have HB := n1_; clear n0_ n1_; clear ho hb hg hat; obtain ⟨Ao10, co10, eo10⟩ := Kd.R_slice HO211.out; subst eo10; have q11 : (4 : Int) ≤ ((y209.length : Int) : Int) := zdec; obtain ⟨i011, hi011, _, hsz11, _⟩ := info_parts info29; have hcut11 := cut_to (P := Try.prog) 22 29 .i64 Try.underlying22 hi011 Ao10 y209.length co10 4 (by omega) q11 (Kd.R_reads' HO211.out).2.1; have hr11 := Kd.R_take (m := (4 : Int).toNat) HO211.out (by omega); have hy11 : y212.length = (4 : Int).toNat := (by rw [Ny212.out, List.length_take]; omega); rw [← Ny212.out] at hr11; rw [← hy11] at hr11 hcut11; clear hy11 hi011 hsz11 HO211; have HO214 := Aside0.mk hr11; clear hr11; replace q11 := eq_true q11))
  go_ret
  exact ⟨_, ze, by (with_reducible repeat (first | apply Kd.R_alloc | apply Kd.R_drewN | apply Kd.R_drew)); exact HO214.out, zw1 HB.out GE205.out⟩
 ·rw [if_neg c2] at H
  exact absurd H (by simp)

/-! cellarref0_CopyStrings -/
def cellarref0_CopyStrings.l0 : Nat → List ByteArray → List ByteArray → Int → Option (List ByteArray)
 | 0, _, _, _ => none
 | k + 1, x0, x3, x4 => if x4 < (x0.length : Int) then (if 0 ≤ x4 then (if x3.length < 8796093022208 then (cellarref0_CopyStrings.l0 k x0 (x3 ++ [rdOf ByteArray.empty x0 x4]) (wrap64 (x4 + 1))) else (none)) else (none)) else (some x3)
def cellarref0_CopyStrings.f (k : Nat) (l0 : List ByteArray) : Option (List ByteArray) := cellarref0_CopyStrings.l0 k l0 ([] : List ByteArray) 0
theorem cellarref0_CopyStrings.mono_l : ∀ k, (∀ y0 y1 y2, LeO (cellarref0_CopyStrings.l0 k y0 y1 y2) (cellarref0_CopyStrings.l0 (k + 1) y0 y1 y2))
 | 0 => fun _ _ _ r h => by simp [cellarref0_CopyStrings.l0] at h
 | k + 1 => by
  have ih0 := cellarref0_CopyStrings.mono_l k
  ·intro y0 y1 y2
   unfold cellarref0_CopyStrings.l0
   repeat' first
   | (with_reducible apply ih0)
   | (with_reducible apply LeO.refl)
   | (with_reducible apply LeO.none)
   | (with_reducible refine LeO.ite ?_ ?_)
   | (with_reducible refine LeO.bind ?_ (fun _ => ?_))
theorem cellarref0_CopyStrings.mono : ∀ a0 k, LeO (cellarref0_CopyStrings.f k a0) (cellarref0_CopyStrings.f (k + 1) a0) := by
 intro a0 k
 have ih0 := cellarref0_CopyStrings.mono_l k
 unfold cellarref0_CopyStrings.f
 repeat' first
   | (with_reducible apply ih0)
   | (with_reducible apply LeO.refl)
   | (with_reducible apply LeO.none)
   | (with_reducible refine LeO.ite ?_ ?_)
   | (with_reducible refine LeO.bind ?_ (fun _ => ?_))
set_option maxHeartbeats 8000000 in
set_option maxRecDepth 100000 in
theorem cellarref0_CopyStrings.calls (k : Nat) (A0 : Option Addr) (c0 : Nat) (l0 : List ByteArray) (r : List ByteArray) (w : World) (hr0 : Kd.C Kd.string w A0 l0.length l0) (hc0 : l0.length ≤ c0) (h : cellarref0_CopyStrings.f k l0 = some r) :
  Calls Try.prog 87 #[.slice A0 l0.length c0] w fun e w' => ∃ v0_ : Value, e = .returned (v0_) ∧ Kd.R Kd.string 9 w' w.heap.size (fun _ => True) v0_ r ∧ Below w.heap.size w w' := by
 have HR0 := Aside0.mk hr0
 have HC0 := Aside0.mk hc0
 clear hr0 hc0
 have HB := Aside0.mk (Below.refl w.heap.size w)
 have H : (cellarref0_CopyStrings.l0 k l0 ([] : List ByteArray) 0) = some r := h
 clear h
 have H' := Aside0.mk H
 clear H
 go_enter Try.func87, Try.ntmps87
 go_wp2
 go_loopg [3, 4] k (fun kq v3 v4 w' => ∃ (x3_1 : List ByteArray) (x4_1 : Int), v4 = .int .i64 x4_1 ∧ Aside0 (cellarref0_CopyStrings.l0 kq l0 x3_1 x4_1 = some r) ∧ Aside0 (kq ≤ k) ∧ Aside0 (Kd.R Kd.string 9 w' w.heap.size (fun _ => True) v3 x3_1) ∧ Aside0 (Below w.heap.size w w'))
 case atStart => exact ⟨(([] : List ByteArray)), (0), (zr), H', ⟨Nat.le_refl _⟩, ⟨by first | exact Kd.R_nil _ _ _ _ _ | exact Kd.N_nil _ _ _ _ _ | exact Kd.V_nil _ _ _ _ _ | exact Kd.Q_nil _ _ _ _ _ | exact Kd.S_nil _ _ _ _ _⟩, ⟨zw0 HB.out⟩⟩
 case round =>
  clear H'
  obtain ⟨x3_1, x4_1, rfl, HA, HK1, HO_3, HB⟩ := hrel
  cases gk with
  | zero => exact absurd HA.out (by simp [cellarref0_CopyStrings.l0])
  | succ k1 =>
   have H := HA.out
   clear HA
   simp only [cellarref0_CopyStrings.l0] at H
   by_cases c2 : x4_1 < (l0.length : Int)
   ·rw [if_pos c2] at H
    have c2b0 : decide (x4_1 < (l0.length : Int)) = true := decide_eq_true c2
    clear c2
    by_cases c3 : 0 ≤ x4_1
    rotate_left
    ·rw [if_neg c3] at H
     exact absurd H (by simp)
    rw [if_pos c3] at H
    have c3b0 : decide (0 ≤ x4_1) = true := decide_eq_true c3
    clear c3
    by_cases c4 : x3_1.length < 8796093022208
    rotate_left
    ·rw [if_neg c4] at H
     exact absurd H (by simp)
    rw [if_pos c4] at H
    have LMc4 := Aside0.mk c4
    clear c4
    obtain ⟨y216, hy216⟩ : ∃ y_ : List ByteArray, y_ = (x3_1 ++ [rdOf ByteArray.empty l0 x4_1]) := ⟨_, rfl⟩
    replace H : (cellarref0_CopyStrings.l0 k1 l0 y216 (wrap64 (x4_1 + 1))) = some r := by first | (rw [hy216]; with_reducible exact H) | (have H2_ := (Option.bind_some _ _).symm.trans H; rw [hy216]; with_reducible exact H2_) | (have H2_ := (Option.bind_some _ _).symm.trans H; with_reducible exact H2_) | with_reducible exact H | (rw [hy216]; exact H) | exact H
    have Ny216 := Aside0.mk hy216
    clear hy216
    have H' := Aside0.mk H
    clear H
    have p215 : 0 ≤ (x4_1 : Int) := zdec
    have q215 : x4_1 < (l0.length : Int) := zdec
    obtain ⟨ad215, e215, hx215_0⟩ := Kd.at_string HR0.out x4_1 p215 q215
    cases e215
    replace hx215_0 := zh HB.out hx215_0
    replace p215 := eq_true p215
    replace q215 := eq_true q215
    go_wp2_with (first | ((with_reducible refine gate_builtin (b := .append) (xs := #[.tmp 11, .tmp 16]) rfl ?_); at_builtin; refine Kd.R_append Kd.string (w0 := w) w.heap.size rfl (.tmp 11) (.tmp 16) 24 9 (.string ⟨#[]⟩) 16 rfl Try.underlying24 info9 rfl (by decide) (by omega) u3 x3_1 (rdOf ByteArray.empty l0 x4_1) [.string (rdOf ByteArray.empty l0 x4_1)] (fun _ => True) (fun _ => False) rfl rfl ?aP (fun _ hk => hk.elim) ?aF ?aO ?aB ?aS ?aL ?_; (case aP => exact rfl); (case aB => exact (zw0 HB.out)); (case aF => exact (fun _ _ => trivial)); (case aO => exact (by (with_reducible repeat (first | apply Kd.R_alloc | apply Kd.R_drewN | apply Kd.R_drew)); exact HO_3.out)); (case aS => exact (below_size (zw0 HB.out))); (case aL => have := LMc4.out; omega); intro v217 w5 ho hb hg hat; rw [← Ny216.out] at ho; have n0_ := Aside0.mk (hb); have HO218 := Aside0.mk (ho); clear HB HO_3; have HB := n0_; clear n0_; clear ho hb hg hat))
    go_roundg k1
    case measure => have := HK1.out; omega
    case rel => exact ⟨(y216), (wrap64 (x4_1 + 1)), (zr), H', ⟨by have := HK1.out; omega⟩, ⟨by (with_reducible repeat (first | apply Kd.R_alloc | apply Kd.R_drewN | apply Kd.R_drew)); exact HO218.out⟩, ⟨zw0 HB.out⟩⟩
   ·rw [if_neg c2] at H
    have c2b0 : decide (x4_1 < (l0.length : Int)) = false := decide_eq_false c2
    clear c2
    obtain rfl := Option.some.inj H
    go_wp2
    go_ret
    exact ⟨_, ze, by (with_reducible repeat (first | apply Kd.R_alloc | apply Kd.R_drewN | apply Kd.R_drew)); exact HO_3.out, zw0 HB.out⟩

/-! cellarref0_CopyNumbers -/
def cellarref0_CopyNumbers.l0 : Nat → List Int → List Int → Int → Option (List Int)
 | 0, _, _, _ => none
 | k + 1, x0, x3, x4 => if x4 < (x0.length : Int) then (if 0 ≤ x4 then (if x3.length < 17592186044416 then (cellarref0_CopyNumbers.l0 k x0 (x3 ++ [rd x0 x4]) (wrap64 (x4 + 1))) else (none)) else (none)) else (some x3)
def cellarref0_CopyNumbers.f (k : Nat) (l0 : List Int) : Option (List Int) := cellarref0_CopyNumbers.l0 k l0 ([] : List Int) 0
theorem cellarref0_CopyNumbers.mono_l : ∀ k, (∀ y0 y1 y2, LeO (cellarref0_CopyNumbers.l0 k y0 y1 y2) (cellarref0_CopyNumbers.l0 (k + 1) y0 y1 y2))
 | 0 => fun _ _ _ r h => by simp [cellarref0_CopyNumbers.l0] at h
 | k + 1 => by
  have ih0 := cellarref0_CopyNumbers.mono_l k
  ·intro y0 y1 y2
   unfold cellarref0_CopyNumbers.l0
   repeat' first
   | (with_reducible apply ih0)
   | (with_reducible apply LeO.refl)
   | (with_reducible apply LeO.none)
   | (with_reducible refine LeO.ite ?_ ?_)
   | (with_reducible refine LeO.bind ?_ (fun _ => ?_))
theorem cellarref0_CopyNumbers.mono : ∀ a0 k, LeO (cellarref0_CopyNumbers.f k a0) (cellarref0_CopyNumbers.f (k + 1) a0) := by
 intro a0 k
 have ih0 := cellarref0_CopyNumbers.mono_l k
 unfold cellarref0_CopyNumbers.f
 repeat' first
   | (with_reducible apply ih0)
   | (with_reducible apply LeO.refl)
   | (with_reducible apply LeO.none)
   | (with_reducible refine LeO.ite ?_ ?_)
   | (with_reducible refine LeO.bind ?_ (fun _ => ?_))
set_option maxHeartbeats 8000000 in
set_option maxRecDepth 100000 in
theorem cellarref0_CopyNumbers.calls (k : Nat) (A0 : Option Addr) (c0 : Nat) (l0 : List Int) (r : List Int) (w : World) (hr0 : Kd.C (Kd.int .i64) w A0 l0.length l0) (hc0 : l0.length ≤ c0) (h : cellarref0_CopyNumbers.f k l0 = some r) :
  Calls Try.prog 88 #[.slice A0 l0.length c0] w fun e w' => ∃ v0_ : Value, e = .returned (v0_) ∧ Kd.R (Kd.int .i64) 3 w' w.heap.size (fun _ => True) v0_ r ∧ Below w.heap.size w w' := by
 have HR0 := Aside0.mk hr0
 have HC0 := Aside0.mk hc0
 clear hr0 hc0
 have HB := Aside0.mk (Below.refl w.heap.size w)
 have H : (cellarref0_CopyNumbers.l0 k l0 ([] : List Int) 0) = some r := h
 clear h
 have H' := Aside0.mk H
 clear H
 go_enter Try.func88, Try.ntmps88
 go_wp2
 go_loopg [3, 4] k (fun kq v3 v4 w' => ∃ (x3_1 : List Int) (x4_1 : Int), v4 = .int .i64 x4_1 ∧ Aside0 (cellarref0_CopyNumbers.l0 kq l0 x3_1 x4_1 = some r) ∧ Aside0 (kq ≤ k) ∧ Aside0 (Kd.R (Kd.int .i64) 3 w' w.heap.size (fun _ => True) v3 x3_1) ∧ Aside0 (Below w.heap.size w w'))
 case atStart => exact ⟨(([] : List Int)), (0), (zr), H', ⟨Nat.le_refl _⟩, ⟨by first | exact Kd.R_nil _ _ _ _ _ | exact Kd.N_nil _ _ _ _ _ | exact Kd.V_nil _ _ _ _ _ | exact Kd.Q_nil _ _ _ _ _ | exact Kd.S_nil _ _ _ _ _⟩, ⟨zw0 HB.out⟩⟩
 case round =>
  clear H'
  obtain ⟨x3_1, x4_1, rfl, HA, HK1, HO_3, HB⟩ := hrel
  cases gk with
  | zero => exact absurd HA.out (by simp [cellarref0_CopyNumbers.l0])
  | succ k1 =>
   have H := HA.out
   clear HA
   simp only [cellarref0_CopyNumbers.l0] at H
   by_cases c2 : x4_1 < (l0.length : Int)
   ·rw [if_pos c2] at H
    have c2b0 : decide (x4_1 < (l0.length : Int)) = true := decide_eq_true c2
    clear c2
    by_cases c3 : 0 ≤ x4_1
    rotate_left
    ·rw [if_neg c3] at H
     exact absurd H (by simp)
    rw [if_pos c3] at H
    have c3b0 : decide (0 ≤ x4_1) = true := decide_eq_true c3
    clear c3
    by_cases c4 : x3_1.length < 17592186044416
    rotate_left
    ·rw [if_neg c4] at H
     exact absurd H (by simp)
    rw [if_pos c4] at H
    have LMc4 := Aside0.mk c4
    clear c4
    obtain ⟨y220, hy220⟩ : ∃ y_ : List Int, y_ = (x3_1 ++ [rd l0 x4_1]) := ⟨_, rfl⟩
    replace H : (cellarref0_CopyNumbers.l0 k1 l0 y220 (wrap64 (x4_1 + 1))) = some r := by first | (rw [hy220]; with_reducible exact H) | (have H2_ := (Option.bind_some _ _).symm.trans H; rw [hy220]; with_reducible exact H2_) | (have H2_ := (Option.bind_some _ _).symm.trans H; with_reducible exact H2_) | with_reducible exact H | (rw [hy220]; exact H) | exact H
    have Ny220 := Aside0.mk hy220
    clear hy220
    have H' := Aside0.mk H
    clear H
    have p219 : 0 ≤ (x4_1 : Int) := zdec
    have q219 : x4_1 < (l0.length : Int) := zdec
    obtain ⟨ad219, e219, hx219_0⟩ := Kd.at_int HR0.out x4_1 p219 q219
    cases e219
    replace hx219_0 := zh HB.out hx219_0
    replace p219 := eq_true p219
    replace q219 := eq_true q219
    go_wp2_with (first | ((with_reducible refine gate_builtin (b := .append) (xs := #[.tmp 11, .tmp 16]) rfl ?_); at_builtin; refine Kd.R_append (Kd.int .i64) (w0 := w) w.heap.size rfl (.tmp 11) (.tmp 16) 25 3 (.int .i64 0) 8 rfl Try.underlying25 info3 rfl (by decide) (by omega) u3 x3_1 (rd l0 x4_1) [.int .i64 (rd l0 x4_1)] (fun _ => True) (fun _ => False) rfl rfl ?aP (fun _ hk => hk.elim) ?aF ?aO ?aB ?aS ?aL ?_; (case aP => exact rfl); (case aB => exact (zw0 HB.out)); (case aF => exact (fun _ _ => trivial)); (case aO => exact (by (with_reducible repeat (first | apply Kd.R_alloc | apply Kd.R_drewN | apply Kd.R_drew)); exact HO_3.out)); (case aS => exact (below_size (zw0 HB.out))); (case aL => have := LMc4.out; omega); intro v221 w5 ho hb hg hat; rw [← Ny220.out] at ho; have n0_ := Aside0.mk (hb); have HO222 := Aside0.mk (ho); clear HB HO_3; have HB := n0_; clear n0_; clear ho hb hg hat))
    go_roundg k1
    case measure => have := HK1.out; omega
    case rel => exact ⟨(y220), (wrap64 (x4_1 + 1)), (zr), H', ⟨by have := HK1.out; omega⟩, ⟨by (with_reducible repeat (first | apply Kd.R_alloc | apply Kd.R_drewN | apply Kd.R_drew)); exact HO222.out⟩, ⟨zw0 HB.out⟩⟩
   ·rw [if_neg c2] at H
    have c2b0 : decide (x4_1 < (l0.length : Int)) = false := decide_eq_false c2
    clear c2
    obtain rfl := Option.some.inj H
    go_wp2
    go_ret
    exact ⟨_, ze, by (with_reducible repeat (first | apply Kd.R_alloc | apply Kd.R_drewN | apply Kd.R_drew)); exact HO_3.out, zw0 HB.out⟩

/-! cellarref0_CopyType -/
def cellarref0_CopyType.f (k : Nat) (a0_0 : Int) (a0_1 : Int) (a0_2 : Int) (l0_3 : List ByteArray) (l0_4 : List Int) : Option (Int × Int × Int × List ByteArray × List Int) := (cellarref0_CopyStrings.f k l0_3).bind fun t226 => ((cellarref0_CopyNumbers.f k l0_4).bind fun t229 => (some (a0_0, a0_1, a0_2, t226, t229)))
theorem cellarref0_CopyType.mono : ∀ a0 a1 a2 a3 a4 k, LeO (cellarref0_CopyType.f k a0 a1 a2 a3 a4) (cellarref0_CopyType.f (k + 1) a0 a1 a2 a3 a4) := by
 intro a0 a1 a2 a3 a4 k
 unfold cellarref0_CopyType.f
 repeat' first
   | (with_reducible apply cellarref0_CopyNumbers.mono)
   | (with_reducible apply cellarref0_CopyStrings.mono)
   | (with_reducible apply LeO.refl)
   | (with_reducible apply LeO.none)
   | (with_reducible refine LeO.ite ?_ ?_)
   | (with_reducible refine LeO.bind ?_ (fun _ => ?_))
set_option maxHeartbeats 8000000 in
set_option maxRecDepth 100000 in
theorem cellarref0_CopyType.calls (k : Nat) (a0_0 : Int) (a0_1 : Int) (a0_2 : Int) (A0_3 : Option Addr) (c0_3 : Nat) (l0_3 : List ByteArray) (A0_4 : Option Addr) (c0_4 : Nat) (l0_4 : List Int) (r1 : Int) (r2 : Int) (r3 : Int) (r4 : List ByteArray) (r5 : List Int) (w : World) (hr0_3 : Kd.C Kd.string w A0_3 l0_3.length l0_3) (hc0_3 : l0_3.length ≤ c0_3) (hr0_4 : Kd.C (Kd.int .i64) w A0_4 l0_4.length l0_4) (hc0_4 : l0_4.length ≤ c0_4) (h : cellarref0_CopyType.f k a0_0 a0_1 a0_2 l0_3 l0_4 = some (r1, r2, r3, r4, r5)) :
  Calls Try.prog 54 #[.agg #[.int .i64 a0_0, .int .i64 a0_1, .int .i64 a0_2, .slice A0_3 l0_3.length c0_3, .slice A0_4 l0_4.length c0_4]] w fun e w' => ∃ v3_ v4_ : Value, e = .returned (.agg #[.int .i64 r1, .int .i64 r2, .int .i64 r3, v3_, v4_]) ∧ Kd.R Kd.string 9 w' w.heap.size (fun _ => True) v3_ r4 ∧ Kd.R (Kd.int .i64) 3 w' w.heap.size (fun _ => True) v4_ r5 ∧ Below w.heap.size w w' := by
 have hu31 := Try.underlying31
 have HR0_3 := Aside0.mk hr0_3
 have HC0_3 := Aside0.mk hc0_3
 clear hr0_3 hc0_3
 have HR0_4 := Aside0.mk hr0_4
 have HC0_4 := Aside0.mk hc0_4
 clear hr0_4 hc0_4
 have HB := Aside0.mk (Below.refl w.heap.size w)
 have H : ((cellarref0_CopyStrings.f k l0_3).bind fun t226 => ((cellarref0_CopyNumbers.f k l0_4).bind fun t229 => (some (a0_0, a0_1, a0_2, t226, t229)))) = some (r1, r2, r3, r4, r5) := h
 clear h
 replace H := Option.bind_eq_some_iff.mp H
 obtain ⟨t226, A20, H⟩ := H
 replace H : ((cellarref0_CopyNumbers.f k l0_4).bind fun t229 => (some (a0_0, a0_1, a0_2, t226, t229))) = some (r1, r2, r3, r4, r5) := H
 have A2 := Aside0.mk A20
 clear A20
 replace H := Option.bind_eq_some_iff.mp H
 obtain ⟨t229, A30, H⟩ := H
 replace H : (some (a0_0, a0_1, a0_2, t226, t229)) = some (r1, r2, r3, r4, r5) := H
 have A3 := Aside0.mk A30
 clear A30
 simp only [Option.some.injEq, Prod.mk.injEq] at H
 obtain ⟨rfl, rfl, rfl, rfl, rfl⟩ := H
 go_enter Try.func54, Try.ntmps54
 go_wp2_with (first | ((with_reducible refine gate_dst (N := 1) rfl ?_); refine zbox (N := 1) (cs := #[.int .i64 a0_0, .int .i64 a0_1, .int .i64 a0_2, .slice A0_3 l0_3.length c0_3, .slice A0_4 l0_4.length c0_4]) (t := 31) ?_; intro gb223 hg w4 hbox hb; have n0_ := Aside0.mk (below_step (zw0 HB.out) hb); have BK223 := Aside0.mk (hbox); have GW223 := Aside0.mk (zg hg (below_size (zw0 HB.out))); have GE223 := GW223; clear HB; have HB := n0_; clear n0_; clear hb hbox hg) | ((with_reducible refine gate_dst (N := 2) rfl ?_); refine zbox (N := 2) (cs := #[.int .i64 0, .int .i64 0, .int .i64 0, .slice none 0 0, .slice none 0 0]) (t := 31) ?_; intro gb224 hg w5 hbox hb; have n0_ := Aside0.mk (zbb BK223.out hb); have n1_ := Aside0.mk (below_step (zw1 HB.out GE223.out) hb); have BK224 := Aside0.mk (hbox); have GW224 := Aside0.mk (zg hg (below_size (zw1 HB.out GE223.out))); have GE224 := GW224; have NB223_224 := Aside0.mk (zlt hg BK223.out); have NB224_223 := Aside0.mk (zgt hg BK223.out); clear BK223 HB; have BK223 := n0_; have HB := n1_; clear n0_ n1_; clear hb hbox hg; have hnb6 := NB223_224.out; have hnc6 := NB224_223.out; have hcz7_0 := zc BK223.out 0; have hcz7_1 := zc BK223.out 1; have hcz7_2 := zc BK223.out 2; have hcz7_3 := zc BK223.out 3; have hcz7_4 := zc BK223.out 4; have hfz7_0 := blk_frozen BK223.out 0; have hfz7_1 := blk_frozen BK223.out 1; have hfz7_2 := blk_frozen BK223.out 2; have hfz7_3 := blk_frozen BK223.out 3; have hfz7_4 := blk_frozen BK223.out 4) | ((with_reducible refine gate_dst (N := 3) rfl ?_); refine zbox (N := 3) (cs := #[.int .i64 0, .int .i64 0, .int .i64 0, .slice none 0 0, .slice none 0 0]) (t := 31) ?_; intro gb225 hg w8 hbox hb; have n0_ := Aside0.mk (zbb BK223.out hb); have n1_ := Aside0.mk (zbb BK224.out hb); have n2_ := Aside0.mk (below_step (zw2 HB.out GE223.out GE224.out) hb); have BK225 := Aside0.mk (hbox); have GW225 := Aside0.mk (zg hg (below_size (zw2 HB.out GE223.out GE224.out))); have GE225 := GW225; have NB223_225 := Aside0.mk (zlt hg BK223.out); have NB225_223 := Aside0.mk (zgt hg BK223.out); have NB224_225 := Aside0.mk (zlt hg BK224.out); have NB225_224 := Aside0.mk (zgt hg BK224.out); clear BK223 BK224 HB; have BK223 := n0_; have BK224 := n1_; have HB := n2_; clear n0_ n1_ n2_; clear hb hbox hg; have hnb9 := NB225_223.out; have hnc9 := NB223_225.out; have hnb10 := NB225_224.out; have hnc10 := NB224_225.out; have hcz11_0 := zc BK225.out 0; have hcz11_1 := zc BK225.out 1; have hcz11_2 := zc BK225.out 2; have hcz11_3 := zc BK225.out 3; have hcz11_4 := zc BK225.out 4; have hfz11_0 := blk_frozen BK225.out 0; have hfz11_1 := blk_frozen BK225.out 1; have hfz11_2 := blk_frozen BK225.out 2; have hfz11_3 := blk_frozen BK225.out 3; have hfz11_4 := blk_frozen BK225.out 4; have hcz12_0 := zc BK223.out 0; have hcz12_1 := zc BK223.out 1; have hcz12_2 := zc BK223.out 2; have hcz12_3 := zc BK223.out 3; have hcz12_4 := zc BK223.out 4; have hfz12_0 := blk_frozen BK223.out 0; have hfz12_1 := blk_frozen BK223.out 1; have hfz12_2 := blk_frozen BK223.out 2; have hfz12_3 := blk_frozen BK223.out 3; have hfz12_4 := blk_frozen BK223.out 4) | ((with_reducible refine gate_callee (f := 87) rfl ?_); refine zgo (some 7) Try.func87 #[.slice A0_3 l0_3.length c0_3] ?_; (with_reducible refine (cellarref0_CopyStrings.calls k _ _ l0_3 t226 _ ?side1 ?side2 A2.out).mono ?_); (case side1 => exact Kd.C_below HR0_3.out (zw3 HB.out GE223.out GE224.out GE225.out)); (case side2 => exact HC0_3.out); rintro e w13 ⟨v227, rfl, ho0, hb⟩; refine ⟨_, rfl, ?_⟩; have HO228 := Aside0.mk (Kd.R_lower ho0 (below_size (zw3 HB.out GE223.out GE224.out GE225.out))); have n1_ := Aside0.mk (blk_below (g := gb223) (o := .cells #[.int .i64 a0_0, .int .i64 a0_1, .int .i64 a0_2, .slice A0_3 l0_3.length c0_3, .slice A0_4 l0_4.length c0_4] 31 (0, 0)) (zf1 BK223.out NB223_225.out) hb); have n2_ := Aside0.mk (blk_below (g := gb224) (o := .cells #[.int .i64 0, .int .i64 0, .int .i64 0, .slice none 0 0, .slice none 0 0] 31 (0, 0)) (zf1 BK224.out NB224_225.out) hb); have n3_ := Aside0.mk (blk_below (g := gb225) (o := .cells #[.int .i64 a0_0, .int .i64 a0_1, .int .i64 a0_2, .slice A0_3 l0_3.length c0_3, .slice A0_4 l0_4.length c0_4] 31 (0, 0)) (by (with_reducible repeat (first | refine blk_drewN ?_ _ | refine blk_drew ?_ | refine blk_alloc ?_ _)); refine blk_put (cs := #[.int .i64 a0_0, .int .i64 a0_1, .int .i64 a0_2, .slice A0_3 l0_3.length c0_3, .slice none 0 0]) ?_ 4 _ rfl; (with_reducible repeat (first | refine blk_drewN ?_ _ | refine blk_drew ?_ | refine blk_alloc ?_ _)); refine blk_put (cs := #[.int .i64 a0_0, .int .i64 a0_1, .int .i64 a0_2, .slice none 0 0, .slice none 0 0]) ?_ 3 _ rfl; (with_reducible repeat (first | refine blk_drewN ?_ _ | refine blk_drew ?_ | refine blk_alloc ?_ _)); refine blk_put (cs := #[.int .i64 a0_0, .int .i64 a0_1, .int .i64 0, .slice none 0 0, .slice none 0 0]) ?_ 2 _ rfl; (with_reducible repeat (first | refine blk_drewN ?_ _ | refine blk_drew ?_ | refine blk_alloc ?_ _)); refine blk_put (cs := #[.int .i64 a0_0, .int .i64 0, .int .i64 0, .slice none 0 0, .slice none 0 0]) ?_ 1 _ rfl; (with_reducible repeat (first | refine blk_drewN ?_ _ | refine blk_drew ?_ | refine blk_alloc ?_ _)); refine blk_put (cs := #[.int .i64 0, .int .i64 0, .int .i64 0, .slice none 0 0, .slice none 0 0]) ?_ 0 _ rfl; (with_reducible repeat (first | refine blk_drewN ?_ _ | refine blk_drew ?_ | refine blk_alloc ?_ _)); exact BK225.out) hb); have n4_ := Aside0.mk (below_step (zw3 HB.out GE223.out GE224.out GE225.out) hb); clear BK223 BK224 BK225 HB; have BK223 := n1_; have BK224 := n2_; have BK225 := n3_; have HB := n4_; clear n1_ n2_ n3_ n4_; (try clear hb); (try clear hb2); (try clear hk); (try clear hi); (try clear ho0); obtain ⟨Ao14, co14, eo14⟩ := Kd.R_slice HO228.out; subst eo14; have hcz15_0 := zc BK225.out 0; have hcz15_1 := zc BK225.out 1; have hcz15_2 := zc BK225.out 2; have hcz15_3 := zc BK225.out 3; have hcz15_4 := zc BK225.out 4; have hfz15_0 := blk_frozen BK225.out 0; have hfz15_1 := blk_frozen BK225.out 1; have hfz15_2 := blk_frozen BK225.out 2; have hfz15_3 := blk_frozen BK225.out 3; have hfz15_4 := blk_frozen BK225.out 4; have hcz16_0 := zc BK223.out 0; have hcz16_1 := zc BK223.out 1; have hcz16_2 := zc BK223.out 2; have hcz16_3 := zc BK223.out 3; have hcz16_4 := zc BK223.out 4; have hfz16_0 := blk_frozen BK223.out 0; have hfz16_1 := blk_frozen BK223.out 1; have hfz16_2 := blk_frozen BK223.out 2; have hfz16_3 := blk_frozen BK223.out 3; have hfz16_4 := blk_frozen BK223.out 4) | ((with_reducible refine gate_callee (f := 88) rfl ?_); refine zgo (some 11) Try.func88 #[.slice A0_4 l0_4.length c0_4] ?_; (with_reducible refine (cellarref0_CopyNumbers.calls k _ _ l0_4 t229 _ ?side1 ?side2 A3.out).mono ?_); (case side1 => exact Kd.C_below HR0_4.out (zw3 HB.out GE223.out GE224.out GE225.out)); (case side2 => exact HC0_4.out); rintro e w17 ⟨v230, rfl, ho0, hb⟩; refine ⟨_, rfl, ?_⟩; have n0_ := Aside0.mk (Kd.R_below (by (with_reducible repeat (first | apply Kd.R_alloc | apply Kd.R_drewN | apply Kd.R_drew)); exact (Kd.R_mono (Kd.R_far (p := ⟨gb225, 3, none⟩) (Kd.R_types HO228.out BK225.out (by decide)) (fun _ hk => hk.2) (.slice Ao14 t226.length co14)) (fun _ h_ => h_.1))) hb); have HO231 := Aside0.mk (Kd.R_lower ho0 (below_size (zw3 HB.out GE223.out GE224.out GE225.out))); have n2_ := Aside0.mk (blk_below (g := gb223) (o := .cells #[.int .i64 a0_0, .int .i64 a0_1, .int .i64 a0_2, .slice A0_3 l0_3.length c0_3, .slice A0_4 l0_4.length c0_4] 31 (0, 0)) (zf1 BK223.out NB223_225.out) hb); have n3_ := Aside0.mk (blk_below (g := gb224) (o := .cells #[.int .i64 0, .int .i64 0, .int .i64 0, .slice none 0 0, .slice none 0 0] 31 (0, 0)) (zf1 BK224.out NB224_225.out) hb); have n4_ := Aside0.mk (blk_below (g := gb225) (o := .cells #[.int .i64 a0_0, .int .i64 a0_1, .int .i64 a0_2, .slice Ao14 t226.length co14, .slice A0_4 l0_4.length c0_4] 31 (0, 0)) (by (with_reducible repeat (first | refine blk_drewN ?_ _ | refine blk_drew ?_ | refine blk_alloc ?_ _)); refine blk_put (cs := #[.int .i64 a0_0, .int .i64 a0_1, .int .i64 a0_2, .slice A0_3 l0_3.length c0_3, .slice A0_4 l0_4.length c0_4]) ?_ 3 _ rfl; (with_reducible repeat (first | refine blk_drewN ?_ _ | refine blk_drew ?_ | refine blk_alloc ?_ _)); exact BK225.out) hb); have n5_ := Aside0.mk (below_step (zw3 HB.out GE223.out GE224.out GE225.out) hb); clear HO228 BK223 BK224 BK225 HB; have HO228 := n0_; have BK223 := n2_; have BK224 := n3_; have BK225 := n4_; have HB := n5_; clear n0_ n2_ n3_ n4_ n5_; (try clear hb); (try clear hb2); (try clear hk); (try clear hi); (try clear ho0); obtain ⟨Ao18, co18, eo18⟩ := Kd.R_slice HO231.out; subst eo18; have hcz19_0 := zc BK225.out 0; have hcz19_1 := zc BK225.out 1; have hcz19_2 := zc BK225.out 2; have hcz19_3 := zc BK225.out 3; have hcz19_4 := zc BK225.out 4; have hfz19_0 := blk_frozen BK225.out 0; have hfz19_1 := blk_frozen BK225.out 1; have hfz19_2 := blk_frozen BK225.out 2; have hfz19_3 := blk_frozen BK225.out 3; have hfz19_4 := blk_frozen BK225.out 4; have hcz20_0 := zc BK224.out 0; have hcz20_1 := zc BK224.out 1; have hcz20_2 := zc BK224.out 2; have hcz20_3 := zc BK224.out 3; have hcz20_4 := zc BK224.out 4; have hfz20_0 := blk_frozen BK224.out 0; have hfz20_1 := blk_frozen BK224.out 1; have hfz20_2 := blk_frozen BK224.out 2; have hfz20_3 := blk_frozen BK224.out 3; have hfz20_4 := blk_frozen BK224.out 4))
 refine bodyPost_ret (results_cell_row rfl _ _ gb224 31 #[.int .i64 a0_0, .int .i64 a0_1, .int .i64 a0_2, .slice Ao14 t226.length co14, .slice Ao18 t229.length co18] (0, 0) _ rfl (by (with_reducible repeat (first | refine blk_drewN ?_ _ | refine blk_drew ?_ | refine blk_alloc ?_ _)); refine blk_put (cs := #[.int .i64 a0_0, .int .i64 a0_1, .int .i64 a0_2, .slice Ao14 t226.length co14, .slice none 0 0]) ?_ 4 _ rfl; (with_reducible repeat (first | refine blk_drewN ?_ _ | refine blk_drew ?_ | refine blk_alloc ?_ _)); refine blk_put (cs := #[.int .i64 a0_0, .int .i64 a0_1, .int .i64 a0_2, .slice none 0 0, .slice none 0 0]) ?_ 3 _ rfl; (with_reducible repeat (first | refine blk_drewN ?_ _ | refine blk_drew ?_ | refine blk_alloc ?_ _)); refine blk_put (cs := #[.int .i64 a0_0, .int .i64 a0_1, .int .i64 0, .slice none 0 0, .slice none 0 0]) ?_ 2 _ rfl; (with_reducible repeat (first | refine blk_drewN ?_ _ | refine blk_drew ?_ | refine blk_alloc ?_ _)); refine blk_put (cs := #[.int .i64 a0_0, .int .i64 0, .int .i64 0, .slice none 0 0, .slice none 0 0]) ?_ 1 _ rfl; (with_reducible repeat (first | refine blk_drewN ?_ _ | refine blk_drew ?_ | refine blk_alloc ?_ _)); refine blk_put (cs := #[.int .i64 0, .int .i64 0, .int .i64 0, .slice none 0 0, .slice none 0 0]) ?_ 0 _ rfl; (with_reducible repeat (first | refine blk_drewN ?_ _ | refine blk_drew ?_ | refine blk_alloc ?_ _)); refine blk_far ?_ NB224_225.out _; (with_reducible repeat (first | refine blk_drewN ?_ _ | refine blk_drew ?_ | refine blk_alloc ?_ _)); exact BK224.out) Try.underlying31 rfl (by kernel_rfl)) rfl ?_
 exact ⟨_, _, ze, by (with_reducible repeat (first | apply Kd.R_alloc | apply Kd.R_drewN | apply Kd.R_drew)); exact Kd.R_mono (Kd.R_far (p := ⟨gb224, 4, none⟩) (Kd.R_far (p := ⟨gb224, 3, none⟩) (Kd.R_far (p := ⟨gb224, 2, none⟩) (Kd.R_far (p := ⟨gb224, 1, none⟩) (Kd.R_far (p := ⟨gb224, 0, none⟩) (Kd.R_far (p := ⟨gb225, 4, none⟩) (Kd.R_types (Kd.R_types HO228.out BK225.out (by decide)) BK224.out (by decide)) (fun _ hk => hk.1.2) (.slice Ao18 t229.length co18)) (fun _ hk => hk.2) (.int .i64 a0_0)) (fun _ hk => hk.2) (.int .i64 a0_1)) (fun _ hk => hk.2) (.int .i64 a0_2)) (fun _ hk => hk.2) (.slice Ao14 t226.length co14)) (fun _ hk => hk.2) (.slice Ao18 t229.length co18)) (fun _ hk => trivial), by (with_reducible repeat (first | apply Kd.R_alloc | apply Kd.R_drewN | apply Kd.R_drew)); exact Kd.R_mono (Kd.R_far (p := ⟨gb224, 4, none⟩) (Kd.R_far (p := ⟨gb224, 3, none⟩) (Kd.R_far (p := ⟨gb224, 2, none⟩) (Kd.R_far (p := ⟨gb224, 1, none⟩) (Kd.R_far (p := ⟨gb224, 0, none⟩) (Kd.R_far (p := ⟨gb225, 4, none⟩) (Kd.R_types (Kd.R_types HO231.out BK225.out (by decide)) BK224.out (by decide)) (fun _ hk => hk.1.2) (.slice Ao18 t229.length co18)) (fun _ hk => hk.2) (.int .i64 a0_0)) (fun _ hk => hk.2) (.int .i64 a0_1)) (fun _ hk => hk.2) (.int .i64 a0_2)) (fun _ hk => hk.2) (.slice Ao14 t226.length co14)) (fun _ hk => hk.2) (.slice Ao18 t229.length co18)) (fun _ hk => trivial), zw3 HB.out GE223.out GE224.out GE225.out⟩

/-! cellarref0_CopyTypes -/
def cellarref0_CopyTypes.l0 : Nat → List (S31) → List (S31) → Int → Option ((List (S31)))
 | 0, _, _, _ => none
 | k + 1, x0, x3, x4 => if x4 < (x0.length : Int) then (if 0 ≤ x4 then ((cellarref0_CopyType.f k ((rd_T31 x0 x4).f0) ((rd_T31 x0 x4).f1) ((rd_T31 x0 x4).f2) ((rd_T31 x0 x4).f3) ((rd_T31 x0 x4).f4)).bind fun bt233 => (if x3.length < 1954687338268 then (cellarref0_CopyTypes.l0 k x0 (x3 ++ [(⟨bt233.1, bt233.2.1, bt233.2.2.1, bt233.2.2.2.1, bt233.2.2.2.2⟩ : S31)]) (wrap64 (x4 + 1))) else (none))) else (none)) else (some x3)
def cellarref0_CopyTypes.f (k : Nat) (l0 : List (S31)) : Option ((List (S31))) := cellarref0_CopyTypes.l0 k l0 ([] : List (S31)) 0
theorem cellarref0_CopyTypes.mono_l : ∀ k, (∀ y0 y1 y2, LeO (cellarref0_CopyTypes.l0 k y0 y1 y2) (cellarref0_CopyTypes.l0 (k + 1) y0 y1 y2))
 | 0 => fun _ _ _ r h => by simp [cellarref0_CopyTypes.l0] at h
 | k + 1 => by
  have ih0 := cellarref0_CopyTypes.mono_l k
  ·intro y0 y1 y2
   unfold cellarref0_CopyTypes.l0
   repeat' first
   | (with_reducible apply ih0)
   | (with_reducible apply cellarref0_CopyType.mono)
   | (with_reducible apply LeO.refl)
   | (with_reducible apply LeO.none)
   | (with_reducible refine LeO.ite ?_ ?_)
   | (with_reducible refine LeO.bind ?_ (fun _ => ?_))
theorem cellarref0_CopyTypes.mono : ∀ a0 k, LeO (cellarref0_CopyTypes.f k a0) (cellarref0_CopyTypes.f (k + 1) a0) := by
 intro a0 k
 have ih0 := cellarref0_CopyTypes.mono_l k
 unfold cellarref0_CopyTypes.f
 repeat' first
   | (with_reducible apply ih0)
   | (with_reducible apply cellarref0_CopyType.mono)
   | (with_reducible apply LeO.refl)
   | (with_reducible apply LeO.none)
   | (with_reducible refine LeO.ite ?_ ?_)
   | (with_reducible refine LeO.bind ?_ (fun _ => ?_))
set_option maxHeartbeats 8000000 in
set_option maxRecDepth 100000 in
theorem cellarref0_CopyTypes.calls (k : Nat) (A0 : Option Addr) (c0 : Nat) (l0 : List (S31)) (r : List (S31)) (w : World) (hr0 : Kd.C k31 w A0 l0.length l0) (hc0 : l0.length ≤ c0) (h : cellarref0_CopyTypes.f k l0 = some r) :
  Calls Try.prog 16 #[.slice A0 l0.length c0] w fun e w' => ∃ v0_ : Value, e = .returned (v0_) ∧ Kd.S k31 31 w' w.heap.size (fun _ => True) v0_ r ∧ Below w.heap.size w w' := by
 have hu31 := Try.underlying31
 have HR0 := Aside0.mk hr0
 have HC0 := Aside0.mk hc0
 clear hr0 hc0
 have HB := Aside0.mk (Below.refl w.heap.size w)
 have H : (cellarref0_CopyTypes.l0 k l0 ([] : List (S31)) 0) = some r := h
 clear h
 have H' := Aside0.mk H
 clear H
 go_enter Try.func16, Try.ntmps16
 go_wp2
 go_loopg [3, 4] k (fun kq v3 v4 w' => ∃ (x3_1 : List (S31)) (x4_1 : Int), v4 = .int .i64 x4_1 ∧ Aside0 (cellarref0_CopyTypes.l0 kq l0 x3_1 x4_1 = some r) ∧ Aside0 (kq ≤ k) ∧ Aside0 (Kd.S k31 31 w' w.heap.size (fun _ => True) v3 x3_1) ∧ Aside0 (Below w.heap.size w w'))
 case atStart => exact ⟨(([] : List (S31))), (0), (zr), H', ⟨Nat.le_refl _⟩, ⟨by first | exact Kd.S_nil _ _ _ _ _ | exact Kd.N_nil _ _ _ _ _ | exact Kd.V_nil _ _ _ _ _ | exact Kd.Q_nil _ _ _ _ _ | exact Kd.R_nil _ _ _ _ _⟩, ⟨zw0 HB.out⟩⟩
 case round =>
  clear H'
  try clear c1
  obtain ⟨x3_1, x4_1, rfl, HA, HK1, HO_3, HB⟩ := hrel
  cases gk with
  | zero => exact absurd HA.out (by simp [cellarref0_CopyTypes.l0])
  | succ k1 =>
   have H := HA.out
   clear HA
   simp only [cellarref0_CopyTypes.l0] at H
   by_cases c2 : x4_1 < (l0.length : Int)
   ·rw [if_pos c2] at H
    have c2b0 : decide (x4_1 < (l0.length : Int)) = true := decide_eq_true c2
    clear c2
    by_cases c3 : 0 ≤ x4_1
    rotate_left
    ·rw [if_neg c3] at H
     exact absurd H (by simp)
    rw [if_pos c3] at H
    have c3b0 : decide (0 ≤ x4_1) = true := decide_eq_true c3
    clear c3
    replace H := Option.bind_eq_some_iff.mp H
    obtain ⟨⟨t233, t234, t235, t236, t239⟩, A40, H⟩ := H
    replace H : (if x3_1.length < 1954687338268 then (cellarref0_CopyTypes.l0 k1 l0 (x3_1 ++ [(⟨t233, t234, t235, t236, t239⟩ : S31)]) (wrap64 (x4_1 + 1))) else (none)) = some r := H
    have A4 := Aside0.mk A40
    clear A40
    by_cases c5 : x3_1.length < 1954687338268
    rotate_left
    ·rw [if_neg c5] at H
     exact absurd H (by simp)
    rw [if_pos c5] at H
    have LMc5 := Aside0.mk c5
    clear c5
    obtain ⟨y242, hy242⟩ : ∃ y_ : List (S31), y_ = (x3_1 ++ [(⟨t233, t234, t235, t236, t239⟩ : S31)]) := ⟨_, rfl⟩
    replace H : (cellarref0_CopyTypes.l0 k1 l0 y242 (wrap64 (x4_1 + 1))) = some r := by first | (rw [hy242]; with_reducible exact H) | (have H2_ := (Option.bind_some _ _).symm.trans H; rw [hy242]; with_reducible exact H2_) | (have H2_ := (Option.bind_some _ _).symm.trans H; with_reducible exact H2_) | with_reducible exact H | (rw [hy242]; exact H) | exact H
    have Ny242 := Aside0.mk hy242
    clear hy242
    have H' := Aside0.mk H
    clear H
    have p232 : 0 ≤ (x4_1 : Int) := zdec
    have q232 : x4_1 < (l0.length : Int) := zdec
    obtain ⟨ad232, A232_3, c232_3, A232_4, c232_4, e232, hx232_0, hx232_1, hx232_2, hx232_3, hx232_4, hl232_3, hi232_3, hl232_4, hi232_4⟩ := at_T31 HR0.out x4_1 p232 q232
    cases e232
    replace hx232_0 := zh HB.out hx232_0
    replace hx232_1 := zh HB.out hx232_1
    replace hx232_2 := zh HB.out hx232_2
    replace hx232_3 := zh HB.out hx232_3
    replace hx232_4 := zh HB.out hx232_4
    have HR232_3 := Aside0.mk hi232_3
    have HC232_3 := Aside0.mk hl232_3
    clear hi232_3 hl232_3
    have HR232_4 := Aside0.mk hi232_4
    have HC232_4 := Aside0.mk hl232_4
    clear hi232_4 hl232_4
    replace p232 := eq_true p232
    replace q232 := eq_true q232
    go_wp2_with (first | ((with_reducible refine gate_callee (f := 54) rfl ?_); refine zgo (some 16) Try.func54 #[.agg #[.int .i64 ((rd_T31 l0 x4_1).f0), .int .i64 ((rd_T31 l0 x4_1).f1), .int .i64 ((rd_T31 l0 x4_1).f2), .slice A232_3 ((rd_T31 l0 x4_1).f3).length c232_3, .slice A232_4 ((rd_T31 l0 x4_1).f4).length c232_4]] ?_; (with_reducible refine (cellarref0_CopyType.calls k1 ((rd_T31 l0 x4_1).f0) ((rd_T31 l0 x4_1).f1) ((rd_T31 l0 x4_1).f2) _ _ ((rd_T31 l0 x4_1).f3) _ _ ((rd_T31 l0 x4_1).f4) t233 t234 t235 t236 t239 _ ?side1 ?side2 ?side3 ?side4 A4.out).mono ?_); (case side1 => repeat (first | exact (Kd.C_below HR232_3.out HB.out) | (with_reducible refine Kd.C_alloc ?_ _) | (with_reducible refine Kd.C_drewN ?_ _) | (with_reducible refine Kd.C_drew ?_))); (case side2 => exact HC232_3.out); (case side3 => repeat (first | exact (Kd.C_below HR232_4.out HB.out) | (with_reducible refine Kd.C_alloc ?_ _) | (with_reducible refine Kd.C_drewN ?_ _) | (with_reducible refine Kd.C_drew ?_))); (case side4 => exact HC232_4.out); rintro e w6 ⟨v237, v240, rfl, ho0, ho1, hb⟩; refine ⟨_, rfl, ?_⟩; have n0_ := Aside0.mk (Kd.S_mono (Kd.S_told (Kd.S_told (Kd.S_old (by (with_reducible repeat (first | apply Kd.S_alloc | apply Kd.S_drewN | apply Kd.S_drew)); exact HO_3.out) hb) (Kd.R_base ho0)) (Kd.R_base ho1)) (fun _ h_ => h_.1)); have HO238 := Aside0.mk (Kd.R_lower ho0 (below_size (zw0 HB.out))); have HO241 := Aside0.mk (Kd.R_lower ho1 (below_size (zw0 HB.out))); have n3_ := Aside0.mk (below_step (zw0 HB.out) hb); clear HO_3 HB; have HO_3 := n0_; have HB := n3_; clear n0_ n3_; (try clear hb); (try clear hb2); (try clear hk); (try clear hi); (try clear ho0); (try clear ho1); obtain ⟨Ao8, co8, eo8⟩ := Kd.R_slice HO238.out; subst eo8; obtain ⟨Ao9, co9, eo9⟩ := Kd.R_slice HO241.out; subst eo9) | ((with_reducible refine gate_builtin (b := .append) (xs := #[.tmp 11, .tmp 17]) rfl ?_); at_builtin; refine Kd.S_append k31 (w0 := w) w.heap.size rfl (.tmp 11) (.tmp 17) 32 31 (.agg #[(.int .i64 0), (.int .i64 0), (.int .i64 0), (.slice none 0 0), (.slice none 0 0)]) 72 rfl Try.underlying32 info31 rfl (by decide) (by omega) u3 x3_1 (⟨t233, t234, t235, t236, t239⟩ : S31) [.int .i64 t233, .int .i64 t234, .int .i64 t235, .slice Ao8 t236.length co8, .slice Ao9 t239.length co9] (fun _ => True) (fun k_ => some k_ = (.slice Ao8 t236.length co8 : Value).ownBlock ∨ some k_ = (.slice Ao9 t239.length co9 : Value).ownBlock) rfl rfl ?aP (fun k_ hk_ => hk_.elim (fun h_ => ((Kd.R_mono (ok' := fun k_ => ((fun _ => True)) k_ ∧ some k_ ≠ (u3 : Value).ownBlock) (Kd.R_apart' (HO238.out) (Kd.S_typed HO_3.out) (by decide)) (fun k_ hk => ⟨trivial, hk.2⟩))).1 k_ h_.symm) (fun h_ => ((Kd.R_mono (ok' := fun k_ => ((fun _ => True)) k_ ∧ some k_ ≠ (u3 : Value).ownBlock) (Kd.R_apart' (HO241.out) (Kd.S_typed HO_3.out) (by decide)) (fun k_ hk => ⟨trivial, hk.2⟩))).1 k_ h_.symm)) ?aF ?aO ?aB ?aS ?aL ?_; (case aP => exact k31_mkM _ _ _ (⟨t233, t234, t235, t236, t239⟩ : S31) (Kd.R_mono (Kd.R_tight rfl (Kd.R_mono (ok' := fun k_ => ((fun _ => True)) k_ ∧ some k_ ≠ (u3 : Value).ownBlock) (Kd.R_apart' (HO238.out) (Kd.S_typed HO_3.out) (by decide)) (fun k_ hk => ⟨trivial, hk.2⟩))) (fun _ h_ => Or.inl h_)) (Kd.R_mono (Kd.R_tight rfl (Kd.R_mono (ok' := fun k_ => ((fun _ => True)) k_ ∧ some k_ ≠ (u3 : Value).ownBlock) (Kd.R_apart' (HO241.out) (Kd.S_typed HO_3.out) (by decide)) (fun k_ hk => ⟨trivial, hk.2⟩))) (fun _ h_ => Or.inr (h_)))); (case aB => exact (zw0 HB.out)); (case aF => exact (fun _ _ => trivial)); (case aO => exact (by (with_reducible repeat (first | apply Kd.S_alloc | apply Kd.S_drewN | apply Kd.S_drew)); exact Kd.S_mono HO_3.out (fun k_ hk => ⟨trivial, fun e_ => e_.elim (fun h_ => hk.1.2 h_) (fun h_ => hk.2 h_)⟩))); (case aS => exact (below_size (zw0 HB.out))); (case aL => have := LMc5.out; omega); intro v243 w7 ho hb hg hat; rw [← Ny242.out] at ho; have n0_ := Aside0.mk (hb); have HO244 := Aside0.mk (ho); clear HB HO_3 HO238 HO241; have HB := n0_; clear n0_; clear ho hb hg hat))
    go_roundg k1
    case measure => have := HK1.out; omega
    case rel => exact ⟨(y242), (wrap64 (x4_1 + 1)), (zr), H', ⟨by have := HK1.out; omega⟩, ⟨by (with_reducible repeat (first | apply Kd.S_alloc | apply Kd.S_drewN | apply Kd.S_drew)); exact HO244.out⟩, ⟨zw0 HB.out⟩⟩
   ·rw [if_neg c2] at H
    have c2b0 : decide (x4_1 < (l0.length : Int)) = false := decide_eq_false c2
    clear c2
    obtain rfl := Option.some.inj H
    go_wp2
    go_ret
    exact ⟨_, ze, by (with_reducible repeat (first | apply Kd.S_alloc | apply Kd.S_drewN | apply Kd.S_drew)); exact HO_3.out, zw0 HB.out⟩

/-! cellarref1_Abi -/
def cellarref1_Abi.f (a0_0 : Bool) (a0_1 : Int) : Option (Bool) := if a0_1 = 2 then (some true) else (some (a0_1 == 4))
set_option maxHeartbeats 8000000 in
set_option maxRecDepth 100000 in
theorem cellarref1_Abi.calls (a0_0 : Bool) (a0_1 : Int) (r : Bool) (w : World) (h : cellarref1_Abi.f a0_0 a0_1 = some r) :
  Calls Try.prog 31 #[.agg #[.bool a0_0, .int .i64 a0_1]] w fun e w' => e = .returned (.bool r) ∧ Below w.heap.size w w' := by
 have hu29 := Try.underlying29
 have HB := Aside0.mk (Below.refl w.heap.size w)
 have H : (if a0_1 = 2 then (some true) else (some (a0_1 == 4))) = some r := h
 clear h
 by_cases c2 : a0_1 = 2
 ·rw [if_pos c2] at H
  have c2b0 : (a0_1 == 2) = true := beq_iff_eq.mpr c2
  have c2b1 : (a0_1 != 2) = false := bne_eq_false_iff_eq.mpr c2
  clear c2
  obtain rfl := Option.some.inj H
  go_enter Try.func31, Try.ntmps31
  go_wp2_with (first | ((with_reducible refine gate_dst (N := 1) rfl ?_); refine zbox (N := 1) (cs := #[.bool a0_0, .int .i64 a0_1]) (t := 29) ?_; intro gb245 hg w3 hbox hb; have n0_ := Aside0.mk (below_step (zw0 HB.out) hb); have BK245 := Aside0.mk (hbox); have GW245 := Aside0.mk (zg hg (below_size (zw0 HB.out))); have GE245 := GW245; clear HB; have HB := n0_; clear n0_; clear hb hbox hg; have hcz4_0 := zc BK245.out 0; have hcz4_1 := zc BK245.out 1; have hfz4_0 := blk_frozen BK245.out 0; have hfz4_1 := blk_frozen BK245.out 1))
  go_ret
  exact ⟨ze, zw1 HB.out GE245.out⟩
 ·rw [if_neg c2] at H
  have c2b0 : (a0_1 == 2) = false := beq_eq_false_iff_ne.mpr c2
  have c2b1 : (a0_1 != 2) = true := bne_iff_ne.mpr c2
  obtain rfl := Option.some.inj H
  go_enter Try.func31, Try.ntmps31
  go_wp2_with (first | ((with_reducible refine gate_dst (N := 1) rfl ?_); refine zbox (N := 1) (cs := #[.bool a0_0, .int .i64 a0_1]) (t := 29) ?_; intro gb245 hg w5 hbox hb; have n0_ := Aside0.mk (below_step (zw0 HB.out) hb); have BK245 := Aside0.mk (hbox); have GW245 := Aside0.mk (zg hg (below_size (zw0 HB.out))); have GE245 := GW245; clear HB; have HB := n0_; clear n0_; clear hb hbox hg; have hcz6_0 := zc BK245.out 0; have hcz6_1 := zc BK245.out 1; have hfz6_0 := blk_frozen BK245.out 0; have hfz6_1 := blk_frozen BK245.out 1))
  go_ret
  exact ⟨ze, zw1 HB.out GE245.out⟩

/-! cellarref0_Num -/
def cellarref0_Num.f (a0 : Int) (a1 : Int) : Option (Bool) := if a0 ≥ 0 then (some (decide (a0 ≤ a1))) else (some false)
set_option maxHeartbeats 8000000 in
set_option maxRecDepth 100000 in
theorem cellarref0_Num.calls (a0 : Int) (a1 : Int) (r : Bool) (w : World) (h : cellarref0_Num.f a0 a1 = some r) :
  Calls Try.prog 18 #[.int .i64 a0, .int .i64 a1] w fun e w' => e = .returned (.bool r) ∧ Drawn0 w w' := by
 have H : (if a0 ≥ 0 then (some (decide (a0 ≤ a1))) else (some false)) = some r := h
 clear h
 by_cases c3 : a0 ≥ 0
 ·rw [if_pos c3] at H
  have c3b0 : decide (0 ≤ a0) = true := decide_eq_true c3
  clear c3
  obtain rfl := Option.some.inj H
  go_enter Try.func18, Try.ntmps18
  go_wp2
  go_ret
  exact ⟨zr, by repeat (first | exact Drawn0.refl _ | apply Drawn0.step)⟩
 ·rw [if_neg c3] at H
  have c3b0 : decide (0 ≤ a0) = false := decide_eq_false c3
  clear c3
  obtain rfl := Option.some.inj H
  go_enter Try.func18, Try.ntmps18
  go_wp2
  go_ret
  exact ⟨zr, by repeat (first | exact Drawn0.refl _ | apply Drawn0.step)⟩

/-! cellarref0_Between -/
def cellarref0_Between.f (a0 : Int) (a1 : Int) (a2 : Int) : Option (Bool) := if a0 ≥ a1 then (some (decide (a0 ≤ a2))) else (some false)
set_option maxHeartbeats 8000000 in
set_option maxRecDepth 100000 in
theorem cellarref0_Between.calls (a0 : Int) (a1 : Int) (a2 : Int) (r : Bool) (w : World) (h : cellarref0_Between.f a0 a1 a2 = some r) :
  Calls Try.prog 64 #[.int .i64 a0, .int .i64 a1, .int .i64 a2] w fun e w' => e = .returned (.bool r) ∧ Drawn0 w w' := by
 have H : (if a0 ≥ a1 then (some (decide (a0 ≤ a2))) else (some false)) = some r := h
 clear h
 by_cases c4 : a0 ≥ a1
 ·rw [if_pos c4] at H
  have c4b0 : decide (a1 ≤ a0) = true := decide_eq_true c4
  clear c4
  obtain rfl := Option.some.inj H
  go_enter Try.func64, Try.ntmps64
  go_wp2
  go_ret
  exact ⟨zr, by repeat (first | exact Drawn0.refl _ | apply Drawn0.step)⟩
 ·rw [if_neg c4] at H
  have c4b0 : decide (a1 ≤ a0) = false := decide_eq_false c4
  clear c4
  obtain rfl := Option.some.inj H
  go_enter Try.func64, Try.ntmps64
  go_wp2
  go_ret
  exact ⟨zr, by repeat (first | exact Drawn0.refl _ | apply Drawn0.step)⟩

/-! cellarref1_Kind -/
def cellarref1_Kind.f (a0 : Int) : Option (Bool) := (cellarref0_Between.f a0 1 7).bind fun t246 => (some t246)
set_option maxHeartbeats 8000000 in
set_option maxRecDepth 100000 in
theorem cellarref1_Kind.calls (a0 : Int) (r : Bool) (w : World) (h : cellarref1_Kind.f a0 = some r) :
  Calls Try.prog 41 #[.int .i64 a0] w fun e w' => e = .returned (.bool r) ∧ Drawn0 w w' := by
 have H : ((cellarref0_Between.f a0 1 7).bind fun t246 => (some t246)) = some r := h
 clear h
 replace H := Option.bind_eq_some_iff.mp H
 obtain ⟨t246, A20, H⟩ := H
 replace H : (some t246) = some r := H
 have A2 := Aside0.mk A20
 clear A20
 obtain rfl := Option.some.inj H
 go_enter Try.func41, Try.ntmps41
 go_wp2_with (first | ((with_reducible refine gate_callee (f := 64) rfl ?_); refine zgo (some 4) Try.func64 #[.int .i64 a0, .int .i64 1, .int .i64 7] ?_; (with_reducible refine (cellarref0_Between.calls a0 1 7 t246 _ A2.out).mono ?_); rintro e w' ⟨rfl, ⟨nd, rfl⟩⟩; refine ⟨_, rfl, ?_⟩))
 go_ret
 exact ⟨zr, by repeat (first | exact Drawn0.refl _ | apply Drawn0.step)⟩

end Go.Proofs.Ytjoplkillkhiaaa.L
