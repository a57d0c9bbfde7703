-- Written by this session's own edition of the print.
import Derived.Test.YthhdmanpjeminaaBx0
import Derived.Test.YthhdmanpjeminaaBx1
import Derived.Test.YthhdmanpjeminaaBx2
import Derived.Test.YthhdmanpjeminaaBx3
import Derived.Test.YthhdmanpjeminaaBx5
import Derived.Test.YthhdmanpjeminaaBx6
import Derived.Test.YthhdmanpjeminaaBx7
import Derived.Test.YthhdmanpjeminaaUSq
import Derived.Test.YthhdmanpjeminaaUSq2
import Derived.Test.YthhdmanpjeminaaUSq3
import Derived.Test.YthhdmanpjeminaaBx8
import Derived.Test.YthhdmanpjeminaaCut
namespace Go.Proofs.Ythhdmanpjeminaa.B
open Go.Proofs.Ythhdmanpjeminaa.Cuts Go.RowKit Go.Proofs.Ythhdmanpjeminaa.Fn Go.Proofs.YthhdmanpjeminaaW.PrintWords Go.Proofs.YthhdmanpjeminaaW.PrintLast Go.Proofs.YthhdmanpjeminaaW.PrintMore
attribute [local go_sem] max2_int min2_int max_two min_two max_three min_three max_four min_four   -- for this text's walks alone
set_option linter.unusedVariables false
set_option linter.unusedSimpArgs false
theorem itb4 {α : Type} {a a' : Bool} {b b' c c' d d' : Int} {x y : α} (h : (!(a == a') || (!(b == b') || (!(c == c') || (!(d == d'))))) = true) : (if a = a' then if b = b' then if c = c' then if d = d' then x else y else y else y else y) = y := by
 by_cases h1 : a = a'
 · by_cases h2 : b = b'
   · by_cases h3 : c = c'
     · by_cases h4 : d = d'
       · subst h1 h2 h3 h4
         simp at h
       · rw [if_pos h1, if_pos h2, if_pos h3, if_neg h4]
     · rw [if_pos h1, if_pos h2, if_neg h3]
   · rw [if_pos h1, if_neg h2]
 · rw [if_neg h1]
theorem imp4 {a a' : Bool} {b b' c c' d d' : Int} (h : (!(a == a') || (!(b == b') || (!(c == c') || (!(d == d'))))) = true) : a = a' → b = b' → c = c' → ¬ d = d' := by
 intro h1 h2 h3 h4
 subst h1 h2 h3 h4
 simp at h
theorem imp5 {a a' b b' c c' d d' e e' : Int} (h : (!(a == a') || (!(b == b') || (!(c == c') || (!(d == d') || (!(e == e')))))) = true) : a = a' → b = b' → c = c' → d = d' → ¬ e = e' := by
 intro h1 h2 h3 h4 h5
 simp [h1, h2, h3, h4, h5] at h
theorem itb5 {α : Type} {a a' b b' c c' d d' e e' : Int} {x y : α} (h : (!(a == a') || (!(b == b') || (!(c == c') || (!(d == d') || (!(e == e')))))) = true) : (if a = a' then if b = b' then if c = c' then if d = d' then if e = e' then x else y else y else y else y else y) = y := by
 by_cases h1 : a = a'
 · by_cases h2 : b = b'
   · by_cases h3 : c = c'
     · by_cases h4 : d = d'
       · by_cases h5 : e = e'
         · simp [h1, h2, h3, h4, h5] at h
         · rw [if_pos h1, if_pos h2, if_pos h3, if_pos h4, if_neg h5]
       · rw [if_pos h1, if_pos h2, if_pos h3, if_neg h4]
     · rw [if_pos h1, if_pos h2, if_neg h3]
   · rw [if_pos h1, if_neg h2]
 · rw [if_neg h1]
set_option maxHeartbeats 60000000 in
set_option maxRecDepth 100000 in
noncomputable def cellarlaw8_BytesBack.cut_ : Cut1 (∀ (k : Nat) (A0_0 : Option Addr) (c0_0 : Nat) (l0_0 : List (S38)) (A0_1 : Option Addr) (c0_1 : Nat) (l0_1 : List (S33)) (A0_2 : Option Addr) (c0_2 : Nat) (l0_2 : List (S51)) (r : Bool) (w : World) (hr0_0 : Kd.C k38 w A0_0 l0_0.length l0_0) (hc0_0 : l0_0.length ≤ c0_0) (hr0_1 : Kd.C k33 w A0_1 l0_1.length l0_1) (hc0_1 : l0_1.length ≤ c0_1) (hr0_2 : Kd.C k51 w A0_2 l0_2.length l0_2) (hc0_2 : l0_2.length ≤ c0_2) (h : cellarlaw8_BytesBack.f k l0_0 l0_1 l0_2 = some r), Calls Try.prog 4 #[.agg #[.slice A0_0 l0_0.length c0_0, .slice A0_1 l0_1.length c0_1, .slice A0_2 l0_2.length c0_2]] w fun e w' => e = .returned (.bool r) ∧ Below w.heap.size w w') := by
 apply Cut1.mk
 case h =>
 intro cutP1
 intro k A0_0 c0_0 l0_0 A0_1 c0_1 l0_1 A0_2 c0_2 l0_2 r w hr0_0 hc0_0 hr0_1 hc0_1 hr0_2 hc0_2 h
 have hu26 := Try.underlying26
 have hu38 := Try.underlying38
 have hu33 := Try.underlying33
 have hu51 := Try.underlying51
 have HR0_0 := Aside0.mk hr0_0
 have HC0_0 := Aside0.mk hc0_0
 clear hr0_0 hc0_0
 have HR0_1 := Aside0.mk hr0_1
 have HC0_1 := Aside0.mk hc0_1
 clear hr0_1 hc0_1
 have HR0_2 := Aside0.mk hr0_2
 have HC0_2 := Aside0.mk hc0_2
 clear hr0_2 hc0_2
 have HB := Aside0.mk (Below.refl w.heap.size w)
 have H : ((cellarlaw8_Heavy.f l0_0 l0_1 l0_2).bind fun t184 => (if t184 = true then (some true) else (cellarlaw8_BytesBack.l0 k 0 l0_0 l0_1 l0_2))) = some r := h
 clear h
 replace H := Option.bind_eq_some_iff.mp H
 obtain ⟨t184, A20, H⟩ := H
 replace H : (if t184 = true then (some true) else (cellarlaw8_BytesBack.l0 k 0 l0_0 l0_1 l0_2)) = some r := H
 have A2 := Aside0.mk A20
 clear A20
 by_cases c3 : t184 = true
 ·subst c3
  have H1 : (some true) = some r := by rw [if_pos rfl] at H; exact H
  clear H
  have H := H1
  clear H1
  obtain rfl := Option.some.inj H
  go_enter Try.func4, Try.ntmps4
  go_wp2_with (first | ((with_reducible refine gate_dst (N := 1) rfl ?_); (try (refine gate_guard (by rfl) ?_; dsimp only)); refine zbox (N := 1) (cs := #[.slice A0_0 l0_0.length c0_0, .slice A0_1 l0_1.length c0_1, .slice A0_2 l0_2.length c0_2]) (t := 26) ?_; intro gb183 hg w4 hbox hb; have n0_ := Aside0.mk (below_step (zw0 HB.out) hb); have BK183 := Aside0.mk (hbox); have GW183 := Aside0.mk (zg hg (below_size (zw0 HB.out))); have GE183 := GW183; clear HB; have HB := n0_; clear n0_; clear hb hbox hg; have hcz5_0 := zc BK183.out 0; have hcz5_1 := zc BK183.out 1; have hcz5_2 := zc BK183.out 2; have hfz5_0 := blk_frozen BK183.out 0; have hfz5_1 := blk_frozen BK183.out 1; have hfz5_2 := blk_frozen BK183.out 2) | ((with_reducible refine gate_callee (f := 13) rfl ?_); refine zgo (some 20) Try.func13 #[.agg #[.slice A0_0 l0_0.length c0_0, .slice A0_1 l0_1.length c0_1, .slice A0_2 l0_2.length c0_2]] ?_; (with_reducible refine (cellarlaw8_Heavy.calls _ _ l0_0 _ _ l0_1 _ _ l0_2 true _ ?side1 ?side2 ?side3 ?side4 ?side5 ?side6 A2.out).mono ?_); (case side1 => repeat (first | exact (Kd.C_below HR0_0.out HB.out) | (with_reducible refine Kd.C_alloc ?_ _) | (with_reducible refine Kd.C_drewN ?_ _) | (with_reducible refine Kd.C_drew ?_))); (case side2 => exact HC0_0.out); (case side3 => repeat (first | exact (Kd.C_below HR0_1.out HB.out) | (with_reducible refine Kd.C_alloc ?_ _) | (with_reducible refine Kd.C_drewN ?_ _) | (with_reducible refine Kd.C_drew ?_))); (case side4 => exact HC0_1.out); (case side5 => repeat (first | exact (Kd.C_below HR0_2.out HB.out) | (with_reducible refine Kd.C_alloc ?_ _) | (with_reducible refine Kd.C_drewN ?_ _) | (with_reducible refine Kd.C_drew ?_))); (case side6 => exact HC0_2.out); rintro e w6 ⟨rfl, hb⟩; refine ⟨_, rfl, ?_⟩; have n0_ := Aside0.mk (zbb BK183.out hb); have n1_ := Aside0.mk (below_step (zw1 HB.out GE183.out) hb); clear BK183 HB; have BK183 := n0_; have HB := n1_; clear n0_ n1_; (try clear hb); (try clear hb2); (try clear hk); (try clear hi)))
  go_ret
  exact ⟨ze, zw1 HB.out GE183.out⟩
 ·replace c3 := Bool.eq_false_iff.mpr c3
  subst c3
  have H1 : (cellarlaw8_BytesBack.l0 k 0 l0_0 l0_1 l0_2) = some r := by rw [if_neg (show ¬ (false = true) by decide)] at H; exact H
  clear H
  have H := H1
  clear H1
  have H' := Aside0.mk H
  clear H
  go_enter Try.func4, Try.ntmps4
  go_wp2_with (first | ((with_reducible refine gate_dst (N := 1) rfl ?_); (try (refine gate_guard (by rfl) ?_; dsimp only)); refine zbox (N := 1) (cs := #[.slice A0_0 l0_0.length c0_0, .slice A0_1 l0_1.length c0_1, .slice A0_2 l0_2.length c0_2]) (t := 26) ?_; intro gb183 hg w7 hbox hb; have n0_ := Aside0.mk (below_step (zw0 HB.out) hb); have BK183 := Aside0.mk (hbox); have GW183 := Aside0.mk (zg hg (below_size (zw0 HB.out))); have GE183 := GW183; clear HB; have HB := n0_; clear n0_; clear hb hbox hg; have hcz8_0 := zc BK183.out 0; have hcz8_1 := zc BK183.out 1; have hcz8_2 := zc BK183.out 2; have hfz8_0 := blk_frozen BK183.out 0; have hfz8_1 := blk_frozen BK183.out 1; have hfz8_2 := blk_frozen BK183.out 2) | ((with_reducible refine gate_callee (f := 13) rfl ?_); refine zgo (some 20) Try.func13 #[.agg #[.slice A0_0 l0_0.length c0_0, .slice A0_1 l0_1.length c0_1, .slice A0_2 l0_2.length c0_2]] ?_; (with_reducible refine (cellarlaw8_Heavy.calls _ _ l0_0 _ _ l0_1 _ _ l0_2 false _ ?side1 ?side2 ?side3 ?side4 ?side5 ?side6 A2.out).mono ?_); (case side1 => repeat (first | exact (Kd.C_below HR0_0.out HB.out) | (with_reducible refine Kd.C_alloc ?_ _) | (with_reducible refine Kd.C_drewN ?_ _) | (with_reducible refine Kd.C_drew ?_))); (case side2 => exact HC0_0.out); (case side3 => repeat (first | exact (Kd.C_below HR0_1.out HB.out) | (with_reducible refine Kd.C_alloc ?_ _) | (with_reducible refine Kd.C_drewN ?_ _) | (with_reducible refine Kd.C_drew ?_))); (case side4 => exact HC0_1.out); (case side5 => repeat (first | exact (Kd.C_below HR0_2.out HB.out) | (with_reducible refine Kd.C_alloc ?_ _) | (with_reducible refine Kd.C_drewN ?_ _) | (with_reducible refine Kd.C_drew ?_))); (case side6 => exact HC0_2.out); rintro e w9 ⟨rfl, hb⟩; refine ⟨_, rfl, ?_⟩; have n0_ := Aside0.mk (zbb BK183.out hb); have n1_ := Aside0.mk (below_step (zw1 HB.out GE183.out) hb); clear BK183 HB; have BK183 := n0_; have HB := n1_; clear n0_ n1_; (try clear hb); (try clear hb2); (try clear hk); (try clear hi)))
  go_loopg [3] k (fun kq v3 w' => ∃ (x3_1 : Int), v3 = .int .i64 x3_1 ∧ Aside0 (cellarlaw8_BytesBack.l0 kq x3_1 l0_0 l0_1 l0_2 = some r) ∧ Aside0 (kq ≤ k) ∧ Aside0 (w'.heap[gb183]? = some (.cells #[(.slice A0_0 l0_0.length c0_0), (.slice A0_1 l0_1.length c0_1), (.slice A0_2 l0_2.length c0_2)] 26 (0, 0))) ∧ Aside0 (Below w.heap.size w w'))
  case atStart => exact ⟨(0), (zr), H', ⟨Nat.le_refl _⟩, ⟨zb BK183.out⟩, ⟨zw1 HB.out GE183.out⟩⟩
  case round =>
   clear H'
   try clear c1; try clear p2; try clear c3; try clear c4
   obtain ⟨x3_1, rfl, HA, HK1, BK183, HB⟩ := hrel
   cases gk with
   | zero => exact absurd HA.out (by simp [cellarlaw8_BytesBack.l0])
   | succ k1 =>
    have H := HA.out
    clear HA
    simp only [cellarlaw8_BytesBack.l0] at H
    have HC10 := Aside0.mk H
    clear H
    go_upto_region 4 with (fail)
    go_cut [29] (fun v29 wc => ∃ (kq : Nat) (x29_9 : Bool), v29 = .bool x29_9 ∧ Aside0 (cellarlaw8_BytesBack.j1 kq x3_1 x29_9 l0_0 l0_1 l0_2 = some r) ∧ Aside0 (kq ≤ k1) ∧ Aside0 (wc.heap[gb183]? = some (.cells #[(.slice A0_0 l0_0.length c0_0), (.slice A0_1 l0_1.length c0_1), (.slice A0_2 l0_2.length c0_2)] 26 (0, 0))) ∧ Aside0 (Below w.heap.size w wc))
    case first =>
     have H := HC10.out
     clear HC10
     by_cases c11 : x3_1 < (l0_1.length : Int)
     rotate_left
     ·rw [if_neg c11] at H
      have c11b0 : decide (x3_1 < (l0_1.length : Int)) = false := decide_eq_false c11
      clear c11
      (first | rw [c11b0] | (simp only [i64_w, i32_w]; rw [c11b0]) | skip)
      have H' := Aside0.mk H
      clear H
      have hcz13_0 := zc BK183.out 0
      have hcz13_1 := zc BK183.out 1
      have hcz13_2 := zc BK183.out 2
      have hfz13_0 := blk_frozen BK183.out 0
      have hfz13_1 := blk_frozen BK183.out 1
      have hfz13_2 := blk_frozen BK183.out 2
      go_wp2
      go_meet
      case rel => exact ⟨_, (false), (zr), H', ⟨by have := HK1.out; first | omega | exact Nat.le_refl _⟩, ⟨zb BK183.out⟩, ⟨zw1 HB.out GE183.out⟩⟩
     rw [if_pos c11] at H
     have c11b0 : decide (x3_1 < (l0_1.length : Int)) = true := decide_eq_true c11
     clear c11
     (first | rw [c11b0] | (simp only [i64_w, i32_w]; rw [c11b0]) | skip)
     have H' := Aside0.mk H
     clear H
     have hcz12_0 := zc BK183.out 0
     have hcz12_1 := zc BK183.out 1
     have hcz12_2 := zc BK183.out 2
     have hfz12_0 := blk_frozen BK183.out 0
     have hfz12_1 := blk_frozen BK183.out 1
     have hfz12_2 := blk_frozen BK183.out 2
     go_wp2
     go_meet
     case rel => exact ⟨_, (decide (x3_1 < 10)), (zr), H', ⟨by have := HK1.out; first | omega | exact Nat.le_refl _⟩, ⟨zb BK183.out⟩, ⟨zw1 HB.out GE183.out⟩⟩
    case rest =>
     clear HC10
     try clear c1; try clear p2; try clear c3; try clear c4; try clear c11; try clear c11b0; try clear c13; try clear p2
     obtain ⟨kq, x29_9, rfl, HA, HJ9, BK183, HB⟩ := hcut
     cases kq with
     | zero => exact absurd HA.out (by simp [cellarlaw8_BytesBack.j1])
     | succ kj9 =>
      have H := HA.out
      clear HA
      simp only [cellarlaw8_BytesBack.j1] at H
      by_cases c14 : x29_9 = true
      ·subst c14
       have H1 : (cellarlaw8_BytesBack.l1 kj9 x3_1 1 l0_0 l0_1 l0_2) = some r := by rw [if_pos rfl] at H; exact H
       clear H
       have H := H1
       clear H1
       have H' := Aside0.mk H
       clear H
       go_wp2
       go_loopg [4] kj9 (fun kq v4 w' => ∃ (x4_3 : Int), v4 = .int .i64 x4_3 ∧ Aside0 (cellarlaw8_BytesBack.l1 kq x3_1 x4_3 l0_0 l0_1 l0_2 = some r) ∧ Aside0 (kq ≤ kj9) ∧ Aside0 (w'.heap[gb183]? = some (.cells #[(.slice A0_0 l0_0.length c0_0), (.slice A0_1 l0_1.length c0_1), (.slice A0_2 l0_2.length c0_2)] 26 (0, 0))) ∧ Aside0 (Below w.heap.size w w'))
       case atStart => exact ⟨(1), (zr), H', ⟨Nat.le_refl _⟩, ⟨zb BK183.out⟩, ⟨zw1 HB.out GE183.out⟩⟩
       case round =>
        clear H'
        try clear c1; try clear p2; try clear c3; try clear c4; try clear c11; try clear c11b0; try clear c13; try clear c14; try clear p2
        obtain ⟨x4_3, rfl, HA, HK3, BK183, HB⟩ := hrel
        cases gk with
        | zero => exact absurd HA.out (by simp [cellarlaw8_BytesBack.l1])
        | succ k3 =>
         have H := HA.out
         clear HA
         simp only [cellarlaw8_BytesBack.l1] at H
         by_cases c15 : x4_3 ≤ 7
         rotate_left
         ·rw [if_neg c15] at H
          have c15b0 : decide (x4_3 ≤ 7) = false := decide_eq_false c15
          clear c15
          have H' := Aside0.mk H
          clear H
          go_wp2
          go_roundg k3
          case measure => have := HK1.out; have := HJ9.out; have := HK3.out; omega
          case rel => exact ⟨(wrap64 (x3_1 + 1)), (zr), H', ⟨by have := HK1.out; have := HJ9.out; have := HK3.out; omega⟩, ⟨zb BK183.out⟩, ⟨zw1 HB.out GE183.out⟩⟩
         rw [if_pos c15] at H
         have c15b0 : decide (x4_3 ≤ 7) = true := decide_eq_true c15
         clear c15
         have H' := Aside0.mk H
         clear H
         go_wp2
         go_loopg [5] k3 (fun kq v5 w' => ∃ (x5_4 : Int), v5 = .int .i64 x5_4 ∧ Aside0 (cellarlaw8_BytesBack.l2 kq x3_1 x4_3 x5_4 l0_0 l0_1 l0_2 = some r) ∧ Aside0 (kq ≤ k3) ∧ Aside0 (w'.heap[gb183]? = some (.cells #[(.slice A0_0 l0_0.length c0_0), (.slice A0_1 l0_1.length c0_1), (.slice A0_2 l0_2.length c0_2)] 26 (0, 0))) ∧ Aside0 (Below w.heap.size w w'))
         case atStart => exact ⟨(2), (zr), H', ⟨Nat.le_refl _⟩, ⟨zb BK183.out⟩, ⟨zw1 HB.out GE183.out⟩⟩
         case round =>
          clear H'
          try clear c1; try clear p2; try clear c3; try clear c4; try clear c11; try clear c11b0; try clear c13; try clear c14; try clear c15; try clear c15b0; try clear p2
          obtain ⟨x5_4, rfl, HA, HK4, BK183, HB⟩ := hrel
          cases gk with
          | zero => exact absurd HA.out (by simp [cellarlaw8_BytesBack.l2])
          | succ k4 =>
           have H := HA.out
           clear HA
           simp only [cellarlaw8_BytesBack.l2] at H
           by_cases c16 : x5_4 ≤ 4
           rotate_left
           ·rw [if_neg c16] at H
            have c16b0 : decide (x5_4 ≤ 4) = false := decide_eq_false c16
            clear c16
            have H' := Aside0.mk H
            clear H
            go_wp2
            go_roundg k4
            case measure => have := HK1.out; have := HJ9.out; have := HK3.out; have := HK4.out; omega
            case rel => exact ⟨(wrap64 (x4_3 + 1)), (zr), H', ⟨by have := HK1.out; have := HJ9.out; have := HK3.out; have := HK4.out; omega⟩, ⟨zb BK183.out⟩, ⟨zw1 HB.out GE183.out⟩⟩
           rw [if_pos c16] at H
           have c16b0 : decide (x5_4 ≤ 4) = true := decide_eq_true c16
           clear c16
           have HC17 := Aside0.mk H
           clear H
           go_upto_block 5 with (fail)
           go_cut [] (fun wc => ∃ (kq : Nat), Aside0 (cellarlaw8_BytesBack.j7 kq x3_1 x4_3 x5_4 l0_0 l0_1 l0_2 = some r) ∧ Aside0 (kq ≤ k4) ∧ Aside0 (wc.heap[gb183]? = some (.cells #[(.slice A0_0 l0_0.length c0_0), (.slice A0_1 l0_1.length c0_1), (.slice A0_2 l0_2.length c0_2)] 26 (0, 0))) ∧ Aside0 (Below w.heap.size w wc))
           case first =>
            rename_i q1_ q2_ q3_ _ q4_ q5_ _ _ _ _ _ _ _ _ _ _ _ _ _ _ _ _ _ _ _ _ _ _ _ _ _ _ _ _ _ _ _ _ _ _ _ _ _ _ _ _ _ _ _ _ _ _ _ _ _ _ _ _ _ _ _ _ _ _ _ _ _ _ _ _ _ _ _ _ _ _ _ _ _ _ _ _ _ _ _ _ _ _ _ _ _ _ _ _ _ _ _ _ _ _ _ _ _ _ _ _ _ _ _ _ _ _ _ _ _ _ _ _ _ _ _ _ _ _ _ _ _ _ _ _ _ _ _ _ _ _ _ _ _ _ _ _ _ _ _ _ _ _ _ _ _ _ _ _ _ _ _ _ _ _ _ _ _ _ _ _ _ _ _ _ _ _ _ _ _ _ _ _ _ _ _ q6_ q7_ q8_ q9_ q10_ q11_ _ _ _ _ _ _ _ _ _ _ _ _ _ _ _ _ _ _ _ _ _ _ _ _ _ _ _ _ _ _ _ _ _ _ _ _ _ _ _ _ _ _ _ _ _ _ _ _ _ _ _ _ _ _ _ _ _ _ _ _ _ _ _ _ _ _ _ _ _ _ _ _ _ _ _ _ _ _ _ _ _ _ _ _ _ _ _ _ _ _ _ _ _ _ _ _ _ _ _ _ _ _ _ _ _ _ _ _ _ _ _ _ _ _ _ _ _ _ _ _ _ _ _ _ _ _ _ _ _ _ _ _ _ _ _ _ _ _ _ _ _ _ _ _ _ _ _ _ _ q12_ q13_ q14_ q15_ _ _ _ _ _ _ _ _ _ _ _ _ _ _ _ _ _ _ _ _ _ _ _ _ _ _ _ _ _ _ _ _ _ _ _ _ _ _ _ _ _ _ _ _ _ _ _ _ _ _ _ _ _ _ _ _ _ _ _ _ _ _ _ _ _ _ _ _ _ _ _ _ _ _ _ _ _ _ _ _ _ _ _ _ _ _ _ _ _ _ _ _ _ _ _ _ _ _ _ _ _ _ _ _ _ _ _ _ _ _ _ _ _ _ _ _ _ _ _ _ _ _ _ _ _ _ _ _ _ _ _ _ _ _ _ _ _ _ _ _ _ _ _ _ _ _ _ _ _ _ _ _ _ _ _ _ _ _ _ _ q16_ q17_ q18_ q19_ q20_ q21_ q22_ q23_ q24_ q25_ q26_ q27_ q28_ q29_ q30_ q31_ q32_ q33_
            clear q2_ q3_ q9_ q10_ q12_ q13_ q19_ q20_
            revert k A0_0 c0_0 l0_0 A0_1 c0_1 l0_1 A0_2 c0_2 l0_2 r w hu26 hu38 hu33 hu51 HR0_0 HC0_0 HR0_1 HC0_1 HR0_2 HC0_2 A2 q1_ gb183 w7 GW183 GE183 hcz8_0 hcz8_1 hcz8_2 hfz8_0 hfz8_1 hfz8_2 q4_ q5_ q6_ q7_ q8_ x3_1 k1 q11_ HK1 wc u21 u22 u23 u24 u25 u26 u27 u28 u30 u31 kj9 HJ9 q14_ q15_ u34 u35 q16_ q17_ q18_ x4_3 k3 q21_ HK3 c15b0 q22_ q23_ wr u2 u6 u7 u8 u9 u10 u11 u12 u13 u14 u15 u16 u17 u18 u38 u39 u40 u41 u42 u43 u44 u45 u46 u47 u48 u49 u50 u51 u52 u53 u54 u55 u56 u57 u58 u59 u60 u61 u62 u63 u64 u65 u66 u67 u68 u69 u70 u71 u72 u73 u74 u75 u76 u77 u78 u79 u80 u81 u82 u83 u84 u85 u86 u87 u88 u89 u90 u91 u92 u93 u94 u95 u96 u97 u98 u99 u100 u101 u102 u103 u104 u105 u106 u107 u108 u109 u110 u111 u112 u113 u114 u115 u116 u117 u118 u119 u120 u121 u122 u123 u124 u125 u126 u127 u128 u129 u130 u131 u132 u133 u134 u135 u136 u137 u138 u139 u140 u141 u142 u143 u144 u145 u146 u147 u148 u149 u150 u151 u152 u153 u154 u155 u156 u157 u158 u159 u160 u161 u162 u163 u164 u165 u166 u167 u168 u169 u170 u171 u172 u173 u174 u175 u176 u177 u178 u179 u180 q24_ q25_ q26_ x5_4 BK183 HB k4 q27_ HK4 c16b0 HC17 q28_ q29_ q30_ q31_ q32_ q33_
            exact cutP1.out
           case rest =>
            clear HC17
            try clear c1; try clear p1; try clear q1; try clear c2; try clear p2; try clear c14; try clear c18; try clear p18; try clear q18; try clear c19; try clear p19; try clear q19; try clear c23; try clear c24; try clear c24b0; try clear c24b1; try clear c26; try clear c143; try clear c144; try clear c146; try clear p187; try clear p192; try clear q187; try clear q192
            obtain ⟨kq, HA, HJ16, BK183, HB⟩ := hcut
            cases kq with
            | zero => exact absurd HA.out (by simp [cellarlaw8_BytesBack.j7])
            | succ kj16 =>
             have H := HA.out
             clear HA
             simp only [cellarlaw8_BytesBack.j7] at H
             have H' := Aside0.mk H
             clear H
             go_wp2
             go_roundg kj16
             case measure => have := HK1.out; have := HJ9.out; have := HK3.out; have := HK4.out; have := HJ16.out; omega
             case rel => exact ⟨(wrap64 (x5_4 + 2)), (zr), H', ⟨by have := HK1.out; have := HJ9.out; have := HK3.out; have := HK4.out; have := HJ16.out; omega⟩, ⟨zb BK183.out⟩, ⟨zw1 HB.out GE183.out⟩⟩
      ·replace c14 := Bool.eq_false_iff.mpr c14
       subst c14
       have H1 : ((cellarlaw8_wakes.f kj9).bind fun t228 => (some t228)) = some r := by rw [if_neg (show ¬ (false = true) by decide)] at H; exact H
       clear H
       have H := H1
       clear H1
       replace H := Option.bind_eq_some_iff.mp H
       obtain ⟨t228, A1530, H⟩ := H
       replace H : (some t228) = some r := H
       have A153 := Aside0.mk A1530
       clear A1530
       obtain rfl := Option.some.inj H
       go_wp2_with (first | ((with_reducible refine gate_callee (f := 25) rfl ?_); refine zgo (some 181) Try.func25 #[] ?_; (with_reducible refine (cellarlaw8_wakes.calls kj9  t228 _ A153.out).mono ?_); rintro e w154 ⟨rfl, hb⟩; refine ⟨_, rfl, ?_⟩; have n0_ := Aside0.mk (zbb BK183.out hb); have n1_ := Aside0.mk (below_step (zw1 HB.out GE183.out) hb); clear BK183 HB; have BK183 := n0_; have HB := n1_; clear n0_ n1_; (try clear hb); (try clear hb2); (try clear hk); (try clear hi)))
       go_ret
       exact ⟨ze, zw1 HB.out GE183.out⟩

end Go.Proofs.Ythhdmanpjeminaa.B
