-- Written by this session's own edition of the print.
import Derived.Test.YtjhgpankffdnaaaAx0
import Derived.Test.YtjhgpankffdnaaaAx1
import Derived.Test.YtjhgpankffdnaaaAx2
import Derived.Test.YtjhgpankffdnaaaAx4
import Derived.Test.YtjhgpankffdnaaaAx5
import Derived.Test.YtjhgpankffdnaaaAx9
namespace Go.Proofs.Ytjhgpankffdnaaa.A
open Go.RowKit Go.Proofs.YtjhgpankffdnaaaW.PrintWords Go.Proofs.YtjhgpankffdnaaaW.PrintLast Go.Proofs.YtjhgpankffdnaaaW.PrintMore
attribute [local go_sem] max2_int min2_int max_two min_two max_three min_three max_four min_four   -- for this text's walks alone
set_option linter.unusedVariables false
set_option linter.unusedSimpArgs false

/-! ### cellarlaw2_AluLaws: function 19 -/
mutual
def cellarlaw2_AluLaws.l0 : Nat → Int → List Int → List ByteArray → List (S34) → Option (Bool)
 | 0, _, _, _, _ => none
 | k + 1, x3, x446000, x446001, x446002 => if x3 ≤ 5 then ((cellarref1_Width.f k x3).bind fun t448 => ((cellarlaw2_Numbers.f k x446000 x446001 x446002 x3).bind fun t449 => (cellarlaw2_AluLaws.l1 k x3 t448 t449 0 x446000 x446001 x446002))) else ((cellarlaw2_wakes.f k).bind fun t447 => (some t447))
def cellarlaw2_AluLaws.l1 : Nat → Int → Int → List Int → Int → List Int → List ByteArray → List (S34) → Option (Bool)
 | 0, _, _, _, _, _, _, _ => none
 | k + 1, x3, x4, x5, x6, x446000, x446001, x446002 => if x6 < (x5.length : Int) then (cellarlaw2_AluLaws.l2 k x3 x4 x5 x6 0 x446000 x446001 x446002) else (cellarlaw2_AluLaws.l0 k (wrap64 (x3 + 2)) x446000 x446001 x446002)
def cellarlaw2_AluLaws.l2 : Nat → Int → Int → List Int → Int → Int → List Int → List ByteArray → List (S34) → Option (Bool)
 | 0, _, _, _, _, _, _, _, _ => none
 | k + 1, x3, x4, x5, x6, x7, x446000, x446001, x446002 => if x7 < (x5.length : Int) then (if 0 ≤ x6 then (if x6 < (x5.length : Int) then (if 0 ≤ x7 then ((cellarref1_Number.f (rd x5 x6) x4).bind fun t454 => (if t454 = true then ((cellarref1_Number.f (rd x5 x7) x4).bind fun t455 => (cellarlaw2_AluLaws.j3 k x3 x4 x5 x6 x7 (rd x5 x6) (rd x5 x7) (!t455) x446000 x446001 x446002)) else (cellarlaw2_AluLaws.j3 k x3 x4 x5 x6 x7 (rd x5 x6) (rd x5 x7) true x446000 x446001 x446002))) else (none)) else (none)) else (none)) else (cellarlaw2_AluLaws.l1 k x3 x4 x5 (wrap64 (x6 + 1)) x446000 x446001 x446002)
def cellarlaw2_AluLaws.j3 : Nat → Int → Int → List Int → Int → Int → Int → Int → Bool → List Int → List ByteArray → List (S34) → Option (Bool)
 | 0, _, _, _, _, _, _, _, _, _, _, _ => none
 | k + 1, x3, x4, x5, x6, x7, x8, x9, x74, x446000, x446001, x446002 => if x74 = true then (cellarlaw2_AluLaws.l2 k x3 x4 x5 x6 (wrap64 (x7 + 1)) x446000 x446001 x446002) else ((alu_Two.f k 8 x3 x8 x9).bind fun bt456 => ((alu_Two.f k 9 x3 bt456.1 x9).bind fun bt459 => ((alu_Two.f k 10 x3 x8 x9).bind fun bt462 => ((alu_Two.f k 10 x3 x9 x8).bind fun bt465 => ((alu_One.f k 6 x3 x8).bind fun bt468 => ((alu_One.f k 6 x3 bt468.1).bind fun bt471 => ((cellarlaw2_num.f bt456.2.2).bind fun t474 => ((cellarlaw2_num.f bt459.2.2).bind fun t475 => ((cellarlaw2_num.f bt462.2.2).bind fun t476 => ((cellarlaw2_num.f bt465.2.2).bind fun t477 => ((cellarlaw2_num.f bt468.2.2).bind fun t478 => ((cellarlaw2_num.f bt471.2.2).bind fun t479 => (if (wrap64 ((wrap64 ((wrap64 ((wrap64 ((wrap64 (t474 + t475)) + t476)) + t477)) + t478)) + t479)) = 0 then (if (wrap64 ((wrap64 ((wrap64 ((wrap64 ((wrap64 (bt456.2.1 + bt459.2.1)) + bt462.2.1)) + bt465.2.1)) + bt468.2.1)) + bt471.2.1)) = 0 then (if bt459.1 = x8 then (if bt462.1 = bt465.1 then (cellarlaw2_AluLaws.j4 k x3 x4 x5 x6 x7 x8 x9 (bt471.1 != x8) x446000 x446001 x446002) else (cellarlaw2_AluLaws.j4 k x3 x4 x5 x6 x7 x8 x9 true x446000 x446001 x446002)) else (cellarlaw2_AluLaws.j4 k x3 x4 x5 x6 x7 x8 x9 true x446000 x446001 x446002)) else (cellarlaw2_AluLaws.j4 k x3 x4 x5 x6 x7 x8 x9 true x446000 x446001 x446002)) else (cellarlaw2_AluLaws.j4 k x3 x4 x5 x6 x7 x8 x9 true x446000 x446001 x446002))))))))))))))
def cellarlaw2_AluLaws.j4 : Nat → Int → Int → List Int → Int → Int → Int → Int → Bool → List Int → List ByteArray → List (S34) → Option (Bool)
 | 0, _, _, _, _, _, _, _, _, _, _, _ => none
 | k + 1, x3, x4, x5, x6, x7, x8, x9, x167, x446000, x446001, x446002 => if x167 = true then (some false) else (if x9 = 0 then (cellarlaw2_AluLaws.l2 k x3 x4 x5 x6 (wrap64 (x7 + 1)) x446000 x446001 x446002) else ((alu_Two.f k 11 x3 x8 x9).bind fun bt480 => ((alu_Two.f k 12 x3 x8 x9).bind fun bt483 => ((cellarlaw2_num.f bt480.2.2).bind fun t486 => ((cellarlaw2_num.f bt483.2.2).bind fun t487 => (if (wrap64 (t486 + t487)) = 0 then (if (wrap64 (bt480.2.1 + bt483.2.1)) = 0 then (if (wrap64 ((wrap64 (bt480.1 * x9)) + bt483.1)) = x8 then (if bt483.1 ≥ x9 then (some false) else (if bt483.1 < 0 then (some false) else (cellarlaw2_AluLaws.l2 k x3 x4 x5 x6 (wrap64 (x7 + 1)) x446000 x446001 x446002))) else (some false)) else (some false)) else (some false)))))))
end
def cellarlaw2_AluLaws.f (k : Nat) (l0_0 : List Int) (l0_1 : List ByteArray) (l0_2 : List (S34)) : Option (Bool) := (cellarlaw1_Heavy.f k l0_0 l0_1 l0_2).bind fun t446 => (if t446 = true then (some true) else (cellarlaw2_AluLaws.l0 k 1 l0_0 l0_1 l0_2))
theorem cellarlaw2_AluLaws.mono_l : ∀ k, (∀ y0 y1 y2 y3, LeO (cellarlaw2_AluLaws.l0 k y0 y1 y2 y3) (cellarlaw2_AluLaws.l0 (k + 1) y0 y1 y2 y3)) ∧ (∀ y0 y1 y2 y3 y4 y5 y6, LeO (cellarlaw2_AluLaws.l1 k y0 y1 y2 y3 y4 y5 y6) (cellarlaw2_AluLaws.l1 (k + 1) y0 y1 y2 y3 y4 y5 y6)) ∧ (∀ y0 y1 y2 y3 y4 y5 y6 y7, LeO (cellarlaw2_AluLaws.l2 k y0 y1 y2 y3 y4 y5 y6 y7) (cellarlaw2_AluLaws.l2 (k + 1) y0 y1 y2 y3 y4 y5 y6 y7)) ∧ (∀ y0 y1 y2 y3 y4 y5 y6 y7 y8 y9 y10, LeO (cellarlaw2_AluLaws.j3 k y0 y1 y2 y3 y4 y5 y6 y7 y8 y9 y10) (cellarlaw2_AluLaws.j3 (k + 1) y0 y1 y2 y3 y4 y5 y6 y7 y8 y9 y10)) ∧ (∀ y0 y1 y2 y3 y4 y5 y6 y7 y8 y9 y10, LeO (cellarlaw2_AluLaws.j4 k y0 y1 y2 y3 y4 y5 y6 y7 y8 y9 y10) (cellarlaw2_AluLaws.j4 (k + 1) y0 y1 y2 y3 y4 y5 y6 y7 y8 y9 y10))
 | 0 => ⟨fun _ _ _ _ r h => by simp [cellarlaw2_AluLaws.l0] at h, fun _ _ _ _ _ _ _ r h => by simp [cellarlaw2_AluLaws.l1] at h, fun _ _ _ _ _ _ _ _ r h => by simp [cellarlaw2_AluLaws.l2] at h, fun _ _ _ _ _ _ _ _ _ _ _ r h => by simp [cellarlaw2_AluLaws.j3] at h, fun _ _ _ _ _ _ _ _ _ _ _ r h => by simp [cellarlaw2_AluLaws.j4] at h⟩
 | k + 1 => by
  obtain ⟨ih0, ih1, ih2, ih3, ih4⟩ := cellarlaw2_AluLaws.mono_l k
  refine ⟨?_, ?_, ?_, ?_, ?_⟩
  ·intro y0 y1 y2 y3
   unfold cellarlaw2_AluLaws.l0
   repeat' first
   | (with_reducible exact ih0 _ _ _ _)
   | (with_reducible exact ih1 _ _ _ _ _ _ _)
   | (with_reducible exact ih2 _ _ _ _ _ _ _ _)
   | (with_reducible exact ih3 _ _ _ _ _ _ _ _ _ _ _)
   | (with_reducible exact ih4 _ _ _ _ _ _ _ _ _ _ _)
   | (with_reducible exact alu_One.mono _ _ _ _)
   | (with_reducible exact alu_Two.mono _ _ _ _ _)
   | (with_reducible exact cellarlaw1_Heavy.mono _ _ _ _)
   | (with_reducible exact cellarlaw2_Numbers.mono _ _ _ _ _)
   | (with_reducible exact cellarlaw2_wakes.mono _)
   | (with_reducible exact cellarref1_Width.mono _ _)
   | (with_reducible exact LeO.refl _)
   | (with_reducible exact LeO.none _)
   | (with_reducible refine LeO.ite ?_ ?_)
   | (with_reducible refine LeO.bind ?_ (fun _ => ?_))
   | exact ih0 _ _ _ _
   | exact ih1 _ _ _ _ _ _ _
   | exact ih2 _ _ _ _ _ _ _ _
   | exact ih3 _ _ _ _ _ _ _ _ _ _ _
   | exact ih4 _ _ _ _ _ _ _ _ _ _ _
   | exact alu_One.mono _ _ _ _
   | exact alu_Two.mono _ _ _ _ _
   | exact cellarlaw1_Heavy.mono _ _ _ _
   | exact cellarlaw2_Numbers.mono _ _ _ _ _
   | exact cellarlaw2_wakes.mono _
   | exact cellarref1_Width.mono _ _
   | exact LeO.none _
   | refine LeO.ite ?_ ?_
   | refine LeO.bind ?_ (fun _ => ?_)
  ·intro y0 y1 y2 y3 y4 y5 y6
   unfold cellarlaw2_AluLaws.l1
   repeat' first
   | (with_reducible exact ih0 _ _ _ _)
   | (with_reducible exact ih1 _ _ _ _ _ _ _)
   | (with_reducible exact ih2 _ _ _ _ _ _ _ _)
   | (with_reducible exact ih3 _ _ _ _ _ _ _ _ _ _ _)
   | (with_reducible exact ih4 _ _ _ _ _ _ _ _ _ _ _)
   | (with_reducible exact alu_One.mono _ _ _ _)
   | (with_reducible exact alu_Two.mono _ _ _ _ _)
   | (with_reducible exact cellarlaw1_Heavy.mono _ _ _ _)
   | (with_reducible exact cellarlaw2_Numbers.mono _ _ _ _ _)
   | (with_reducible exact cellarlaw2_wakes.mono _)
   | (with_reducible exact cellarref1_Width.mono _ _)
   | (with_reducible exact LeO.refl _)
   | (with_reducible exact LeO.none _)
   | (with_reducible refine LeO.ite ?_ ?_)
   | (with_reducible refine LeO.bind ?_ (fun _ => ?_))
   | exact ih0 _ _ _ _
   | exact ih1 _ _ _ _ _ _ _
   | exact ih2 _ _ _ _ _ _ _ _
   | exact ih3 _ _ _ _ _ _ _ _ _ _ _
   | exact ih4 _ _ _ _ _ _ _ _ _ _ _
   | exact alu_One.mono _ _ _ _
   | exact alu_Two.mono _ _ _ _ _
   | exact cellarlaw1_Heavy.mono _ _ _ _
   | exact cellarlaw2_Numbers.mono _ _ _ _ _
   | exact cellarlaw2_wakes.mono _
   | exact cellarref1_Width.mono _ _
   | exact LeO.none _
   | refine LeO.ite ?_ ?_
   | refine LeO.bind ?_ (fun _ => ?_)
  ·intro y0 y1 y2 y3 y4 y5 y6 y7
   unfold cellarlaw2_AluLaws.l2
   repeat' first
   | (with_reducible exact ih0 _ _ _ _)
   | (with_reducible exact ih1 _ _ _ _ _ _ _)
   | (with_reducible exact ih2 _ _ _ _ _ _ _ _)
   | (with_reducible exact ih3 _ _ _ _ _ _ _ _ _ _ _)
   | (with_reducible exact ih4 _ _ _ _ _ _ _ _ _ _ _)
   | (with_reducible exact alu_One.mono _ _ _ _)
   | (with_reducible exact alu_Two.mono _ _ _ _ _)
   | (with_reducible exact cellarlaw1_Heavy.mono _ _ _ _)
   | (with_reducible exact cellarlaw2_Numbers.mono _ _ _ _ _)
   | (with_reducible exact cellarlaw2_wakes.mono _)
   | (with_reducible exact cellarref1_Width.mono _ _)
   | (with_reducible exact LeO.refl _)
   | (with_reducible exact LeO.none _)
   | (with_reducible refine LeO.ite ?_ ?_)
   | (with_reducible refine LeO.bind ?_ (fun _ => ?_))
   | exact ih0 _ _ _ _
   | exact ih1 _ _ _ _ _ _ _
   | exact ih2 _ _ _ _ _ _ _ _
   | exact ih3 _ _ _ _ _ _ _ _ _ _ _
   | exact ih4 _ _ _ _ _ _ _ _ _ _ _
   | exact alu_One.mono _ _ _ _
   | exact alu_Two.mono _ _ _ _ _
   | exact cellarlaw1_Heavy.mono _ _ _ _
   | exact cellarlaw2_Numbers.mono _ _ _ _ _
   | exact cellarlaw2_wakes.mono _
   | exact cellarref1_Width.mono _ _
   | exact LeO.none _
   | refine LeO.ite ?_ ?_
   | refine LeO.bind ?_ (fun _ => ?_)
  ·intro y0 y1 y2 y3 y4 y5 y6 y7 y8 y9 y10
   unfold cellarlaw2_AluLaws.j3
   repeat' first
   | (with_reducible exact ih0 _ _ _ _)
   | (with_reducible exact ih1 _ _ _ _ _ _ _)
   | (with_reducible exact ih2 _ _ _ _ _ _ _ _)
   | (with_reducible exact ih3 _ _ _ _ _ _ _ _ _ _ _)
   | (with_reducible exact ih4 _ _ _ _ _ _ _ _ _ _ _)
   | (with_reducible exact alu_One.mono _ _ _ _)
   | (with_reducible exact alu_Two.mono _ _ _ _ _)
   | (with_reducible exact cellarlaw1_Heavy.mono _ _ _ _)
   | (with_reducible exact cellarlaw2_Numbers.mono _ _ _ _ _)
   | (with_reducible exact cellarlaw2_wakes.mono _)
   | (with_reducible exact cellarref1_Width.mono _ _)
   | (with_reducible exact LeO.refl _)
   | (with_reducible exact LeO.none _)
   | (with_reducible refine LeO.ite ?_ ?_)
   | (with_reducible refine LeO.bind ?_ (fun _ => ?_))
   | exact ih0 _ _ _ _
   | exact ih1 _ _ _ _ _ _ _
   | exact ih2 _ _ _ _ _ _ _ _
   | exact ih3 _ _ _ _ _ _ _ _ _ _ _
   | exact ih4 _ _ _ _ _ _ _ _ _ _ _
   | exact alu_One.mono _ _ _ _
   | exact alu_Two.mono _ _ _ _ _
   | exact cellarlaw1_Heavy.mono _ _ _ _
   | exact cellarlaw2_Numbers.mono _ _ _ _ _
   | exact cellarlaw2_wakes.mono _
   | exact cellarref1_Width.mono _ _
   | exact LeO.none _
   | refine LeO.ite ?_ ?_
   | refine LeO.bind ?_ (fun _ => ?_)
  ·intro y0 y1 y2 y3 y4 y5 y6 y7 y8 y9 y10
   unfold cellarlaw2_AluLaws.j4
   repeat' first
   | (with_reducible exact ih0 _ _ _ _)
   | (with_reducible exact ih1 _ _ _ _ _ _ _)
   | (with_reducible exact ih2 _ _ _ _ _ _ _ _)
   | (with_reducible exact ih3 _ _ _ _ _ _ _ _ _ _ _)
   | (with_reducible exact ih4 _ _ _ _ _ _ _ _ _ _ _)
   | (with_reducible exact alu_One.mono _ _ _ _)
   | (with_reducible exact alu_Two.mono _ _ _ _ _)
   | (with_reducible exact cellarlaw1_Heavy.mono _ _ _ _)
   | (with_reducible exact cellarlaw2_Numbers.mono _ _ _ _ _)
   | (with_reducible exact cellarlaw2_wakes.mono _)
   | (with_reducible exact cellarref1_Width.mono _ _)
   | (with_reducible exact LeO.refl _)
   | (with_reducible exact LeO.none _)
   | (with_reducible refine LeO.ite ?_ ?_)
   | (with_reducible refine LeO.bind ?_ (fun _ => ?_))
   | exact ih0 _ _ _ _
   | exact ih1 _ _ _ _ _ _ _
   | exact ih2 _ _ _ _ _ _ _ _
   | exact ih3 _ _ _ _ _ _ _ _ _ _ _
   | exact ih4 _ _ _ _ _ _ _ _ _ _ _
   | exact alu_One.mono _ _ _ _
   | exact alu_Two.mono _ _ _ _ _
   | exact cellarlaw1_Heavy.mono _ _ _ _
   | exact cellarlaw2_Numbers.mono _ _ _ _ _
   | exact cellarlaw2_wakes.mono _
   | exact cellarref1_Width.mono _ _
   | exact LeO.none _
   | refine LeO.ite ?_ ?_
   | refine LeO.bind ?_ (fun _ => ?_)
theorem cellarlaw2_AluLaws.mono : ∀ a0 a1 a2 k, LeO (cellarlaw2_AluLaws.f k a0 a1 a2) (cellarlaw2_AluLaws.f (k + 1) a0 a1 a2) := by
 intro a0 a1 a2 k
 obtain ⟨ih0, ih1, ih2, ih3, ih4⟩ := cellarlaw2_AluLaws.mono_l k
 unfold cellarlaw2_AluLaws.f
 repeat' first
   | (with_reducible exact ih0 _ _ _ _)
   | (with_reducible exact ih1 _ _ _ _ _ _ _)
   | (with_reducible exact ih2 _ _ _ _ _ _ _ _)
   | (with_reducible exact ih3 _ _ _ _ _ _ _ _ _ _ _)
   | (with_reducible exact ih4 _ _ _ _ _ _ _ _ _ _ _)
   | (with_reducible exact alu_One.mono _ _ _ _)
   | (with_reducible exact alu_Two.mono _ _ _ _ _)
   | (with_reducible exact cellarlaw1_Heavy.mono _ _ _ _)
   | (with_reducible exact cellarlaw2_Numbers.mono _ _ _ _ _)
   | (with_reducible exact cellarlaw2_wakes.mono _)
   | (with_reducible exact cellarref1_Width.mono _ _)
   | (with_reducible exact LeO.refl _)
   | (with_reducible exact LeO.none _)
   | (with_reducible refine LeO.ite ?_ ?_)
   | (with_reducible refine LeO.bind ?_ (fun _ => ?_))
   | exact ih0 _ _ _ _
   | exact ih1 _ _ _ _ _ _ _
   | exact ih2 _ _ _ _ _ _ _ _
   | exact ih3 _ _ _ _ _ _ _ _ _ _ _
   | exact ih4 _ _ _ _ _ _ _ _ _ _ _
   | exact alu_One.mono _ _ _ _
   | exact alu_Two.mono _ _ _ _ _
   | exact cellarlaw1_Heavy.mono _ _ _ _
   | exact cellarlaw2_Numbers.mono _ _ _ _ _
   | exact cellarlaw2_wakes.mono _
   | exact cellarref1_Width.mono _ _
   | exact LeO.none _
   | refine LeO.ite ?_ ?_
   | refine LeO.bind ?_ (fun _ => ?_)
set_option maxHeartbeats 8000000 in
set_option maxRecDepth 100000 in
theorem cellarlaw2_AluLaws.calls (k : Nat) (A0_0 : Option Addr) (c0_0 : Nat) (l0_0 : List Int) (A0_1 : Option Addr) (c0_1 : Nat) (l0_1 : List ByteArray) (A0_2 : Option Addr) (c0_2 : Nat) (l0_2 : List (S34)) (r : Bool) (w : World) (hr0_0 : Kd.C (Kd.int .i64) w A0_0 l0_0.length l0_0) (hc0_0 : l0_0.length ≤ c0_0) (hr0_1 : Kd.C Kd.string w A0_1 l0_1.length l0_1) (hc0_1 : l0_1.length ≤ c0_1) (hr0_2 : Kd.C k34 w A0_2 l0_2.length l0_2) (hc0_2 : l0_2.length ≤ c0_2) (h : cellarlaw2_AluLaws.f k l0_0 l0_1 l0_2 = some r) :
  Calls Try.prog 19 #[.agg #[.slice A0_0 l0_0.length c0_0, .slice A0_1 l0_1.length c0_1, .slice A0_2 l0_2.length c0_2]] w fun e w' => e = .returned (.bool r) ∧ Below w.heap.size w w' := by
 have hu26 := Try.underlying26
 have HR0_0 := Aside0.mk hr0_0
 have HC0_0 := Aside0.mk hc0_0
 clear hr0_0 hc0_0
 have HR0_1 := Aside0.mk hr0_1
 have HC0_1 := Aside0.mk hc0_1
 clear hr0_1 hc0_1
 have HR0_2 := Aside0.mk hr0_2
 have HC0_2 := Aside0.mk hc0_2
 clear hr0_2 hc0_2
 have HB := Aside0.mk (Below.refl w.heap.size w)
 have H : ((cellarlaw1_Heavy.f k l0_0 l0_1 l0_2).bind fun t446 => (if t446 = true then (some true) else (cellarlaw2_AluLaws.l0 k 1 l0_0 l0_1 l0_2))) = some r := h
 clear h
 replace H := Option.bind_eq_some_iff.mp H
 obtain ⟨t446, A20, H⟩ := H
 replace H : (if t446 = true then (some true) else (cellarlaw2_AluLaws.l0 k 1 l0_0 l0_1 l0_2)) = some r := H
 have A2 := Aside0.mk A20
 clear A20
 by_cases c3 : t446 = true
 ·subst c3
  have H1 : (some true) = some r := by rw [if_pos rfl] at H; exact H
  clear H
  have H := H1
  clear H1
  obtain rfl := Option.some.inj H
  go_enter Try.func19, Try.ntmps19
  go_wp2_with (first | ((with_reducible refine gate_dst (N := 1) rfl ?_); refine box_event ?hg (N := 1) ?hd (cs := #[.slice A0_0 l0_0.length c0_0, .slice A0_1 l0_1.length c0_1, .slice A0_2 l0_2.length c0_2]) (t := 26) ?hr ?_; (case hd => rfl); (case hg => rfl); (case hr => first | (go_simp; done) | (go_simp; rfl)); intro gb445 hg w4 hbox hb; have n0_ := Aside0.mk (below_step (by repeat (first | (with_reducible first | exact HB.out | apply below_alloc | apply pw_below_drewN | apply below_drew1) | exact HB.out)) hb); have n1_ := Aside0.mk (hbox); have n2_ := Aside0.mk ((by rw [hg]; exact (below_size (by repeat (first | (with_reducible first | exact HB.out | apply below_alloc | apply pw_below_drewN | apply below_drew1) | exact HB.out))) : w.heap.size ≤ gb445)); have n3_ := Aside0.mk ((by rw [hg]; exact (below_size (by repeat (first | (with_reducible first | exact HB.out | apply below_alloc | apply pw_below_drewN | apply below_drew1) | exact HB.out))) : w.heap.size ≤ gb445)); clear HB; have HB := n0_; have BK445 := n1_; have GW445 := n2_; have GE445 := n3_; clear n0_ n1_ n2_ n3_; clear hb hbox hg; have hcz5_0 : w4.cell? ⟨gb445, 0, none⟩ = some (.slice A0_0 l0_0.length c0_0) := (blk_cell BK445.out 0).trans rfl; have hcz5_1 : w4.cell? ⟨gb445, 1, none⟩ = some (.slice A0_1 l0_1.length c0_1) := (blk_cell BK445.out 1).trans rfl; have hcz5_2 : w4.cell? ⟨gb445, 2, none⟩ = some (.slice A0_2 l0_2.length c0_2) := (blk_cell BK445.out 2).trans rfl; have hfz5_0 := blk_frozen BK445.out 0; have hfz5_1 := blk_frozen BK445.out 1; have hfz5_2 := blk_frozen BK445.out 2) | (go_at_call 23; (with_reducible refine (cellarlaw1_Heavy.calls k _ _ l0_0 _ _ l0_1 _ _ l0_2 true _ ?side1 ?side2 ?side3 ?side4 ?side5 ?side6 A2.out).mono ?_); (case side1 => repeat (first | exact (Kd.C_below HR0_0.out HB.out) | (with_reducible refine Kd.C_alloc ?_ _) | (with_reducible refine Kd.C_drewN ?_ _) | (with_reducible refine Kd.C_drew ?_))); (case side2 => exact HC0_0.out); (case side3 => repeat (first | exact (Kd.C_below HR0_1.out HB.out) | (with_reducible refine Kd.C_alloc ?_ _) | (with_reducible refine Kd.C_drewN ?_ _) | (with_reducible refine Kd.C_drew ?_))); (case side4 => exact HC0_1.out); (case side5 => repeat (first | exact (Kd.C_below HR0_2.out HB.out) | (with_reducible refine Kd.C_alloc ?_ _) | (with_reducible refine Kd.C_drewN ?_ _) | (with_reducible refine Kd.C_drew ?_))); (case side6 => exact HC0_2.out); rintro e w6 ⟨rfl, hb⟩; have n0_ := Aside0.mk (blk_below (g := gb445) (o := .cells #[.slice A0_0 l0_0.length c0_0, .slice A0_1 l0_1.length c0_1, .slice A0_2 l0_2.length c0_2] 26 (0, 0)) (by (with_reducible repeat (first | refine blk_drewN ?_ _ | refine blk_drew ?_ | refine blk_alloc ?_ _)); exact BK445.out) hb); have n1_ := Aside0.mk (below_step (by repeat (first | (with_reducible first | exact HB.out | apply below_alloc | apply pw_below_drewN | apply below_drew1 | refine below_set ?_ GE445.out) | exact HB.out)) hb); clear BK445; clear HB; have BK445 := n0_; have HB := n1_; clear n0_ n1_; (try clear hb); (try clear hb2); (try clear hk); (try clear hi)))
  repeat (go_quiet (first | ((with_reducible refine gate_dst (N := 1) rfl ?_); refine box_event ?hg (N := 1) ?hd (cs := #[.slice A0_0 l0_0.length c0_0, .slice A0_1 l0_1.length c0_1, .slice A0_2 l0_2.length c0_2]) (t := 26) ?hr ?_; (case hd => rfl); (case hg => rfl); (case hr => first | (go_simp; done) | (go_simp; rfl)); intro gb445 hg w4 hbox hb; have n0_ := Aside0.mk (below_step (by repeat (first | (with_reducible first | exact HB.out | apply below_alloc | apply pw_below_drewN | apply below_drew1) | exact HB.out)) hb); have n1_ := Aside0.mk (hbox); have n2_ := Aside0.mk ((by rw [hg]; exact (below_size (by repeat (first | (with_reducible first | exact HB.out | apply below_alloc | apply pw_below_drewN | apply below_drew1) | exact HB.out))) : w.heap.size ≤ gb445)); have n3_ := Aside0.mk ((by rw [hg]; exact (below_size (by repeat (first | (with_reducible first | exact HB.out | apply below_alloc | apply pw_below_drewN | apply below_drew1) | exact HB.out))) : w.heap.size ≤ gb445)); clear HB; have HB := n0_; have BK445 := n1_; have GW445 := n2_; have GE445 := n3_; clear n0_ n1_ n2_ n3_; clear hb hbox hg; have hcz5_0 : w4.cell? ⟨gb445, 0, none⟩ = some (.slice A0_0 l0_0.length c0_0) := (blk_cell BK445.out 0).trans rfl; have hcz5_1 : w4.cell? ⟨gb445, 1, none⟩ = some (.slice A0_1 l0_1.length c0_1) := (blk_cell BK445.out 1).trans rfl; have hcz5_2 : w4.cell? ⟨gb445, 2, none⟩ = some (.slice A0_2 l0_2.length c0_2) := (blk_cell BK445.out 2).trans rfl; have hfz5_0 := blk_frozen BK445.out 0; have hfz5_1 := blk_frozen BK445.out 1; have hfz5_2 := blk_frozen BK445.out 2) | (go_at_call 23; (with_reducible refine (cellarlaw1_Heavy.calls k _ _ l0_0 _ _ l0_1 _ _ l0_2 true _ ?side1 ?side2 ?side3 ?side4 ?side5 ?side6 A2.out).mono ?_); (case side1 => repeat (first | exact (Kd.C_below HR0_0.out HB.out) | (with_reducible refine Kd.C_alloc ?_ _) | (with_reducible refine Kd.C_drewN ?_ _) | (with_reducible refine Kd.C_drew ?_))); (case side2 => exact HC0_0.out); (case side3 => repeat (first | exact (Kd.C_below HR0_1.out HB.out) | (with_reducible refine Kd.C_alloc ?_ _) | (with_reducible refine Kd.C_drewN ?_ _) | (with_reducible refine Kd.C_drew ?_))); (case side4 => exact HC0_1.out); (case side5 => repeat (first | exact (Kd.C_below HR0_2.out HB.out) | (with_reducible refine Kd.C_alloc ?_ _) | (with_reducible refine Kd.C_drewN ?_ _) | (with_reducible refine Kd.C_drew ?_))); (case side6 => exact HC0_2.out); rintro e w6 ⟨rfl, hb⟩; have n0_ := Aside0.mk (blk_below (g := gb445) (o := .cells #[.slice A0_0 l0_0.length c0_0, .slice A0_1 l0_1.length c0_1, .slice A0_2 l0_2.length c0_2] 26 (0, 0)) (by (with_reducible repeat (first | refine blk_drewN ?_ _ | refine blk_drew ?_ | refine blk_alloc ?_ _)); exact BK445.out) hb); have n1_ := Aside0.mk (below_step (by repeat (first | (with_reducible first | exact HB.out | apply below_alloc | apply pw_below_drewN | apply below_drew1 | refine below_set ?_ GE445.out) | exact HB.out)) hb); clear BK445; clear HB; have BK445 := n0_; have HB := n1_; clear n0_ n1_; (try clear hb); (try clear hb2); (try clear hk); (try clear hi))); try go_wp2_with (first | ((with_reducible refine gate_dst (N := 1) rfl ?_); refine box_event ?hg (N := 1) ?hd (cs := #[.slice A0_0 l0_0.length c0_0, .slice A0_1 l0_1.length c0_1, .slice A0_2 l0_2.length c0_2]) (t := 26) ?hr ?_; (case hd => rfl); (case hg => rfl); (case hr => first | (go_simp; done) | (go_simp; rfl)); intro gb445 hg w4 hbox hb; have n0_ := Aside0.mk (below_step (by repeat (first | (with_reducible first | exact HB.out | apply below_alloc | apply pw_below_drewN | apply below_drew1) | exact HB.out)) hb); have n1_ := Aside0.mk (hbox); have n2_ := Aside0.mk ((by rw [hg]; exact (below_size (by repeat (first | (with_reducible first | exact HB.out | apply below_alloc | apply pw_below_drewN | apply below_drew1) | exact HB.out))) : w.heap.size ≤ gb445)); have n3_ := Aside0.mk ((by rw [hg]; exact (below_size (by repeat (first | (with_reducible first | exact HB.out | apply below_alloc | apply pw_below_drewN | apply below_drew1) | exact HB.out))) : w.heap.size ≤ gb445)); clear HB; have HB := n0_; have BK445 := n1_; have GW445 := n2_; have GE445 := n3_; clear n0_ n1_ n2_ n3_; clear hb hbox hg; have hcz5_0 : w4.cell? ⟨gb445, 0, none⟩ = some (.slice A0_0 l0_0.length c0_0) := (blk_cell BK445.out 0).trans rfl; have hcz5_1 : w4.cell? ⟨gb445, 1, none⟩ = some (.slice A0_1 l0_1.length c0_1) := (blk_cell BK445.out 1).trans rfl; have hcz5_2 : w4.cell? ⟨gb445, 2, none⟩ = some (.slice A0_2 l0_2.length c0_2) := (blk_cell BK445.out 2).trans rfl; have hfz5_0 := blk_frozen BK445.out 0; have hfz5_1 := blk_frozen BK445.out 1; have hfz5_2 := blk_frozen BK445.out 2) | (go_at_call 23; (with_reducible refine (cellarlaw1_Heavy.calls k _ _ l0_0 _ _ l0_1 _ _ l0_2 true _ ?side1 ?side2 ?side3 ?side4 ?side5 ?side6 A2.out).mono ?_); (case side1 => repeat (first | exact (Kd.C_below HR0_0.out HB.out) | (with_reducible refine Kd.C_alloc ?_ _) | (with_reducible refine Kd.C_drewN ?_ _) | (with_reducible refine Kd.C_drew ?_))); (case side2 => exact HC0_0.out); (case side3 => repeat (first | exact (Kd.C_below HR0_1.out HB.out) | (with_reducible refine Kd.C_alloc ?_ _) | (with_reducible refine Kd.C_drewN ?_ _) | (with_reducible refine Kd.C_drew ?_))); (case side4 => exact HC0_1.out); (case side5 => repeat (first | exact (Kd.C_below HR0_2.out HB.out) | (with_reducible refine Kd.C_alloc ?_ _) | (with_reducible refine Kd.C_drewN ?_ _) | (with_reducible refine Kd.C_drew ?_))); (case side6 => exact HC0_2.out); rintro e w6 ⟨rfl, hb⟩; have n0_ := Aside0.mk (blk_below (g := gb445) (o := .cells #[.slice A0_0 l0_0.length c0_0, .slice A0_1 l0_1.length c0_1, .slice A0_2 l0_2.length c0_2] 26 (0, 0)) (by (with_reducible repeat (first | refine blk_drewN ?_ _ | refine blk_drew ?_ | refine blk_alloc ?_ _)); exact BK445.out) hb); have n1_ := Aside0.mk (below_step (by repeat (first | (with_reducible first | exact HB.out | apply below_alloc | apply pw_below_drewN | apply below_drew1 | refine below_set ?_ GE445.out) | exact HB.out)) hb); clear BK445; clear HB; have BK445 := n0_; have HB := n1_; clear n0_ n1_; (try clear hb); (try clear hb2); (try clear hk); (try clear hi))))
  go_ret
  exact ⟨by first | rfl | (simp [errW_none, errW_some] <;> rfl) | (simp [*, errW_none, errW_some] <;> rfl), by repeat (first | (with_reducible first | exact HB.out | apply below_alloc | apply pw_below_drewN | apply below_drew1 | refine below_set ?_ GE445.out) | exact HB.out)⟩
 ·replace c3 := Bool.eq_false_iff.mpr c3
  subst c3
  have H1 : (cellarlaw2_AluLaws.l0 k 1 l0_0 l0_1 l0_2) = some r := by rw [if_neg (show ¬ (false = true) by decide)] at H; exact H
  clear H
  have H := H1
  clear H1
  have H' := Aside0.mk H
  clear H
  go_enter Try.func19, Try.ntmps19
  go_wp2_with (first | ((with_reducible refine gate_dst (N := 1) rfl ?_); refine box_event ?hg (N := 1) ?hd (cs := #[.slice A0_0 l0_0.length c0_0, .slice A0_1 l0_1.length c0_1, .slice A0_2 l0_2.length c0_2]) (t := 26) ?hr ?_; (case hd => rfl); (case hg => rfl); (case hr => first | (go_simp; done) | (go_simp; rfl)); intro gb445 hg w7 hbox hb; have n0_ := Aside0.mk (below_step (by repeat (first | (with_reducible first | exact HB.out | apply below_alloc | apply pw_below_drewN | apply below_drew1) | exact HB.out)) hb); have n1_ := Aside0.mk (hbox); have n2_ := Aside0.mk ((by rw [hg]; exact (below_size (by repeat (first | (with_reducible first | exact HB.out | apply below_alloc | apply pw_below_drewN | apply below_drew1) | exact HB.out))) : w.heap.size ≤ gb445)); have n3_ := Aside0.mk ((by rw [hg]; exact (below_size (by repeat (first | (with_reducible first | exact HB.out | apply below_alloc | apply pw_below_drewN | apply below_drew1) | exact HB.out))) : w.heap.size ≤ gb445)); clear HB; have HB := n0_; have BK445 := n1_; have GW445 := n2_; have GE445 := n3_; clear n0_ n1_ n2_ n3_; clear hb hbox hg; have hcz8_0 : w7.cell? ⟨gb445, 0, none⟩ = some (.slice A0_0 l0_0.length c0_0) := (blk_cell BK445.out 0).trans rfl; have hcz8_1 : w7.cell? ⟨gb445, 1, none⟩ = some (.slice A0_1 l0_1.length c0_1) := (blk_cell BK445.out 1).trans rfl; have hcz8_2 : w7.cell? ⟨gb445, 2, none⟩ = some (.slice A0_2 l0_2.length c0_2) := (blk_cell BK445.out 2).trans rfl; have hfz8_0 := blk_frozen BK445.out 0; have hfz8_1 := blk_frozen BK445.out 1; have hfz8_2 := blk_frozen BK445.out 2) | (go_at_call 23; (with_reducible refine (cellarlaw1_Heavy.calls k _ _ l0_0 _ _ l0_1 _ _ l0_2 false _ ?side1 ?side2 ?side3 ?side4 ?side5 ?side6 A2.out).mono ?_); (case side1 => repeat (first | exact (Kd.C_below HR0_0.out HB.out) | (with_reducible refine Kd.C_alloc ?_ _) | (with_reducible refine Kd.C_drewN ?_ _) | (with_reducible refine Kd.C_drew ?_))); (case side2 => exact HC0_0.out); (case side3 => repeat (first | exact (Kd.C_below HR0_1.out HB.out) | (with_reducible refine Kd.C_alloc ?_ _) | (with_reducible refine Kd.C_drewN ?_ _) | (with_reducible refine Kd.C_drew ?_))); (case side4 => exact HC0_1.out); (case side5 => repeat (first | exact (Kd.C_below HR0_2.out HB.out) | (with_reducible refine Kd.C_alloc ?_ _) | (with_reducible refine Kd.C_drewN ?_ _) | (with_reducible refine Kd.C_drew ?_))); (case side6 => exact HC0_2.out); rintro e w9 ⟨rfl, hb⟩; have n0_ := Aside0.mk (blk_below (g := gb445) (o := .cells #[.slice A0_0 l0_0.length c0_0, .slice A0_1 l0_1.length c0_1, .slice A0_2 l0_2.length c0_2] 26 (0, 0)) (by (with_reducible repeat (first | refine blk_drewN ?_ _ | refine blk_drew ?_ | refine blk_alloc ?_ _)); exact BK445.out) hb); have n1_ := Aside0.mk (below_step (by repeat (first | (with_reducible first | exact HB.out | apply below_alloc | apply pw_below_drewN | apply below_drew1 | refine below_set ?_ GE445.out) | exact HB.out)) hb); clear BK445; clear HB; have BK445 := n0_; have HB := n1_; clear n0_ n1_; (try clear hb); (try clear hb2); (try clear hk); (try clear hi)))
  repeat (go_quiet (first | ((with_reducible refine gate_dst (N := 1) rfl ?_); refine box_event ?hg (N := 1) ?hd (cs := #[.slice A0_0 l0_0.length c0_0, .slice A0_1 l0_1.length c0_1, .slice A0_2 l0_2.length c0_2]) (t := 26) ?hr ?_; (case hd => rfl); (case hg => rfl); (case hr => first | (go_simp; done) | (go_simp; rfl)); intro gb445 hg w7 hbox hb; have n0_ := Aside0.mk (below_step (by repeat (first | (with_reducible first | exact HB.out | apply below_alloc | apply pw_below_drewN | apply below_drew1) | exact HB.out)) hb); have n1_ := Aside0.mk (hbox); have n2_ := Aside0.mk ((by rw [hg]; exact (below_size (by repeat (first | (with_reducible first | exact HB.out | apply below_alloc | apply pw_below_drewN | apply below_drew1) | exact HB.out))) : w.heap.size ≤ gb445)); have n3_ := Aside0.mk ((by rw [hg]; exact (below_size (by repeat (first | (with_reducible first | exact HB.out | apply below_alloc | apply pw_below_drewN | apply below_drew1) | exact HB.out))) : w.heap.size ≤ gb445)); clear HB; have HB := n0_; have BK445 := n1_; have GW445 := n2_; have GE445 := n3_; clear n0_ n1_ n2_ n3_; clear hb hbox hg; have hcz8_0 : w7.cell? ⟨gb445, 0, none⟩ = some (.slice A0_0 l0_0.length c0_0) := (blk_cell BK445.out 0).trans rfl; have hcz8_1 : w7.cell? ⟨gb445, 1, none⟩ = some (.slice A0_1 l0_1.length c0_1) := (blk_cell BK445.out 1).trans rfl; have hcz8_2 : w7.cell? ⟨gb445, 2, none⟩ = some (.slice A0_2 l0_2.length c0_2) := (blk_cell BK445.out 2).trans rfl; have hfz8_0 := blk_frozen BK445.out 0; have hfz8_1 := blk_frozen BK445.out 1; have hfz8_2 := blk_frozen BK445.out 2) | (go_at_call 23; (with_reducible refine (cellarlaw1_Heavy.calls k _ _ l0_0 _ _ l0_1 _ _ l0_2 false _ ?side1 ?side2 ?side3 ?side4 ?side5 ?side6 A2.out).mono ?_); (case side1 => repeat (first | exact (Kd.C_below HR0_0.out HB.out) | (with_reducible refine Kd.C_alloc ?_ _) | (with_reducible refine Kd.C_drewN ?_ _) | (with_reducible refine Kd.C_drew ?_))); (case side2 => exact HC0_0.out); (case side3 => repeat (first | exact (Kd.C_below HR0_1.out HB.out) | (with_reducible refine Kd.C_alloc ?_ _) | (with_reducible refine Kd.C_drewN ?_ _) | (with_reducible refine Kd.C_drew ?_))); (case side4 => exact HC0_1.out); (case side5 => repeat (first | exact (Kd.C_below HR0_2.out HB.out) | (with_reducible refine Kd.C_alloc ?_ _) | (with_reducible refine Kd.C_drewN ?_ _) | (with_reducible refine Kd.C_drew ?_))); (case side6 => exact HC0_2.out); rintro e w9 ⟨rfl, hb⟩; have n0_ := Aside0.mk (blk_below (g := gb445) (o := .cells #[.slice A0_0 l0_0.length c0_0, .slice A0_1 l0_1.length c0_1, .slice A0_2 l0_2.length c0_2] 26 (0, 0)) (by (with_reducible repeat (first | refine blk_drewN ?_ _ | refine blk_drew ?_ | refine blk_alloc ?_ _)); exact BK445.out) hb); have n1_ := Aside0.mk (below_step (by repeat (first | (with_reducible first | exact HB.out | apply below_alloc | apply pw_below_drewN | apply below_drew1 | refine below_set ?_ GE445.out) | exact HB.out)) hb); clear BK445; clear HB; have BK445 := n0_; have HB := n1_; clear n0_ n1_; (try clear hb); (try clear hb2); (try clear hk); (try clear hi))); try go_wp2_with (first | ((with_reducible refine gate_dst (N := 1) rfl ?_); refine box_event ?hg (N := 1) ?hd (cs := #[.slice A0_0 l0_0.length c0_0, .slice A0_1 l0_1.length c0_1, .slice A0_2 l0_2.length c0_2]) (t := 26) ?hr ?_; (case hd => rfl); (case hg => rfl); (case hr => first | (go_simp; done) | (go_simp; rfl)); intro gb445 hg w7 hbox hb; have n0_ := Aside0.mk (below_step (by repeat (first | (with_reducible first | exact HB.out | apply below_alloc | apply pw_below_drewN | apply below_drew1) | exact HB.out)) hb); have n1_ := Aside0.mk (hbox); have n2_ := Aside0.mk ((by rw [hg]; exact (below_size (by repeat (first | (with_reducible first | exact HB.out | apply below_alloc | apply pw_below_drewN | apply below_drew1) | exact HB.out))) : w.heap.size ≤ gb445)); have n3_ := Aside0.mk ((by rw [hg]; exact (below_size (by repeat (first | (with_reducible first | exact HB.out | apply below_alloc | apply pw_below_drewN | apply below_drew1) | exact HB.out))) : w.heap.size ≤ gb445)); clear HB; have HB := n0_; have BK445 := n1_; have GW445 := n2_; have GE445 := n3_; clear n0_ n1_ n2_ n3_; clear hb hbox hg; have hcz8_0 : w7.cell? ⟨gb445, 0, none⟩ = some (.slice A0_0 l0_0.length c0_0) := (blk_cell BK445.out 0).trans rfl; have hcz8_1 : w7.cell? ⟨gb445, 1, none⟩ = some (.slice A0_1 l0_1.length c0_1) := (blk_cell BK445.out 1).trans rfl; have hcz8_2 : w7.cell? ⟨gb445, 2, none⟩ = some (.slice A0_2 l0_2.length c0_2) := (blk_cell BK445.out 2).trans rfl; have hfz8_0 := blk_frozen BK445.out 0; have hfz8_1 := blk_frozen BK445.out 1; have hfz8_2 := blk_frozen BK445.out 2) | (go_at_call 23; (with_reducible refine (cellarlaw1_Heavy.calls k _ _ l0_0 _ _ l0_1 _ _ l0_2 false _ ?side1 ?side2 ?side3 ?side4 ?side5 ?side6 A2.out).mono ?_); (case side1 => repeat (first | exact (Kd.C_below HR0_0.out HB.out) | (with_reducible refine Kd.C_alloc ?_ _) | (with_reducible refine Kd.C_drewN ?_ _) | (with_reducible refine Kd.C_drew ?_))); (case side2 => exact HC0_0.out); (case side3 => repeat (first | exact (Kd.C_below HR0_1.out HB.out) | (with_reducible refine Kd.C_alloc ?_ _) | (with_reducible refine Kd.C_drewN ?_ _) | (with_reducible refine Kd.C_drew ?_))); (case side4 => exact HC0_1.out); (case side5 => repeat (first | exact (Kd.C_below HR0_2.out HB.out) | (with_reducible refine Kd.C_alloc ?_ _) | (with_reducible refine Kd.C_drewN ?_ _) | (with_reducible refine Kd.C_drew ?_))); (case side6 => exact HC0_2.out); rintro e w9 ⟨rfl, hb⟩; have n0_ := Aside0.mk (blk_below (g := gb445) (o := .cells #[.slice A0_0 l0_0.length c0_0, .slice A0_1 l0_1.length c0_1, .slice A0_2 l0_2.length c0_2] 26 (0, 0)) (by (with_reducible repeat (first | refine blk_drewN ?_ _ | refine blk_drew ?_ | refine blk_alloc ?_ _)); exact BK445.out) hb); have n1_ := Aside0.mk (below_step (by repeat (first | (with_reducible first | exact HB.out | apply below_alloc | apply pw_below_drewN | apply below_drew1 | refine below_set ?_ GE445.out) | exact HB.out)) hb); clear BK445; clear HB; have BK445 := n0_; have HB := n1_; clear n0_ n1_; (try clear hb); (try clear hb2); (try clear hk); (try clear hi))))
  go_loopg [3] k (fun kq v3 w' => ∃ (x3_1 : Int), v3 = .int .i64 x3_1 ∧ Aside0 (cellarlaw2_AluLaws.l0 kq x3_1 l0_0 l0_1 l0_2 = some r) ∧ Aside0 (kq ≤ k) ∧ Aside0 (w'.heap[gb445]? = some (.cells #[(.slice A0_0 l0_0.length c0_0), (.slice A0_1 l0_1.length c0_1), (.slice A0_2 l0_2.length c0_2)] 26 (0, 0))) ∧ Aside0 (Below w.heap.size w w'))
  case atStart => exact ⟨(1), (by first | rfl | (simp; done) | (simp [*]; done)), H', ⟨Nat.le_refl _⟩, ⟨by (with_reducible repeat (first | refine blk_drewN ?_ _ | refine blk_drew ?_ | refine blk_alloc ?_ _)); exact BK445.out⟩, ⟨by repeat (first | (with_reducible first | exact HB.out | apply below_alloc | apply pw_below_drewN | apply below_drew1 | refine below_set ?_ GE445.out) | exact HB.out)⟩⟩
  case round => as_aux_lemma =>
   clear H'
   try clear c1
   try clear p2
   try clear c3
   try clear hcz5_0
   try clear hcz5_1
   try clear hcz5_2
   try clear hcz8_0
   try clear hcz8_1
   try clear hcz8_2
   try clear hfz5_0
   try clear hfz5_1
   try clear hfz5_2
   try clear hfz8_0
   try clear hfz8_1
   try clear hfz8_2
   obtain ⟨x3_1, rfl, HA, HK1, BK445, HB⟩ := hrel
   cases gk with
   | zero => exact absurd HA.out (by simp [cellarlaw2_AluLaws.l0])
   | succ k1 =>
    have H := HA.out
    clear HA
    simp only [cellarlaw2_AluLaws.l0] at H
    by_cases c10 : x3_1 ≤ 5
    ·rw [if_pos c10] at H
     have c10b0 : decide (x3_1 ≤ 5) = true := decide_eq_true c10
     clear c10
     replace H := Option.bind_eq_some_iff.mp H
     obtain ⟨t448, A110, H⟩ := H
     replace H : ((cellarlaw2_Numbers.f k1 l0_0 l0_1 l0_2 x3_1).bind fun t449 => (cellarlaw2_AluLaws.l1 k1 x3_1 t448 t449 0 l0_0 l0_1 l0_2)) = some r := H
     have A11 := Aside0.mk A110
     clear A110
     replace H := Option.bind_eq_some_iff.mp H
     obtain ⟨t449, A120, H⟩ := H
     replace H : (cellarlaw2_AluLaws.l1 k1 x3_1 t448 t449 0 l0_0 l0_1 l0_2) = some r := H
     have A12 := Aside0.mk A120
     clear A120
     have H' := Aside0.mk H
     clear H
     go_wp2_with (first | (go_at_call 30; (with_reducible refine (cellarref1_Width.calls k1 x3_1 t448 _ A11.out).mono ?_); rintro e w' ⟨rfl, ⟨nd, rfl⟩⟩; (try first | exact ⟨rfl, _, World.drewN_drewN _ _ _⟩ | exact ⟨rfl, _, Eq.trans (World.drewN_drewN _ _ _) (congrArg (World.drewN _) (Nat.add_assoc _ _ _))⟩); have hcz13_0 : wr.cell? ⟨gb445, 0, none⟩ = some (.slice A0_0 l0_0.length c0_0) := (blk_cell BK445.out 0).trans rfl; have hcz13_1 : wr.cell? ⟨gb445, 1, none⟩ = some (.slice A0_1 l0_1.length c0_1) := (blk_cell BK445.out 1).trans rfl; have hcz13_2 : wr.cell? ⟨gb445, 2, none⟩ = some (.slice A0_2 l0_2.length c0_2) := (blk_cell BK445.out 2).trans rfl; have hfz13_0 := blk_frozen BK445.out 0; have hfz13_1 := blk_frozen BK445.out 1; have hfz13_2 := blk_frozen BK445.out 2) | (go_at_call 41; (with_reducible refine (cellarlaw2_Numbers.calls k1 _ _ l0_0 _ _ l0_1 _ _ l0_2 x3_1 t449 _ ?side1 ?side2 ?side3 ?side4 ?side5 ?side6 A12.out).mono ?_); (case side1 => repeat (first | exact (Kd.C_below HR0_0.out (by repeat (first | (with_reducible first | exact HB.out | apply below_alloc | apply pw_below_drewN | apply below_drew1 | refine below_set ?_ GE445.out) | exact HB.out))) | (with_reducible refine Kd.C_alloc ?_ _) | (with_reducible refine Kd.C_drewN ?_ _) | (with_reducible refine Kd.C_drew ?_))); (case side2 => exact HC0_0.out); (case side3 => repeat (first | exact (Kd.C_below HR0_1.out (by repeat (first | (with_reducible first | exact HB.out | apply below_alloc | apply pw_below_drewN | apply below_drew1 | refine below_set ?_ GE445.out) | exact HB.out))) | (with_reducible refine Kd.C_alloc ?_ _) | (with_reducible refine Kd.C_drewN ?_ _) | (with_reducible refine Kd.C_drew ?_))); (case side4 => exact HC0_1.out); (case side5 => repeat (first | exact (Kd.C_below HR0_2.out (by repeat (first | (with_reducible first | exact HB.out | apply below_alloc | apply pw_below_drewN | apply below_drew1 | refine below_set ?_ GE445.out) | exact HB.out))) | (with_reducible refine Kd.C_alloc ?_ _) | (with_reducible refine Kd.C_drewN ?_ _) | (with_reducible refine Kd.C_drew ?_))); (case side6 => exact HC0_2.out); rintro e w14 ⟨v450, rfl, ho0, hb⟩; have n0_ := Aside0.mk (Kd.R_lower ho0 (below_size (by repeat (first | (with_reducible first | exact HB.out | apply below_alloc | apply pw_below_drewN | apply below_drew1 | refine below_set ?_ GE445.out) | exact HB.out)))); have n1_ := Aside0.mk (blk_below (g := gb445) (o := .cells #[.slice A0_0 l0_0.length c0_0, .slice A0_1 l0_1.length c0_1, .slice A0_2 l0_2.length c0_2] 26 (0, 0)) (by (with_reducible repeat (first | refine blk_drewN ?_ _ | refine blk_drew ?_ | refine blk_alloc ?_ _)); exact BK445.out) hb); have n2_ := Aside0.mk (below_step (by repeat (first | (with_reducible first | exact HB.out | apply below_alloc | apply pw_below_drewN | apply below_drew1 | refine below_set ?_ GE445.out) | exact HB.out)) hb); clear BK445; clear HB; have HO451 := n0_; have BK445 := n1_; have HB := n2_; clear n0_ n1_ n2_; (try clear hb); (try clear hb2); (try clear hk); (try clear hi); (try clear ho0)))
     repeat (go_quiet (first | (go_at_call 30; (with_reducible refine (cellarref1_Width.calls k1 x3_1 t448 _ A11.out).mono ?_); rintro e w' ⟨rfl, ⟨nd, rfl⟩⟩; (try first | exact ⟨rfl, _, World.drewN_drewN _ _ _⟩ | exact ⟨rfl, _, Eq.trans (World.drewN_drewN _ _ _) (congrArg (World.drewN _) (Nat.add_assoc _ _ _))⟩); have hcz13_0 : wr.cell? ⟨gb445, 0, none⟩ = some (.slice A0_0 l0_0.length c0_0) := (blk_cell BK445.out 0).trans rfl; have hcz13_1 : wr.cell? ⟨gb445, 1, none⟩ = some (.slice A0_1 l0_1.length c0_1) := (blk_cell BK445.out 1).trans rfl; have hcz13_2 : wr.cell? ⟨gb445, 2, none⟩ = some (.slice A0_2 l0_2.length c0_2) := (blk_cell BK445.out 2).trans rfl; have hfz13_0 := blk_frozen BK445.out 0; have hfz13_1 := blk_frozen BK445.out 1; have hfz13_2 := blk_frozen BK445.out 2) | (go_at_call 41; (with_reducible refine (cellarlaw2_Numbers.calls k1 _ _ l0_0 _ _ l0_1 _ _ l0_2 x3_1 t449 _ ?side1 ?side2 ?side3 ?side4 ?side5 ?side6 A12.out).mono ?_); (case side1 => repeat (first | exact (Kd.C_below HR0_0.out (by repeat (first | (with_reducible first | exact HB.out | apply below_alloc | apply pw_below_drewN | apply below_drew1 | refine below_set ?_ GE445.out) | exact HB.out))) | (with_reducible refine Kd.C_alloc ?_ _) | (with_reducible refine Kd.C_drewN ?_ _) | (with_reducible refine Kd.C_drew ?_))); (case side2 => exact HC0_0.out); (case side3 => repeat (first | exact (Kd.C_below HR0_1.out (by repeat (first | (with_reducible first | exact HB.out | apply below_alloc | apply pw_below_drewN | apply below_drew1 | refine below_set ?_ GE445.out) | exact HB.out))) | (with_reducible refine Kd.C_alloc ?_ _) | (with_reducible refine Kd.C_drewN ?_ _) | (with_reducible refine Kd.C_drew ?_))); (case side4 => exact HC0_1.out); (case side5 => repeat (first | exact (Kd.C_below HR0_2.out (by repeat (first | (with_reducible first | exact HB.out | apply below_alloc | apply pw_below_drewN | apply below_drew1 | refine below_set ?_ GE445.out) | exact HB.out))) | (with_reducible refine Kd.C_alloc ?_ _) | (with_reducible refine Kd.C_drewN ?_ _) | (with_reducible refine Kd.C_drew ?_))); (case side6 => exact HC0_2.out); rintro e w14 ⟨v450, rfl, ho0, hb⟩; have n0_ := Aside0.mk (Kd.R_lower ho0 (below_size (by repeat (first | (with_reducible first | exact HB.out | apply below_alloc | apply pw_below_drewN | apply below_drew1 | refine below_set ?_ GE445.out) | exact HB.out)))); have n1_ := Aside0.mk (blk_below (g := gb445) (o := .cells #[.slice A0_0 l0_0.length c0_0, .slice A0_1 l0_1.length c0_1, .slice A0_2 l0_2.length c0_2] 26 (0, 0)) (by (with_reducible repeat (first | refine blk_drewN ?_ _ | refine blk_drew ?_ | refine blk_alloc ?_ _)); exact BK445.out) hb); have n2_ := Aside0.mk (below_step (by repeat (first | (with_reducible first | exact HB.out | apply below_alloc | apply pw_below_drewN | apply below_drew1 | refine below_set ?_ GE445.out) | exact HB.out)) hb); clear BK445; clear HB; have HO451 := n0_; have BK445 := n1_; have HB := n2_; clear n0_ n1_ n2_; (try clear hb); (try clear hb2); (try clear hk); (try clear hi); (try clear ho0))); try go_wp2_with (first | (go_at_call 30; (with_reducible refine (cellarref1_Width.calls k1 x3_1 t448 _ A11.out).mono ?_); rintro e w' ⟨rfl, ⟨nd, rfl⟩⟩; (try first | exact ⟨rfl, _, World.drewN_drewN _ _ _⟩ | exact ⟨rfl, _, Eq.trans (World.drewN_drewN _ _ _) (congrArg (World.drewN _) (Nat.add_assoc _ _ _))⟩); have hcz13_0 : wr.cell? ⟨gb445, 0, none⟩ = some (.slice A0_0 l0_0.length c0_0) := (blk_cell BK445.out 0).trans rfl; have hcz13_1 : wr.cell? ⟨gb445, 1, none⟩ = some (.slice A0_1 l0_1.length c0_1) := (blk_cell BK445.out 1).trans rfl; have hcz13_2 : wr.cell? ⟨gb445, 2, none⟩ = some (.slice A0_2 l0_2.length c0_2) := (blk_cell BK445.out 2).trans rfl; have hfz13_0 := blk_frozen BK445.out 0; have hfz13_1 := blk_frozen BK445.out 1; have hfz13_2 := blk_frozen BK445.out 2) | (go_at_call 41; (with_reducible refine (cellarlaw2_Numbers.calls k1 _ _ l0_0 _ _ l0_1 _ _ l0_2 x3_1 t449 _ ?side1 ?side2 ?side3 ?side4 ?side5 ?side6 A12.out).mono ?_); (case side1 => repeat (first | exact (Kd.C_below HR0_0.out (by repeat (first | (with_reducible first | exact HB.out | apply below_alloc | apply pw_below_drewN | apply below_drew1 | refine below_set ?_ GE445.out) | exact HB.out))) | (with_reducible refine Kd.C_alloc ?_ _) | (with_reducible refine Kd.C_drewN ?_ _) | (with_reducible refine Kd.C_drew ?_))); (case side2 => exact HC0_0.out); (case side3 => repeat (first | exact (Kd.C_below HR0_1.out (by repeat (first | (with_reducible first | exact HB.out | apply below_alloc | apply pw_below_drewN | apply below_drew1 | refine below_set ?_ GE445.out) | exact HB.out))) | (with_reducible refine Kd.C_alloc ?_ _) | (with_reducible refine Kd.C_drewN ?_ _) | (with_reducible refine Kd.C_drew ?_))); (case side4 => exact HC0_1.out); (case side5 => repeat (first | exact (Kd.C_below HR0_2.out (by repeat (first | (with_reducible first | exact HB.out | apply below_alloc | apply pw_below_drewN | apply below_drew1 | refine below_set ?_ GE445.out) | exact HB.out))) | (with_reducible refine Kd.C_alloc ?_ _) | (with_reducible refine Kd.C_drewN ?_ _) | (with_reducible refine Kd.C_drew ?_))); (case side6 => exact HC0_2.out); rintro e w14 ⟨v450, rfl, ho0, hb⟩; have n0_ := Aside0.mk (Kd.R_lower ho0 (below_size (by repeat (first | (with_reducible first | exact HB.out | apply below_alloc | apply pw_below_drewN | apply below_drew1 | refine below_set ?_ GE445.out) | exact HB.out)))); have n1_ := Aside0.mk (blk_below (g := gb445) (o := .cells #[.slice A0_0 l0_0.length c0_0, .slice A0_1 l0_1.length c0_1, .slice A0_2 l0_2.length c0_2] 26 (0, 0)) (by (with_reducible repeat (first | refine blk_drewN ?_ _ | refine blk_drew ?_ | refine blk_alloc ?_ _)); exact BK445.out) hb); have n2_ := Aside0.mk (below_step (by repeat (first | (with_reducible first | exact HB.out | apply below_alloc | apply pw_below_drewN | apply below_drew1 | refine below_set ?_ GE445.out) | exact HB.out)) hb); clear BK445; clear HB; have HO451 := n0_; have BK445 := n1_; have HB := n2_; clear n0_ n1_ n2_; (try clear hb); (try clear hb2); (try clear hk); (try clear hi); (try clear ho0))))
     go_loopg [6] k1 (fun kq v6 w' => ∃ (x6_2 : Int), v6 = .int .i64 x6_2 ∧ Aside0 (cellarlaw2_AluLaws.l1 kq x3_1 t448 t449 x6_2 l0_0 l0_1 l0_2 = some r) ∧ Aside0 (kq ≤ k1) ∧ Aside0 (Kd.R (Kd.int .i64) 3 w' w.heap.size (fun _ => True) v450 t449) ∧ Aside0 (w'.heap[gb445]? = some (.cells #[(.slice A0_0 l0_0.length c0_0), (.slice A0_1 l0_1.length c0_1), (.slice A0_2 l0_2.length c0_2)] 26 (0, 0))) ∧ Aside0 (Below w.heap.size w w'))
     case atStart => exact ⟨(0), (by first | rfl | (simp; done) | (simp [*]; done)), H', ⟨Nat.le_refl _⟩, ⟨by (with_reducible repeat (first | apply Kd.R_alloc | apply Kd.R_drewN | apply Kd.R_drew)); exact HO451.out⟩, ⟨by (with_reducible repeat (first | refine blk_drewN ?_ _ | refine blk_drew ?_ | refine blk_alloc ?_ _)); exact BK445.out⟩, ⟨by repeat (first | (with_reducible first | exact HB.out | apply below_alloc | apply pw_below_drewN | apply below_drew1 | refine below_set ?_ GE445.out) | exact HB.out)⟩⟩
     case round => as_aux_lemma =>
      clear H'
      try clear c1
      try clear p2
      try clear c3
      try clear c10
      try clear c10b0
      try clear hcz13_0
      try clear hcz13_1
      try clear hcz13_2
      try clear hcz5_0
      try clear hcz5_1
      try clear hcz5_2
      try clear hcz8_0
      try clear hcz8_1
      try clear hcz8_2
      try clear hfz13_0
      try clear hfz13_1
      try clear hfz13_2
      try clear hfz5_0
      try clear hfz5_1
      try clear hfz5_2
      try clear hfz8_0
      try clear hfz8_1
      try clear hfz8_2
      try clear p2
      obtain ⟨x6_2, rfl, HA, HK2, HO_5, BK445, HB⟩ := hrel
      cases gk with
      | zero => exact absurd HA.out (by simp [cellarlaw2_AluLaws.l1])
      | succ k2 =>
       have H := HA.out
       clear HA
       simp only [cellarlaw2_AluLaws.l1] at H
       by_cases c15 : x6_2 < (t449.length : Int)
       ·rw [if_pos c15] at H
        have c15b0 : decide (x6_2 < (t449.length : Int)) = true := decide_eq_true c15
        clear c15
        have H' := Aside0.mk H
        clear H
        obtain ⟨Ao16, co16, eo16⟩ := Kd.R_slice HO_5.out
        subst eo16
        go_wp2
        repeat (go_quiet (fail); try go_wp2)
        go_loopg [7] k2 (fun kq v7 w' => ∃ (x7_3 : Int), v7 = .int .i64 x7_3 ∧ Aside0 (cellarlaw2_AluLaws.l2 kq x3_1 t448 t449 x6_2 x7_3 l0_0 l0_1 l0_2 = some r) ∧ Aside0 (kq ≤ k2) ∧ Aside0 (Kd.R (Kd.int .i64) 3 w' w.heap.size (fun _ => True) (.slice Ao16 t449.length co16) t449) ∧ Aside0 (w'.heap[gb445]? = some (.cells #[(.slice A0_0 l0_0.length c0_0), (.slice A0_1 l0_1.length c0_1), (.slice A0_2 l0_2.length c0_2)] 26 (0, 0))) ∧ Aside0 (Below w.heap.size w w'))
        case atStart => exact ⟨(0), (by first | rfl | (simp; done) | (simp [*]; done)), H', ⟨Nat.le_refl _⟩, ⟨by (with_reducible repeat (first | apply Kd.R_alloc | apply Kd.R_drewN | apply Kd.R_drew)); exact HO_5.out⟩, ⟨by (with_reducible repeat (first | refine blk_drewN ?_ _ | refine blk_drew ?_ | refine blk_alloc ?_ _)); exact BK445.out⟩, ⟨by repeat (first | (with_reducible first | exact HB.out | apply below_alloc | apply pw_below_drewN | apply below_drew1 | refine below_set ?_ GE445.out) | exact HB.out)⟩⟩
        case round => as_aux_lemma =>
         clear H'
         try clear c1
         try clear p2
         try clear c3
         try clear c10
         try clear c10b0
         try clear c15
         try clear c15b0
         try clear hcz13_0
         try clear hcz13_1
         try clear hcz13_2
         try clear hcz5_0
         try clear hcz5_1
         try clear hcz5_2
         try clear hcz8_0
         try clear hcz8_1
         try clear hcz8_2
         try clear hfz13_0
         try clear hfz13_1
         try clear hfz13_2
         try clear hfz5_0
         try clear hfz5_1
         try clear hfz5_2
         try clear hfz8_0
         try clear hfz8_1
         try clear hfz8_2
         try clear p2
         obtain ⟨x7_3, rfl, HA, HK3, HO_5, BK445, HB⟩ := hrel
         cases gk with
         | zero => exact absurd HA.out (by simp [cellarlaw2_AluLaws.l2])
         | succ k3 =>
          have H := HA.out
          clear HA
          simp only [cellarlaw2_AluLaws.l2] at H
          by_cases c17 : x7_3 < (t449.length : Int)
          ·rw [if_pos c17] at H
           have c17b0 : decide (x7_3 < (t449.length : Int)) = true := decide_eq_true c17
           clear c17
           by_cases c18 : 0 ≤ x6_2
           ·rw [if_pos c18] at H
            have c18b0 : decide (0 ≤ x6_2) = true := decide_eq_true c18
            clear c18
            by_cases c19 : x6_2 < (t449.length : Int)
            ·rw [if_pos c19] at H
             have c19b0 : decide (x6_2 < (t449.length : Int)) = true := decide_eq_true c19
             clear c19
             by_cases c20 : 0 ≤ x7_3
             ·rw [if_pos c20] at H
              have c20b0 : decide (0 ≤ x7_3) = true := decide_eq_true c20
              clear c20
              have HC21 := Aside0.mk H
              clear H
              have p452 : 0 ≤ (x6_2 : Int) := of_decide_eq_true (by first | (with_reducible assumption) | assumption)
              have q452 : x6_2 < (t449.length : Int) := of_decide_eq_true (by first | (with_reducible assumption) | assumption)
              obtain ⟨ad452, e452, hx452_0⟩ := Kd.at_int (Kd.R_reads' HO_5.out).2.2 x6_2 p452 q452
              cases e452
              replace p452 := eq_true p452
              replace q452 := eq_true q452
              have p453 : 0 ≤ (x7_3 : Int) := of_decide_eq_true (by first | (with_reducible assumption) | assumption)
              have q453 : x7_3 < (t449.length : Int) := of_decide_eq_true (by first | (with_reducible assumption) | assumption)
              obtain ⟨ad453, e453, hx453_0⟩ := Kd.at_int (Kd.R_reads' HO_5.out).2.2 x7_3 p453 q453
              obtain rfl : ad452 = ad453 := (by injection e453)
              replace p453 := eq_true p453
              replace q453 := eq_true q453
              go_upto_region 15 with (fail)
              repeat (go_quiet (fail); go_upto_region 15 with (fail))
              go_cut [74] (fun v74 wc => ∃ (kq : Nat) (x74_20 : Bool), v74 = .bool x74_20 ∧ Aside0 (cellarlaw2_AluLaws.j3 kq x3_1 t448 t449 x6_2 x7_3 (rd t449 x6_2) (rd t449 x7_3) x74_20 l0_0 l0_1 l0_2 = some r) ∧ Aside0 (kq ≤ k3) ∧ Aside0 (Kd.R (Kd.int .i64) 3 wc w.heap.size (fun _ => True) (.slice (some ad452) t449.length co16) t449) ∧ Aside0 (wc.heap[gb445]? = some (.cells #[(.slice A0_0 l0_0.length c0_0), (.slice A0_1 l0_1.length c0_1), (.slice A0_2 l0_2.length c0_2)] 26 (0, 0))) ∧ Aside0 (Below w.heap.size w wc))
              case first => as_aux_lemma =>
               have H := HC21.out
               clear HC21
               replace H := Option.bind_eq_some_iff.mp H
               obtain ⟨t454, A220, H⟩ := H
               replace H : (if t454 = true then ((cellarref1_Number.f (rd t449 x7_3) t448).bind fun t455 => (cellarlaw2_AluLaws.j3 k3 x3_1 t448 t449 x6_2 x7_3 (rd t449 x6_2) (rd t449 x7_3) (!t455) l0_0 l0_1 l0_2)) else (cellarlaw2_AluLaws.j3 k3 x3_1 t448 t449 x6_2 x7_3 (rd t449 x6_2) (rd t449 x7_3) true l0_0 l0_1 l0_2)) = some r := H
               have A22 := Aside0.mk A220
               clear A220
               by_cases c23 : t454 = true
               ·subst c23
                have H1 : ((cellarref1_Number.f (rd t449 x7_3) t448).bind fun t455 => (cellarlaw2_AluLaws.j3 k3 x3_1 t448 t449 x6_2 x7_3 (rd t449 x6_2) (rd t449 x7_3) (!t455) l0_0 l0_1 l0_2)) = some r := by rw [if_pos rfl] at H; exact H
                clear H
                have H := H1
                clear H1
                replace H := Option.bind_eq_some_iff.mp H
                obtain ⟨t455, A240, H⟩ := H
                replace H : (cellarlaw2_AluLaws.j3 k3 x3_1 t448 t449 x6_2 x7_3 (rd t449 x6_2) (rd t449 x7_3) (!t455) l0_0 l0_1 l0_2) = some r := H
                have A24 := Aside0.mk A240
                clear A240
                have H' := Aside0.mk H
                clear H
                go_wp2_with (first | (go_at_call 38; (with_reducible refine (cellarref1_Number.calls (rd t449 x6_2) t448 true _ A22.out).mono ?_); rintro e w' ⟨rfl, ⟨nd, rfl⟩⟩; (try first | exact ⟨rfl, _, World.drewN_drewN _ _ _⟩ | exact ⟨rfl, _, Eq.trans (World.drewN_drewN _ _ _) (congrArg (World.drewN _) (Nat.add_assoc _ _ _))⟩)) | (go_at_call 38; (with_reducible refine (cellarref1_Number.calls (rd t449 x7_3) t448 t455 _ A24.out).mono ?_); rintro e w' ⟨rfl, ⟨nd, rfl⟩⟩; (try first | exact ⟨rfl, _, World.drewN_drewN _ _ _⟩ | exact ⟨rfl, _, Eq.trans (World.drewN_drewN _ _ _) (congrArg (World.drewN _) (Nat.add_assoc _ _ _))⟩)))
                repeat (go_quiet (first | (go_at_call 38; (with_reducible refine (cellarref1_Number.calls (rd t449 x6_2) t448 true _ A22.out).mono ?_); rintro e w' ⟨rfl, ⟨nd, rfl⟩⟩; (try first | exact ⟨rfl, _, World.drewN_drewN _ _ _⟩ | exact ⟨rfl, _, Eq.trans (World.drewN_drewN _ _ _) (congrArg (World.drewN _) (Nat.add_assoc _ _ _))⟩)) | (go_at_call 38; (with_reducible refine (cellarref1_Number.calls (rd t449 x7_3) t448 t455 _ A24.out).mono ?_); rintro e w' ⟨rfl, ⟨nd, rfl⟩⟩; (try first | exact ⟨rfl, _, World.drewN_drewN _ _ _⟩ | exact ⟨rfl, _, Eq.trans (World.drewN_drewN _ _ _) (congrArg (World.drewN _) (Nat.add_assoc _ _ _))⟩))); try go_wp2_with (first | (go_at_call 38; (with_reducible refine (cellarref1_Number.calls (rd t449 x6_2) t448 true _ A22.out).mono ?_); rintro e w' ⟨rfl, ⟨nd, rfl⟩⟩; (try first | exact ⟨rfl, _, World.drewN_drewN _ _ _⟩ | exact ⟨rfl, _, Eq.trans (World.drewN_drewN _ _ _) (congrArg (World.drewN _) (Nat.add_assoc _ _ _))⟩)) | (go_at_call 38; (with_reducible refine (cellarref1_Number.calls (rd t449 x7_3) t448 t455 _ A24.out).mono ?_); rintro e w' ⟨rfl, ⟨nd, rfl⟩⟩; (try first | exact ⟨rfl, _, World.drewN_drewN _ _ _⟩ | exact ⟨rfl, _, Eq.trans (World.drewN_drewN _ _ _) (congrArg (World.drewN _) (Nat.add_assoc _ _ _))⟩))))
                go_meet
                case rel => exact ⟨_, (!t455), (by first | rfl | (simp; done) | (simp [*]; done)), H', ⟨by have := HK1.out; have := HK2.out; have := HK3.out; first | omega | exact Nat.le_refl _⟩, ⟨by (with_reducible repeat (first | apply Kd.R_alloc | apply Kd.R_drewN | apply Kd.R_drew)); exact HO_5.out⟩, ⟨by (with_reducible repeat (first | refine blk_drewN ?_ _ | refine blk_drew ?_ | refine blk_alloc ?_ _)); exact BK445.out⟩, ⟨by repeat (first | (with_reducible first | exact HB.out | apply below_alloc | apply pw_below_drewN | apply below_drew1 | refine below_set ?_ GE445.out) | exact HB.out)⟩⟩
               ·replace c23 := Bool.eq_false_iff.mpr c23
                subst c23
                have H1 : (cellarlaw2_AluLaws.j3 k3 x3_1 t448 t449 x6_2 x7_3 (rd t449 x6_2) (rd t449 x7_3) true l0_0 l0_1 l0_2) = some r := by rw [if_neg (show ¬ (false = true) by decide)] at H; exact H
                clear H
                have H := H1
                clear H1
                have H' := Aside0.mk H
                clear H
                go_wp2_with (first | (go_at_call 38; (with_reducible refine (cellarref1_Number.calls (rd t449 x6_2) t448 false _ A22.out).mono ?_); rintro e w' ⟨rfl, ⟨nd, rfl⟩⟩; (try first | exact ⟨rfl, _, World.drewN_drewN _ _ _⟩ | exact ⟨rfl, _, Eq.trans (World.drewN_drewN _ _ _) (congrArg (World.drewN _) (Nat.add_assoc _ _ _))⟩)))
                repeat (go_quiet (first | (go_at_call 38; (with_reducible refine (cellarref1_Number.calls (rd t449 x6_2) t448 false _ A22.out).mono ?_); rintro e w' ⟨rfl, ⟨nd, rfl⟩⟩; (try first | exact ⟨rfl, _, World.drewN_drewN _ _ _⟩ | exact ⟨rfl, _, Eq.trans (World.drewN_drewN _ _ _) (congrArg (World.drewN _) (Nat.add_assoc _ _ _))⟩))); try go_wp2_with (first | (go_at_call 38; (with_reducible refine (cellarref1_Number.calls (rd t449 x6_2) t448 false _ A22.out).mono ?_); rintro e w' ⟨rfl, ⟨nd, rfl⟩⟩; (try first | exact ⟨rfl, _, World.drewN_drewN _ _ _⟩ | exact ⟨rfl, _, Eq.trans (World.drewN_drewN _ _ _) (congrArg (World.drewN _) (Nat.add_assoc _ _ _))⟩))))
                go_meet
                case rel => exact ⟨_, (true), (by first | rfl | (simp; done) | (simp [*]; done)), H', ⟨by have := HK1.out; have := HK2.out; have := HK3.out; first | omega | exact Nat.le_refl _⟩, ⟨by (with_reducible repeat (first | apply Kd.R_alloc | apply Kd.R_drewN | apply Kd.R_drew)); exact HO_5.out⟩, ⟨by (with_reducible repeat (first | refine blk_drewN ?_ _ | refine blk_drew ?_ | refine blk_alloc ?_ _)); exact BK445.out⟩, ⟨by repeat (first | (with_reducible first | exact HB.out | apply below_alloc | apply pw_below_drewN | apply below_drew1 | refine below_set ?_ GE445.out) | exact HB.out)⟩⟩
              case rest => as_aux_lemma =>
               clear HC21
               try clear c1
               try clear c2
               try clear p2
               try clear c3
               try clear p4
               try clear q4
               try clear hx4
               try clear c10
               try clear c10b0
               try clear c15
               try clear c15b0
               try clear c17
               try clear c17b0
               try clear c18
               try clear c18b0
               try clear c19
               try clear c19b0
               try clear c20
               try clear c20b0
               try clear c23
               try clear hcz13_0
               try clear hcz13_1
               try clear hcz13_2
               try clear hcz5_0
               try clear hcz5_1
               try clear hcz5_2
               try clear hcz8_0
               try clear hcz8_1
               try clear hcz8_2
               try clear hfz13_0
               try clear hfz13_1
               try clear hfz13_2
               try clear hfz5_0
               try clear hfz5_1
               try clear hfz5_2
               try clear hfz8_0
               try clear hfz8_1
               try clear hfz8_2
               try clear hx452_0
               try clear hx453_0
               try clear p2
               try clear p452
               try clear p453
               try clear q452
               try clear q453
               obtain ⟨kq, x74_20, rfl, HA, HJ20, HO_5, BK445, HB⟩ := hcut
               cases kq with
               | zero => exact absurd HA.out (by simp [cellarlaw2_AluLaws.j3])
               | succ kj20 =>
                have H := HA.out
                clear HA
                simp only [cellarlaw2_AluLaws.j3] at H
                by_cases c25 : x74_20 = true
                ·subst c25
                 have H1 : (cellarlaw2_AluLaws.l2 kj20 x3_1 t448 t449 x6_2 (wrap64 (x7_3 + 1)) l0_0 l0_1 l0_2) = some r := by rw [if_pos rfl] at H; exact H
                 clear H
                 have H := H1
                 clear H1
                 have H' := Aside0.mk H
                 clear H
                 go_wp2
                 repeat (go_quiet (fail); try go_wp2)
                 go_roundg kj20
                 case measure => have := HK1.out; have := HK2.out; have := HK3.out; have := HJ20.out; omega
                 case rel => exact ⟨(wrap64 (x7_3 + 1)), (by first | rfl | (simp; done) | (simp [*]; done)), H', ⟨by have := HK1.out; have := HK2.out; have := HK3.out; have := HJ20.out; omega⟩, ⟨by (with_reducible repeat (first | apply Kd.R_alloc | apply Kd.R_drewN | apply Kd.R_drew)); exact HO_5.out⟩, ⟨by (with_reducible repeat (first | refine blk_drewN ?_ _ | refine blk_drew ?_ | refine blk_alloc ?_ _)); exact BK445.out⟩, ⟨by repeat (first | (with_reducible first | exact HB.out | apply below_alloc | apply pw_below_drewN | apply below_drew1 | refine below_set ?_ GE445.out) | exact HB.out)⟩⟩
                ·replace c25 := Bool.eq_false_iff.mpr c25
                 subst c25
                 have H1 : ((alu_Two.f kj20 8 x3_1 (rd t449 x6_2) (rd t449 x7_3)).bind fun bt456 => ((alu_Two.f kj20 9 x3_1 bt456.1 (rd t449 x7_3)).bind fun bt459 => ((alu_Two.f kj20 10 x3_1 (rd t449 x6_2) (rd t449 x7_3)).bind fun bt462 => ((alu_Two.f kj20 10 x3_1 (rd t449 x7_3) (rd t449 x6_2)).bind fun bt465 => ((alu_One.f kj20 6 x3_1 (rd t449 x6_2)).bind fun bt468 => ((alu_One.f kj20 6 x3_1 bt468.1).bind fun bt471 => ((cellarlaw2_num.f bt456.2.2).bind fun t474 => ((cellarlaw2_num.f bt459.2.2).bind fun t475 => ((cellarlaw2_num.f bt462.2.2).bind fun t476 => ((cellarlaw2_num.f bt465.2.2).bind fun t477 => ((cellarlaw2_num.f bt468.2.2).bind fun t478 => ((cellarlaw2_num.f bt471.2.2).bind fun t479 => (if (wrap64 ((wrap64 ((wrap64 ((wrap64 ((wrap64 (t474 + t475)) + t476)) + t477)) + t478)) + t479)) = 0 then (if (wrap64 ((wrap64 ((wrap64 ((wrap64 ((wrap64 (bt456.2.1 + bt459.2.1)) + bt462.2.1)) + bt465.2.1)) + bt468.2.1)) + bt471.2.1)) = 0 then (if bt459.1 = (rd t449 x6_2) then (if bt462.1 = bt465.1 then (cellarlaw2_AluLaws.j4 kj20 x3_1 t448 t449 x6_2 x7_3 (rd t449 x6_2) (rd t449 x7_3) (bt471.1 != (rd t449 x6_2)) l0_0 l0_1 l0_2) else (cellarlaw2_AluLaws.j4 kj20 x3_1 t448 t449 x6_2 x7_3 (rd t449 x6_2) (rd t449 x7_3) true l0_0 l0_1 l0_2)) else (cellarlaw2_AluLaws.j4 kj20 x3_1 t448 t449 x6_2 x7_3 (rd t449 x6_2) (rd t449 x7_3) true l0_0 l0_1 l0_2)) else (cellarlaw2_AluLaws.j4 kj20 x3_1 t448 t449 x6_2 x7_3 (rd t449 x6_2) (rd t449 x7_3) true l0_0 l0_1 l0_2)) else (cellarlaw2_AluLaws.j4 kj20 x3_1 t448 t449 x6_2 x7_3 (rd t449 x6_2) (rd t449 x7_3) true l0_0 l0_1 l0_2)))))))))))))) = some r := by rw [if_neg (show ¬ (false = true) by decide)] at H; exact H
                 clear H
                 have H := H1
                 clear H1
                 replace H := Option.bind_eq_some_iff.mp H
                 obtain ⟨⟨t456, t457, t458⟩, A260, H⟩ := H
                 replace H : ((alu_Two.f kj20 9 x3_1 t456 (rd t449 x7_3)).bind fun bt459 => ((alu_Two.f kj20 10 x3_1 (rd t449 x6_2) (rd t449 x7_3)).bind fun bt462 => ((alu_Two.f kj20 10 x3_1 (rd t449 x7_3) (rd t449 x6_2)).bind fun bt465 => ((alu_One.f kj20 6 x3_1 (rd t449 x6_2)).bind fun bt468 => ((alu_One.f kj20 6 x3_1 bt468.1).bind fun bt471 => ((cellarlaw2_num.f t458).bind fun t474 => ((cellarlaw2_num.f bt459.2.2).bind fun t475 => ((cellarlaw2_num.f bt462.2.2).bind fun t476 => ((cellarlaw2_num.f bt465.2.2).bind fun t477 => ((cellarlaw2_num.f bt468.2.2).bind fun t478 => ((cellarlaw2_num.f bt471.2.2).bind fun t479 => (if (wrap64 ((wrap64 ((wrap64 ((wrap64 ((wrap64 (t474 + t475)) + t476)) + t477)) + t478)) + t479)) = 0 then (if (wrap64 ((wrap64 ((wrap64 ((wrap64 ((wrap64 (t457 + bt459.2.1)) + bt462.2.1)) + bt465.2.1)) + bt468.2.1)) + bt471.2.1)) = 0 then (if bt459.1 = (rd t449 x6_2) then (if bt462.1 = bt465.1 then (cellarlaw2_AluLaws.j4 kj20 x3_1 t448 t449 x6_2 x7_3 (rd t449 x6_2) (rd t449 x7_3) (bt471.1 != (rd t449 x6_2)) l0_0 l0_1 l0_2) else (cellarlaw2_AluLaws.j4 kj20 x3_1 t448 t449 x6_2 x7_3 (rd t449 x6_2) (rd t449 x7_3) true l0_0 l0_1 l0_2)) else (cellarlaw2_AluLaws.j4 kj20 x3_1 t448 t449 x6_2 x7_3 (rd t449 x6_2) (rd t449 x7_3) true l0_0 l0_1 l0_2)) else (cellarlaw2_AluLaws.j4 kj20 x3_1 t448 t449 x6_2 x7_3 (rd t449 x6_2) (rd t449 x7_3) true l0_0 l0_1 l0_2)) else (cellarlaw2_AluLaws.j4 kj20 x3_1 t448 t449 x6_2 x7_3 (rd t449 x6_2) (rd t449 x7_3) true l0_0 l0_1 l0_2))))))))))))) = some r := H
                 have A26 := Aside0.mk A260
                 clear A260
                 replace H := Option.bind_eq_some_iff.mp H
                 obtain ⟨⟨t459, t460, t461⟩, A270, H⟩ := H
                 replace H : ((alu_Two.f kj20 10 x3_1 (rd t449 x6_2) (rd t449 x7_3)).bind fun bt462 => ((alu_Two.f kj20 10 x3_1 (rd t449 x7_3) (rd t449 x6_2)).bind fun bt465 => ((alu_One.f kj20 6 x3_1 (rd t449 x6_2)).bind fun bt468 => ((alu_One.f kj20 6 x3_1 bt468.1).bind fun bt471 => ((cellarlaw2_num.f t458).bind fun t474 => ((cellarlaw2_num.f t461).bind fun t475 => ((cellarlaw2_num.f bt462.2.2).bind fun t476 => ((cellarlaw2_num.f bt465.2.2).bind fun t477 => ((cellarlaw2_num.f bt468.2.2).bind fun t478 => ((cellarlaw2_num.f bt471.2.2).bind fun t479 => (if (wrap64 ((wrap64 ((wrap64 ((wrap64 ((wrap64 (t474 + t475)) + t476)) + t477)) + t478)) + t479)) = 0 then (if (wrap64 ((wrap64 ((wrap64 ((wrap64 ((wrap64 (t457 + t460)) + bt462.2.1)) + bt465.2.1)) + bt468.2.1)) + bt471.2.1)) = 0 then (if t459 = (rd t449 x6_2) then (if bt462.1 = bt465.1 then (cellarlaw2_AluLaws.j4 kj20 x3_1 t448 t449 x6_2 x7_3 (rd t449 x6_2) (rd t449 x7_3) (bt471.1 != (rd t449 x6_2)) l0_0 l0_1 l0_2) else (cellarlaw2_AluLaws.j4 kj20 x3_1 t448 t449 x6_2 x7_3 (rd t449 x6_2) (rd t449 x7_3) true l0_0 l0_1 l0_2)) else (cellarlaw2_AluLaws.j4 kj20 x3_1 t448 t449 x6_2 x7_3 (rd t449 x6_2) (rd t449 x7_3) true l0_0 l0_1 l0_2)) else (cellarlaw2_AluLaws.j4 kj20 x3_1 t448 t449 x6_2 x7_3 (rd t449 x6_2) (rd t449 x7_3) true l0_0 l0_1 l0_2)) else (cellarlaw2_AluLaws.j4 kj20 x3_1 t448 t449 x6_2 x7_3 (rd t449 x6_2) (rd t449 x7_3) true l0_0 l0_1 l0_2)))))))))))) = some r := H
                 have A27 := Aside0.mk A270
                 clear A270
                 replace H := Option.bind_eq_some_iff.mp H
                 obtain ⟨⟨t462, t463, t464⟩, A280, H⟩ := H
                 replace H : ((alu_Two.f kj20 10 x3_1 (rd t449 x7_3) (rd t449 x6_2)).bind fun bt465 => ((alu_One.f kj20 6 x3_1 (rd t449 x6_2)).bind fun bt468 => ((alu_One.f kj20 6 x3_1 bt468.1).bind fun bt471 => ((cellarlaw2_num.f t458).bind fun t474 => ((cellarlaw2_num.f t461).bind fun t475 => ((cellarlaw2_num.f t464).bind fun t476 => ((cellarlaw2_num.f bt465.2.2).bind fun t477 => ((cellarlaw2_num.f bt468.2.2).bind fun t478 => ((cellarlaw2_num.f bt471.2.2).bind fun t479 => (if (wrap64 ((wrap64 ((wrap64 ((wrap64 ((wrap64 (t474 + t475)) + t476)) + t477)) + t478)) + t479)) = 0 then (if (wrap64 ((wrap64 ((wrap64 ((wrap64 ((wrap64 (t457 + t460)) + t463)) + bt465.2.1)) + bt468.2.1)) + bt471.2.1)) = 0 then (if t459 = (rd t449 x6_2) then (if t462 = bt465.1 then (cellarlaw2_AluLaws.j4 kj20 x3_1 t448 t449 x6_2 x7_3 (rd t449 x6_2) (rd t449 x7_3) (bt471.1 != (rd t449 x6_2)) l0_0 l0_1 l0_2) else (cellarlaw2_AluLaws.j4 kj20 x3_1 t448 t449 x6_2 x7_3 (rd t449 x6_2) (rd t449 x7_3) true l0_0 l0_1 l0_2)) else (cellarlaw2_AluLaws.j4 kj20 x3_1 t448 t449 x6_2 x7_3 (rd t449 x6_2) (rd t449 x7_3) true l0_0 l0_1 l0_2)) else (cellarlaw2_AluLaws.j4 kj20 x3_1 t448 t449 x6_2 x7_3 (rd t449 x6_2) (rd t449 x7_3) true l0_0 l0_1 l0_2)) else (cellarlaw2_AluLaws.j4 kj20 x3_1 t448 t449 x6_2 x7_3 (rd t449 x6_2) (rd t449 x7_3) true l0_0 l0_1 l0_2))))))))))) = some r := H
                 have A28 := Aside0.mk A280
                 clear A280
                 replace H := Option.bind_eq_some_iff.mp H
                 obtain ⟨⟨t465, t466, t467⟩, A290, H⟩ := H
                 replace H : ((alu_One.f kj20 6 x3_1 (rd t449 x6_2)).bind fun bt468 => ((alu_One.f kj20 6 x3_1 bt468.1).bind fun bt471 => ((cellarlaw2_num.f t458).bind fun t474 => ((cellarlaw2_num.f t461).bind fun t475 => ((cellarlaw2_num.f t464).bind fun t476 => ((cellarlaw2_num.f t467).bind fun t477 => ((cellarlaw2_num.f bt468.2.2).bind fun t478 => ((cellarlaw2_num.f bt471.2.2).bind fun t479 => (if (wrap64 ((wrap64 ((wrap64 ((wrap64 ((wrap64 (t474 + t475)) + t476)) + t477)) + t478)) + t479)) = 0 then (if (wrap64 ((wrap64 ((wrap64 ((wrap64 ((wrap64 (t457 + t460)) + t463)) + t466)) + bt468.2.1)) + bt471.2.1)) = 0 then (if t459 = (rd t449 x6_2) then (if t462 = t465 then (cellarlaw2_AluLaws.j4 kj20 x3_1 t448 t449 x6_2 x7_3 (rd t449 x6_2) (rd t449 x7_3) (bt471.1 != (rd t449 x6_2)) l0_0 l0_1 l0_2) else (cellarlaw2_AluLaws.j4 kj20 x3_1 t448 t449 x6_2 x7_3 (rd t449 x6_2) (rd t449 x7_3) true l0_0 l0_1 l0_2)) else (cellarlaw2_AluLaws.j4 kj20 x3_1 t448 t449 x6_2 x7_3 (rd t449 x6_2) (rd t449 x7_3) true l0_0 l0_1 l0_2)) else (cellarlaw2_AluLaws.j4 kj20 x3_1 t448 t449 x6_2 x7_3 (rd t449 x6_2) (rd t449 x7_3) true l0_0 l0_1 l0_2)) else (cellarlaw2_AluLaws.j4 kj20 x3_1 t448 t449 x6_2 x7_3 (rd t449 x6_2) (rd t449 x7_3) true l0_0 l0_1 l0_2)))))))))) = some r := H
                 have A29 := Aside0.mk A290
                 clear A290
                 replace H := Option.bind_eq_some_iff.mp H
                 obtain ⟨⟨t468, t469, t470⟩, A300, H⟩ := H
                 replace H : ((alu_One.f kj20 6 x3_1 t468).bind fun bt471 => ((cellarlaw2_num.f t458).bind fun t474 => ((cellarlaw2_num.f t461).bind fun t475 => ((cellarlaw2_num.f t464).bind fun t476 => ((cellarlaw2_num.f t467).bind fun t477 => ((cellarlaw2_num.f t470).bind fun t478 => ((cellarlaw2_num.f bt471.2.2).bind fun t479 => (if (wrap64 ((wrap64 ((wrap64 ((wrap64 ((wrap64 (t474 + t475)) + t476)) + t477)) + t478)) + t479)) = 0 then (if (wrap64 ((wrap64 ((wrap64 ((wrap64 ((wrap64 (t457 + t460)) + t463)) + t466)) + t469)) + bt471.2.1)) = 0 then (if t459 = (rd t449 x6_2) then (if t462 = t465 then (cellarlaw2_AluLaws.j4 kj20 x3_1 t448 t449 x6_2 x7_3 (rd t449 x6_2) (rd t449 x7_3) (bt471.1 != (rd t449 x6_2)) l0_0 l0_1 l0_2) else (cellarlaw2_AluLaws.j4 kj20 x3_1 t448 t449 x6_2 x7_3 (rd t449 x6_2) (rd t449 x7_3) true l0_0 l0_1 l0_2)) else (cellarlaw2_AluLaws.j4 kj20 x3_1 t448 t449 x6_2 x7_3 (rd t449 x6_2) (rd t449 x7_3) true l0_0 l0_1 l0_2)) else (cellarlaw2_AluLaws.j4 kj20 x3_1 t448 t449 x6_2 x7_3 (rd t449 x6_2) (rd t449 x7_3) true l0_0 l0_1 l0_2)) else (cellarlaw2_AluLaws.j4 kj20 x3_1 t448 t449 x6_2 x7_3 (rd t449 x6_2) (rd t449 x7_3) true l0_0 l0_1 l0_2))))))))) = some r := H
                 have A30 := Aside0.mk A300
                 clear A300
                 replace H := Option.bind_eq_some_iff.mp H
                 obtain ⟨⟨t471, t472, t473⟩, A310, H⟩ := H
                 replace H : ((cellarlaw2_num.f t458).bind fun t474 => ((cellarlaw2_num.f t461).bind fun t475 => ((cellarlaw2_num.f t464).bind fun t476 => ((cellarlaw2_num.f t467).bind fun t477 => ((cellarlaw2_num.f t470).bind fun t478 => ((cellarlaw2_num.f t473).bind fun t479 => (if (wrap64 ((wrap64 ((wrap64 ((wrap64 ((wrap64 (t474 + t475)) + t476)) + t477)) + t478)) + t479)) = 0 then (if (wrap64 ((wrap64 ((wrap64 ((wrap64 ((wrap64 (t457 + t460)) + t463)) + t466)) + t469)) + t472)) = 0 then (if t459 = (rd t449 x6_2) then (if t462 = t465 then (cellarlaw2_AluLaws.j4 kj20 x3_1 t448 t449 x6_2 x7_3 (rd t449 x6_2) (rd t449 x7_3) (t471 != (rd t449 x6_2)) l0_0 l0_1 l0_2) else (cellarlaw2_AluLaws.j4 kj20 x3_1 t448 t449 x6_2 x7_3 (rd t449 x6_2) (rd t449 x7_3) true l0_0 l0_1 l0_2)) else (cellarlaw2_AluLaws.j4 kj20 x3_1 t448 t449 x6_2 x7_3 (rd t449 x6_2) (rd t449 x7_3) true l0_0 l0_1 l0_2)) else (cellarlaw2_AluLaws.j4 kj20 x3_1 t448 t449 x6_2 x7_3 (rd t449 x6_2) (rd t449 x7_3) true l0_0 l0_1 l0_2)) else (cellarlaw2_AluLaws.j4 kj20 x3_1 t448 t449 x6_2 x7_3 (rd t449 x6_2) (rd t449 x7_3) true l0_0 l0_1 l0_2)))))))) = some r := H
                 have A31 := Aside0.mk A310
                 clear A310
                 have HC32 := Aside0.mk H
                 clear H
                 go_upto_region 22 with (first | (go_at_call 47; (with_reducible refine (alu_Two.calls kj20 8 x3_1 (rd t449 x6_2) (rd t449 x7_3) t456 t457 t458 _ A26.out).mono ?_); rintro e w' ⟨rfl, ⟨nd, rfl⟩⟩; (try first | exact ⟨rfl, _, World.drewN_drewN _ _ _⟩ | exact ⟨rfl, _, Eq.trans (World.drewN_drewN _ _ _) (congrArg (World.drewN _) (Nat.add_assoc _ _ _))⟩)) | (go_at_call 47; (with_reducible refine (alu_Two.calls kj20 9 x3_1 t456 (rd t449 x7_3) t459 t460 t461 _ A27.out).mono ?_); rintro e w' ⟨rfl, ⟨nd, rfl⟩⟩; (try first | exact ⟨rfl, _, World.drewN_drewN _ _ _⟩ | exact ⟨rfl, _, Eq.trans (World.drewN_drewN _ _ _) (congrArg (World.drewN _) (Nat.add_assoc _ _ _))⟩)) | (go_at_call 47; (with_reducible refine (alu_Two.calls kj20 10 x3_1 (rd t449 x6_2) (rd t449 x7_3) t462 t463 t464 _ A28.out).mono ?_); rintro e w' ⟨rfl, ⟨nd, rfl⟩⟩; (try first | exact ⟨rfl, _, World.drewN_drewN _ _ _⟩ | exact ⟨rfl, _, Eq.trans (World.drewN_drewN _ _ _) (congrArg (World.drewN _) (Nat.add_assoc _ _ _))⟩)) | (go_at_call 47; (with_reducible refine (alu_Two.calls kj20 10 x3_1 (rd t449 x7_3) (rd t449 x6_2) t465 t466 t467 _ A29.out).mono ?_); rintro e w' ⟨rfl, ⟨nd, rfl⟩⟩; (try first | exact ⟨rfl, _, World.drewN_drewN _ _ _⟩ | exact ⟨rfl, _, Eq.trans (World.drewN_drewN _ _ _) (congrArg (World.drewN _) (Nat.add_assoc _ _ _))⟩)) | (go_at_call 48; (with_reducible refine (alu_One.calls kj20 6 x3_1 (rd t449 x6_2) t468 t469 t470 _ A30.out).mono ?_); rintro e w' ⟨rfl, ⟨nd, rfl⟩⟩; (try first | exact ⟨rfl, _, World.drewN_drewN _ _ _⟩ | exact ⟨rfl, _, Eq.trans (World.drewN_drewN _ _ _) (congrArg (World.drewN _) (Nat.add_assoc _ _ _))⟩)) | (go_at_call 48; (with_reducible refine (alu_One.calls kj20 6 x3_1 t468 t471 t472 t473 _ A31.out).mono ?_); rintro e w' ⟨rfl, ⟨nd, rfl⟩⟩; (try first | exact ⟨rfl, _, World.drewN_drewN _ _ _⟩ | exact ⟨rfl, _, Eq.trans (World.drewN_drewN _ _ _) (congrArg (World.drewN _) (Nat.add_assoc _ _ _))⟩)))
                 repeat (go_quiet (first | (go_at_call 47; (with_reducible refine (alu_Two.calls kj20 8 x3_1 (rd t449 x6_2) (rd t449 x7_3) t456 t457 t458 _ A26.out).mono ?_); rintro e w' ⟨rfl, ⟨nd, rfl⟩⟩; (try first | exact ⟨rfl, _, World.drewN_drewN _ _ _⟩ | exact ⟨rfl, _, Eq.trans (World.drewN_drewN _ _ _) (congrArg (World.drewN _) (Nat.add_assoc _ _ _))⟩)) | (go_at_call 47; (with_reducible refine (alu_Two.calls kj20 9 x3_1 t456 (rd t449 x7_3) t459 t460 t461 _ A27.out).mono ?_); rintro e w' ⟨rfl, ⟨nd, rfl⟩⟩; (try first | exact ⟨rfl, _, World.drewN_drewN _ _ _⟩ | exact ⟨rfl, _, Eq.trans (World.drewN_drewN _ _ _) (congrArg (World.drewN _) (Nat.add_assoc _ _ _))⟩)) | (go_at_call 47; (with_reducible refine (alu_Two.calls kj20 10 x3_1 (rd t449 x6_2) (rd t449 x7_3) t462 t463 t464 _ A28.out).mono ?_); rintro e w' ⟨rfl, ⟨nd, rfl⟩⟩; (try first | exact ⟨rfl, _, World.drewN_drewN _ _ _⟩ | exact ⟨rfl, _, Eq.trans (World.drewN_drewN _ _ _) (congrArg (World.drewN _) (Nat.add_assoc _ _ _))⟩)) | (go_at_call 47; (with_reducible refine (alu_Two.calls kj20 10 x3_1 (rd t449 x7_3) (rd t449 x6_2) t465 t466 t467 _ A29.out).mono ?_); rintro e w' ⟨rfl, ⟨nd, rfl⟩⟩; (try first | exact ⟨rfl, _, World.drewN_drewN _ _ _⟩ | exact ⟨rfl, _, Eq.trans (World.drewN_drewN _ _ _) (congrArg (World.drewN _) (Nat.add_assoc _ _ _))⟩)) | (go_at_call 48; (with_reducible refine (alu_One.calls kj20 6 x3_1 (rd t449 x6_2) t468 t469 t470 _ A30.out).mono ?_); rintro e w' ⟨rfl, ⟨nd, rfl⟩⟩; (try first | exact ⟨rfl, _, World.drewN_drewN _ _ _⟩ | exact ⟨rfl, _, Eq.trans (World.drewN_drewN _ _ _) (congrArg (World.drewN _) (Nat.add_assoc _ _ _))⟩)) | (go_at_call 48; (with_reducible refine (alu_One.calls kj20 6 x3_1 t468 t471 t472 t473 _ A31.out).mono ?_); rintro e w' ⟨rfl, ⟨nd, rfl⟩⟩; (try first | exact ⟨rfl, _, World.drewN_drewN _ _ _⟩ | exact ⟨rfl, _, Eq.trans (World.drewN_drewN _ _ _) (congrArg (World.drewN _) (Nat.add_assoc _ _ _))⟩))); go_upto_region 22 with (first | (go_at_call 47; (with_reducible refine (alu_Two.calls kj20 8 x3_1 (rd t449 x6_2) (rd t449 x7_3) t456 t457 t458 _ A26.out).mono ?_); rintro e w' ⟨rfl, ⟨nd, rfl⟩⟩; (try first | exact ⟨rfl, _, World.drewN_drewN _ _ _⟩ | exact ⟨rfl, _, Eq.trans (World.drewN_drewN _ _ _) (congrArg (World.drewN _) (Nat.add_assoc _ _ _))⟩)) | (go_at_call 47; (with_reducible refine (alu_Two.calls kj20 9 x3_1 t456 (rd t449 x7_3) t459 t460 t461 _ A27.out).mono ?_); rintro e w' ⟨rfl, ⟨nd, rfl⟩⟩; (try first | exact ⟨rfl, _, World.drewN_drewN _ _ _⟩ | exact ⟨rfl, _, Eq.trans (World.drewN_drewN _ _ _) (congrArg (World.drewN _) (Nat.add_assoc _ _ _))⟩)) | (go_at_call 47; (with_reducible refine (alu_Two.calls kj20 10 x3_1 (rd t449 x6_2) (rd t449 x7_3) t462 t463 t464 _ A28.out).mono ?_); rintro e w' ⟨rfl, ⟨nd, rfl⟩⟩; (try first | exact ⟨rfl, _, World.drewN_drewN _ _ _⟩ | exact ⟨rfl, _, Eq.trans (World.drewN_drewN _ _ _) (congrArg (World.drewN _) (Nat.add_assoc _ _ _))⟩)) | (go_at_call 47; (with_reducible refine (alu_Two.calls kj20 10 x3_1 (rd t449 x7_3) (rd t449 x6_2) t465 t466 t467 _ A29.out).mono ?_); rintro e w' ⟨rfl, ⟨nd, rfl⟩⟩; (try first | exact ⟨rfl, _, World.drewN_drewN _ _ _⟩ | exact ⟨rfl, _, Eq.trans (World.drewN_drewN _ _ _) (congrArg (World.drewN _) (Nat.add_assoc _ _ _))⟩)) | (go_at_call 48; (with_reducible refine (alu_One.calls kj20 6 x3_1 (rd t449 x6_2) t468 t469 t470 _ A30.out).mono ?_); rintro e w' ⟨rfl, ⟨nd, rfl⟩⟩; (try first | exact ⟨rfl, _, World.drewN_drewN _ _ _⟩ | exact ⟨rfl, _, Eq.trans (World.drewN_drewN _ _ _) (congrArg (World.drewN _) (Nat.add_assoc _ _ _))⟩)) | (go_at_call 48; (with_reducible refine (alu_One.calls kj20 6 x3_1 t468 t471 t472 t473 _ A31.out).mono ?_); rintro e w' ⟨rfl, ⟨nd, rfl⟩⟩; (try first | exact ⟨rfl, _, World.drewN_drewN _ _ _⟩ | exact ⟨rfl, _, Eq.trans (World.drewN_drewN _ _ _) (congrArg (World.drewN _) (Nat.add_assoc _ _ _))⟩))))
                 (try simp only [Act.put, List.setIfInBounds_toArray, List.set_cons_zero, List.set_cons_succ])
                 go_cut [167] (fun v167 wc => ∃ (kq : Nat) (x167_31 : Bool), v167 = .bool x167_31 ∧ Aside0 (cellarlaw2_AluLaws.j4 kq x3_1 t448 t449 x6_2 x7_3 (rd t449 x6_2) (rd t449 x7_3) x167_31 l0_0 l0_1 l0_2 = some r) ∧ Aside0 (kq ≤ kj20) ∧ Aside0 (Kd.R (Kd.int .i64) 3 wc w.heap.size (fun _ => True) (.slice (some ad452) t449.length co16) t449) ∧ Aside0 (wc.heap[gb445]? = some (.cells #[(.slice A0_0 l0_0.length c0_0), (.slice A0_1 l0_1.length c0_1), (.slice A0_2 l0_2.length c0_2)] 26 (0, 0))) ∧ Aside0 (Below w.heap.size w wc))
                 case first => as_aux_lemma =>
                  have H := HC32.out
                  clear HC32
                  replace H := Option.bind_eq_some_iff.mp H
                  obtain ⟨t474, A330, H⟩ := H
                  replace H : ((cellarlaw2_num.f t461).bind fun t475 => ((cellarlaw2_num.f t464).bind fun t476 => ((cellarlaw2_num.f t467).bind fun t477 => ((cellarlaw2_num.f t470).bind fun t478 => ((cellarlaw2_num.f t473).bind fun t479 => (if (wrap64 ((wrap64 ((wrap64 ((wrap64 ((wrap64 (t474 + t475)) + t476)) + t477)) + t478)) + t479)) = 0 then (if (wrap64 ((wrap64 ((wrap64 ((wrap64 ((wrap64 (t457 + t460)) + t463)) + t466)) + t469)) + t472)) = 0 then (if t459 = (rd t449 x6_2) then (if t462 = t465 then (cellarlaw2_AluLaws.j4 kj20 x3_1 t448 t449 x6_2 x7_3 (rd t449 x6_2) (rd t449 x7_3) (t471 != (rd t449 x6_2)) l0_0 l0_1 l0_2) else (cellarlaw2_AluLaws.j4 kj20 x3_1 t448 t449 x6_2 x7_3 (rd t449 x6_2) (rd t449 x7_3) true l0_0 l0_1 l0_2)) else (cellarlaw2_AluLaws.j4 kj20 x3_1 t448 t449 x6_2 x7_3 (rd t449 x6_2) (rd t449 x7_3) true l0_0 l0_1 l0_2)) else (cellarlaw2_AluLaws.j4 kj20 x3_1 t448 t449 x6_2 x7_3 (rd t449 x6_2) (rd t449 x7_3) true l0_0 l0_1 l0_2)) else (cellarlaw2_AluLaws.j4 kj20 x3_1 t448 t449 x6_2 x7_3 (rd t449 x6_2) (rd t449 x7_3) true l0_0 l0_1 l0_2))))))) = some r := H
                  have A33 := Aside0.mk A330
                  clear A330
                  replace H := Option.bind_eq_some_iff.mp H
                  obtain ⟨t475, A340, H⟩ := H
                  replace H : ((cellarlaw2_num.f t464).bind fun t476 => ((cellarlaw2_num.f t467).bind fun t477 => ((cellarlaw2_num.f t470).bind fun t478 => ((cellarlaw2_num.f t473).bind fun t479 => (if (wrap64 ((wrap64 ((wrap64 ((wrap64 ((wrap64 (t474 + t475)) + t476)) + t477)) + t478)) + t479)) = 0 then (if (wrap64 ((wrap64 ((wrap64 ((wrap64 ((wrap64 (t457 + t460)) + t463)) + t466)) + t469)) + t472)) = 0 then (if t459 = (rd t449 x6_2) then (if t462 = t465 then (cellarlaw2_AluLaws.j4 kj20 x3_1 t448 t449 x6_2 x7_3 (rd t449 x6_2) (rd t449 x7_3) (t471 != (rd t449 x6_2)) l0_0 l0_1 l0_2) else (cellarlaw2_AluLaws.j4 kj20 x3_1 t448 t449 x6_2 x7_3 (rd t449 x6_2) (rd t449 x7_3) true l0_0 l0_1 l0_2)) else (cellarlaw2_AluLaws.j4 kj20 x3_1 t448 t449 x6_2 x7_3 (rd t449 x6_2) (rd t449 x7_3) true l0_0 l0_1 l0_2)) else (cellarlaw2_AluLaws.j4 kj20 x3_1 t448 t449 x6_2 x7_3 (rd t449 x6_2) (rd t449 x7_3) true l0_0 l0_1 l0_2)) else (cellarlaw2_AluLaws.j4 kj20 x3_1 t448 t449 x6_2 x7_3 (rd t449 x6_2) (rd t449 x7_3) true l0_0 l0_1 l0_2)))))) = some r := H
                  have A34 := Aside0.mk A340
                  clear A340
                  replace H := Option.bind_eq_some_iff.mp H
                  obtain ⟨t476, A350, H⟩ := H
                  replace H : ((cellarlaw2_num.f t467).bind fun t477 => ((cellarlaw2_num.f t470).bind fun t478 => ((cellarlaw2_num.f t473).bind fun t479 => (if (wrap64 ((wrap64 ((wrap64 ((wrap64 ((wrap64 (t474 + t475)) + t476)) + t477)) + t478)) + t479)) = 0 then (if (wrap64 ((wrap64 ((wrap64 ((wrap64 ((wrap64 (t457 + t460)) + t463)) + t466)) + t469)) + t472)) = 0 then (if t459 = (rd t449 x6_2) then (if t462 = t465 then (cellarlaw2_AluLaws.j4 kj20 x3_1 t448 t449 x6_2 x7_3 (rd t449 x6_2) (rd t449 x7_3) (t471 != (rd t449 x6_2)) l0_0 l0_1 l0_2) else (cellarlaw2_AluLaws.j4 kj20 x3_1 t448 t449 x6_2 x7_3 (rd t449 x6_2) (rd t449 x7_3) true l0_0 l0_1 l0_2)) else (cellarlaw2_AluLaws.j4 kj20 x3_1 t448 t449 x6_2 x7_3 (rd t449 x6_2) (rd t449 x7_3) true l0_0 l0_1 l0_2)) else (cellarlaw2_AluLaws.j4 kj20 x3_1 t448 t449 x6_2 x7_3 (rd t449 x6_2) (rd t449 x7_3) true l0_0 l0_1 l0_2)) else (cellarlaw2_AluLaws.j4 kj20 x3_1 t448 t449 x6_2 x7_3 (rd t449 x6_2) (rd t449 x7_3) true l0_0 l0_1 l0_2))))) = some r := H
                  have A35 := Aside0.mk A350
                  clear A350
                  replace H := Option.bind_eq_some_iff.mp H
                  obtain ⟨t477, A360, H⟩ := H
                  replace H : ((cellarlaw2_num.f t470).bind fun t478 => ((cellarlaw2_num.f t473).bind fun t479 => (if (wrap64 ((wrap64 ((wrap64 ((wrap64 ((wrap64 (t474 + t475)) + t476)) + t477)) + t478)) + t479)) = 0 then (if (wrap64 ((wrap64 ((wrap64 ((wrap64 ((wrap64 (t457 + t460)) + t463)) + t466)) + t469)) + t472)) = 0 then (if t459 = (rd t449 x6_2) then (if t462 = t465 then (cellarlaw2_AluLaws.j4 kj20 x3_1 t448 t449 x6_2 x7_3 (rd t449 x6_2) (rd t449 x7_3) (t471 != (rd t449 x6_2)) l0_0 l0_1 l0_2) else (cellarlaw2_AluLaws.j4 kj20 x3_1 t448 t449 x6_2 x7_3 (rd t449 x6_2) (rd t449 x7_3) true l0_0 l0_1 l0_2)) else (cellarlaw2_AluLaws.j4 kj20 x3_1 t448 t449 x6_2 x7_3 (rd t449 x6_2) (rd t449 x7_3) true l0_0 l0_1 l0_2)) else (cellarlaw2_AluLaws.j4 kj20 x3_1 t448 t449 x6_2 x7_3 (rd t449 x6_2) (rd t449 x7_3) true l0_0 l0_1 l0_2)) else (cellarlaw2_AluLaws.j4 kj20 x3_1 t448 t449 x6_2 x7_3 (rd t449 x6_2) (rd t449 x7_3) true l0_0 l0_1 l0_2)))) = some r := H
                  have A36 := Aside0.mk A360
                  clear A360
                  replace H := Option.bind_eq_some_iff.mp H
                  obtain ⟨t478, A370, H⟩ := H
                  replace H : ((cellarlaw2_num.f t473).bind fun t479 => (if (wrap64 ((wrap64 ((wrap64 ((wrap64 ((wrap64 (t474 + t475)) + t476)) + t477)) + t478)) + t479)) = 0 then (if (wrap64 ((wrap64 ((wrap64 ((wrap64 ((wrap64 (t457 + t460)) + t463)) + t466)) + t469)) + t472)) = 0 then (if t459 = (rd t449 x6_2) then (if t462 = t465 then (cellarlaw2_AluLaws.j4 kj20 x3_1 t448 t449 x6_2 x7_3 (rd t449 x6_2) (rd t449 x7_3) (t471 != (rd t449 x6_2)) l0_0 l0_1 l0_2) else (cellarlaw2_AluLaws.j4 kj20 x3_1 t448 t449 x6_2 x7_3 (rd t449 x6_2) (rd t449 x7_3) true l0_0 l0_1 l0_2)) else (cellarlaw2_AluLaws.j4 kj20 x3_1 t448 t449 x6_2 x7_3 (rd t449 x6_2) (rd t449 x7_3) true l0_0 l0_1 l0_2)) else (cellarlaw2_AluLaws.j4 kj20 x3_1 t448 t449 x6_2 x7_3 (rd t449 x6_2) (rd t449 x7_3) true l0_0 l0_1 l0_2)) else (cellarlaw2_AluLaws.j4 kj20 x3_1 t448 t449 x6_2 x7_3 (rd t449 x6_2) (rd t449 x7_3) true l0_0 l0_1 l0_2))) = some r := H
                  have A37 := Aside0.mk A370
                  clear A370
                  replace H := Option.bind_eq_some_iff.mp H
                  obtain ⟨t479, A380, H⟩ := H
                  replace H : (if (wrap64 ((wrap64 ((wrap64 ((wrap64 ((wrap64 (t474 + t475)) + t476)) + t477)) + t478)) + t479)) = 0 then (if (wrap64 ((wrap64 ((wrap64 ((wrap64 ((wrap64 (t457 + t460)) + t463)) + t466)) + t469)) + t472)) = 0 then (if t459 = (rd t449 x6_2) then (if t462 = t465 then (cellarlaw2_AluLaws.j4 kj20 x3_1 t448 t449 x6_2 x7_3 (rd t449 x6_2) (rd t449 x7_3) (t471 != (rd t449 x6_2)) l0_0 l0_1 l0_2) else (cellarlaw2_AluLaws.j4 kj20 x3_1 t448 t449 x6_2 x7_3 (rd t449 x6_2) (rd t449 x7_3) true l0_0 l0_1 l0_2)) else (cellarlaw2_AluLaws.j4 kj20 x3_1 t448 t449 x6_2 x7_3 (rd t449 x6_2) (rd t449 x7_3) true l0_0 l0_1 l0_2)) else (cellarlaw2_AluLaws.j4 kj20 x3_1 t448 t449 x6_2 x7_3 (rd t449 x6_2) (rd t449 x7_3) true l0_0 l0_1 l0_2)) else (cellarlaw2_AluLaws.j4 kj20 x3_1 t448 t449 x6_2 x7_3 (rd t449 x6_2) (rd t449 x7_3) true l0_0 l0_1 l0_2)) = some r := H
                  have A38 := Aside0.mk A380
                  clear A380
                  by_cases c39 : (wrap64 ((wrap64 ((wrap64 ((wrap64 ((wrap64 (t474 + t475)) + t476)) + t477)) + t478)) + t479)) = 0
                  ·rw [if_pos c39] at H
                   have c39b0 : ((wrap64 ((wrap64 ((wrap64 ((wrap64 ((wrap64 (t474 + t475)) + t476)) + t477)) + t478)) + t479)) == 0) = true := beq_iff_eq.mpr c39
                   have c39b1 : ((wrap64 ((wrap64 ((wrap64 ((wrap64 ((wrap64 (t474 + t475)) + t476)) + t477)) + t478)) + t479)) != 0) = false := bne_eq_false_iff_eq.mpr c39
                   clear c39
                   (first | rw [c39b0] | (simp only [i64_w, i32_w]; rw [c39b0]) | skip)
                   by_cases c40 : (wrap64 ((wrap64 ((wrap64 ((wrap64 ((wrap64 (t457 + t460)) + t463)) + t466)) + t469)) + t472)) = 0
                   ·rw [if_pos c40] at H
                    have c40b0 : ((wrap64 ((wrap64 ((wrap64 ((wrap64 ((wrap64 (t457 + t460)) + t463)) + t466)) + t469)) + t472)) == 0) = true := beq_iff_eq.mpr c40
                    have c40b1 : ((wrap64 ((wrap64 ((wrap64 ((wrap64 ((wrap64 (t457 + t460)) + t463)) + t466)) + t469)) + t472)) != 0) = false := bne_eq_false_iff_eq.mpr c40
                    clear c40
                    by_cases c41 : t459 = (rd t449 x6_2)
                    ·rw [if_pos c41] at H
                     have c41b0 : (t459 == (rd t449 x6_2)) = true := beq_iff_eq.mpr c41
                     have c41b1 : (t459 != (rd t449 x6_2)) = false := bne_eq_false_iff_eq.mpr c41
                     clear c41
                     by_cases c42 : t462 = t465
                     ·rw [if_pos c42] at H
                      have c42b0 : (t462 == t465) = true := beq_iff_eq.mpr c42
                      have c42b1 : (t462 != t465) = false := bne_eq_false_iff_eq.mpr c42
                      clear c42
                      have H' := Aside0.mk H
                      clear H
                      go_wp2_with (first | (go_at_call 44; (with_reducible refine (cellarlaw2_num.calls t458 t474 _ A33.out).mono ?_); rintro e w' ⟨rfl, ⟨nd, rfl⟩⟩; (try first | exact ⟨rfl, _, World.drewN_drewN _ _ _⟩ | exact ⟨rfl, _, Eq.trans (World.drewN_drewN _ _ _) (congrArg (World.drewN _) (Nat.add_assoc _ _ _))⟩)) | (go_at_call 44; (with_reducible refine (cellarlaw2_num.calls t461 t475 _ A34.out).mono ?_); rintro e w' ⟨rfl, ⟨nd, rfl⟩⟩; (try first | exact ⟨rfl, _, World.drewN_drewN _ _ _⟩ | exact ⟨rfl, _, Eq.trans (World.drewN_drewN _ _ _) (congrArg (World.drewN _) (Nat.add_assoc _ _ _))⟩)) | (go_at_call 44; (with_reducible refine (cellarlaw2_num.calls t464 t476 _ A35.out).mono ?_); rintro e w' ⟨rfl, ⟨nd, rfl⟩⟩; (try first | exact ⟨rfl, _, World.drewN_drewN _ _ _⟩ | exact ⟨rfl, _, Eq.trans (World.drewN_drewN _ _ _) (congrArg (World.drewN _) (Nat.add_assoc _ _ _))⟩)) | (go_at_call 44; (with_reducible refine (cellarlaw2_num.calls t467 t477 _ A36.out).mono ?_); rintro e w' ⟨rfl, ⟨nd, rfl⟩⟩; (try first | exact ⟨rfl, _, World.drewN_drewN _ _ _⟩ | exact ⟨rfl, _, Eq.trans (World.drewN_drewN _ _ _) (congrArg (World.drewN _) (Nat.add_assoc _ _ _))⟩)) | (go_at_call 44; (with_reducible refine (cellarlaw2_num.calls t470 t478 _ A37.out).mono ?_); rintro e w' ⟨rfl, ⟨nd, rfl⟩⟩; (try first | exact ⟨rfl, _, World.drewN_drewN _ _ _⟩ | exact ⟨rfl, _, Eq.trans (World.drewN_drewN _ _ _) (congrArg (World.drewN _) (Nat.add_assoc _ _ _))⟩)) | (go_at_call 44; (with_reducible refine (cellarlaw2_num.calls t473 t479 _ A38.out).mono ?_); rintro e w' ⟨rfl, ⟨nd, rfl⟩⟩; (try first | exact ⟨rfl, _, World.drewN_drewN _ _ _⟩ | exact ⟨rfl, _, Eq.trans (World.drewN_drewN _ _ _) (congrArg (World.drewN _) (Nat.add_assoc _ _ _))⟩)))
                      repeat (go_quiet (first | (go_at_call 44; (with_reducible refine (cellarlaw2_num.calls t458 t474 _ A33.out).mono ?_); rintro e w' ⟨rfl, ⟨nd, rfl⟩⟩; (try first | exact ⟨rfl, _, World.drewN_drewN _ _ _⟩ | exact ⟨rfl, _, Eq.trans (World.drewN_drewN _ _ _) (congrArg (World.drewN _) (Nat.add_assoc _ _ _))⟩)) | (go_at_call 44; (with_reducible refine (cellarlaw2_num.calls t461 t475 _ A34.out).mono ?_); rintro e w' ⟨rfl, ⟨nd, rfl⟩⟩; (try first | exact ⟨rfl, _, World.drewN_drewN _ _ _⟩ | exact ⟨rfl, _, Eq.trans (World.drewN_drewN _ _ _) (congrArg (World.drewN _) (Nat.add_assoc _ _ _))⟩)) | (go_at_call 44; (with_reducible refine (cellarlaw2_num.calls t464 t476 _ A35.out).mono ?_); rintro e w' ⟨rfl, ⟨nd, rfl⟩⟩; (try first | exact ⟨rfl, _, World.drewN_drewN _ _ _⟩ | exact ⟨rfl, _, Eq.trans (World.drewN_drewN _ _ _) (congrArg (World.drewN _) (Nat.add_assoc _ _ _))⟩)) | (go_at_call 44; (with_reducible refine (cellarlaw2_num.calls t467 t477 _ A36.out).mono ?_); rintro e w' ⟨rfl, ⟨nd, rfl⟩⟩; (try first | exact ⟨rfl, _, World.drewN_drewN _ _ _⟩ | exact ⟨rfl, _, Eq.trans (World.drewN_drewN _ _ _) (congrArg (World.drewN _) (Nat.add_assoc _ _ _))⟩)) | (go_at_call 44; (with_reducible refine (cellarlaw2_num.calls t470 t478 _ A37.out).mono ?_); rintro e w' ⟨rfl, ⟨nd, rfl⟩⟩; (try first | exact ⟨rfl, _, World.drewN_drewN _ _ _⟩ | exact ⟨rfl, _, Eq.trans (World.drewN_drewN _ _ _) (congrArg (World.drewN _) (Nat.add_assoc _ _ _))⟩)) | (go_at_call 44; (with_reducible refine (cellarlaw2_num.calls t473 t479 _ A38.out).mono ?_); rintro e w' ⟨rfl, ⟨nd, rfl⟩⟩; (try first | exact ⟨rfl, _, World.drewN_drewN _ _ _⟩ | exact ⟨rfl, _, Eq.trans (World.drewN_drewN _ _ _) (congrArg (World.drewN _) (Nat.add_assoc _ _ _))⟩))); try go_wp2_with (first | (go_at_call 44; (with_reducible refine (cellarlaw2_num.calls t458 t474 _ A33.out).mono ?_); rintro e w' ⟨rfl, ⟨nd, rfl⟩⟩; (try first | exact ⟨rfl, _, World.drewN_drewN _ _ _⟩ | exact ⟨rfl, _, Eq.trans (World.drewN_drewN _ _ _) (congrArg (World.drewN _) (Nat.add_assoc _ _ _))⟩)) | (go_at_call 44; (with_reducible refine (cellarlaw2_num.calls t461 t475 _ A34.out).mono ?_); rintro e w' ⟨rfl, ⟨nd, rfl⟩⟩; (try first | exact ⟨rfl, _, World.drewN_drewN _ _ _⟩ | exact ⟨rfl, _, Eq.trans (World.drewN_drewN _ _ _) (congrArg (World.drewN _) (Nat.add_assoc _ _ _))⟩)) | (go_at_call 44; (with_reducible refine (cellarlaw2_num.calls t464 t476 _ A35.out).mono ?_); rintro e w' ⟨rfl, ⟨nd, rfl⟩⟩; (try first | exact ⟨rfl, _, World.drewN_drewN _ _ _⟩ | exact ⟨rfl, _, Eq.trans (World.drewN_drewN _ _ _) (congrArg (World.drewN _) (Nat.add_assoc _ _ _))⟩)) | (go_at_call 44; (with_reducible refine (cellarlaw2_num.calls t467 t477 _ A36.out).mono ?_); rintro e w' ⟨rfl, ⟨nd, rfl⟩⟩; (try first | exact ⟨rfl, _, World.drewN_drewN _ _ _⟩ | exact ⟨rfl, _, Eq.trans (World.drewN_drewN _ _ _) (congrArg (World.drewN _) (Nat.add_assoc _ _ _))⟩)) | (go_at_call 44; (with_reducible refine (cellarlaw2_num.calls t470 t478 _ A37.out).mono ?_); rintro e w' ⟨rfl, ⟨nd, rfl⟩⟩; (try first | exact ⟨rfl, _, World.drewN_drewN _ _ _⟩ | exact ⟨rfl, _, Eq.trans (World.drewN_drewN _ _ _) (congrArg (World.drewN _) (Nat.add_assoc _ _ _))⟩)) | (go_at_call 44; (with_reducible refine (cellarlaw2_num.calls t473 t479 _ A38.out).mono ?_); rintro e w' ⟨rfl, ⟨nd, rfl⟩⟩; (try first | exact ⟨rfl, _, World.drewN_drewN _ _ _⟩ | exact ⟨rfl, _, Eq.trans (World.drewN_drewN _ _ _) (congrArg (World.drewN _) (Nat.add_assoc _ _ _))⟩))))
                      go_meet
                      case rel => exact ⟨_, ((t471 != (rd t449 x6_2))), (by first | rfl | (simp; done) | (simp [*]; done)), H', ⟨by have := HK1.out; have := HK2.out; have := HK3.out; have := HJ20.out; first | omega | exact Nat.le_refl _⟩, ⟨by (with_reducible repeat (first | apply Kd.R_alloc | apply Kd.R_drewN | apply Kd.R_drew)); exact HO_5.out⟩, ⟨by (with_reducible repeat (first | refine blk_drewN ?_ _ | refine blk_drew ?_ | refine blk_alloc ?_ _)); exact BK445.out⟩, ⟨by repeat (first | (with_reducible first | exact HB.out | apply below_alloc | apply pw_below_drewN | apply below_drew1 | refine below_set ?_ GE445.out) | exact HB.out)⟩⟩
                     ·rw [if_neg c42] at H
                      have c42b0 : (t462 == t465) = false := beq_eq_false_iff_ne.mpr c42
                      have c42b1 : (t462 != t465) = true := bne_iff_ne.mpr c42
                      have H' := Aside0.mk H
                      clear H
                      go_wp2_with (first | (go_at_call 44; (with_reducible refine (cellarlaw2_num.calls t458 t474 _ A33.out).mono ?_); rintro e w' ⟨rfl, ⟨nd, rfl⟩⟩; (try first | exact ⟨rfl, _, World.drewN_drewN _ _ _⟩ | exact ⟨rfl, _, Eq.trans (World.drewN_drewN _ _ _) (congrArg (World.drewN _) (Nat.add_assoc _ _ _))⟩)) | (go_at_call 44; (with_reducible refine (cellarlaw2_num.calls t461 t475 _ A34.out).mono ?_); rintro e w' ⟨rfl, ⟨nd, rfl⟩⟩; (try first | exact ⟨rfl, _, World.drewN_drewN _ _ _⟩ | exact ⟨rfl, _, Eq.trans (World.drewN_drewN _ _ _) (congrArg (World.drewN _) (Nat.add_assoc _ _ _))⟩)) | (go_at_call 44; (with_reducible refine (cellarlaw2_num.calls t464 t476 _ A35.out).mono ?_); rintro e w' ⟨rfl, ⟨nd, rfl⟩⟩; (try first | exact ⟨rfl, _, World.drewN_drewN _ _ _⟩ | exact ⟨rfl, _, Eq.trans (World.drewN_drewN _ _ _) (congrArg (World.drewN _) (Nat.add_assoc _ _ _))⟩)) | (go_at_call 44; (with_reducible refine (cellarlaw2_num.calls t467 t477 _ A36.out).mono ?_); rintro e w' ⟨rfl, ⟨nd, rfl⟩⟩; (try first | exact ⟨rfl, _, World.drewN_drewN _ _ _⟩ | exact ⟨rfl, _, Eq.trans (World.drewN_drewN _ _ _) (congrArg (World.drewN _) (Nat.add_assoc _ _ _))⟩)) | (go_at_call 44; (with_reducible refine (cellarlaw2_num.calls t470 t478 _ A37.out).mono ?_); rintro e w' ⟨rfl, ⟨nd, rfl⟩⟩; (try first | exact ⟨rfl, _, World.drewN_drewN _ _ _⟩ | exact ⟨rfl, _, Eq.trans (World.drewN_drewN _ _ _) (congrArg (World.drewN _) (Nat.add_assoc _ _ _))⟩)) | (go_at_call 44; (with_reducible refine (cellarlaw2_num.calls t473 t479 _ A38.out).mono ?_); rintro e w' ⟨rfl, ⟨nd, rfl⟩⟩; (try first | exact ⟨rfl, _, World.drewN_drewN _ _ _⟩ | exact ⟨rfl, _, Eq.trans (World.drewN_drewN _ _ _) (congrArg (World.drewN _) (Nat.add_assoc _ _ _))⟩)))
                      repeat (go_quiet (first | (go_at_call 44; (with_reducible refine (cellarlaw2_num.calls t458 t474 _ A33.out).mono ?_); rintro e w' ⟨rfl, ⟨nd, rfl⟩⟩; (try first | exact ⟨rfl, _, World.drewN_drewN _ _ _⟩ | exact ⟨rfl, _, Eq.trans (World.drewN_drewN _ _ _) (congrArg (World.drewN _) (Nat.add_assoc _ _ _))⟩)) | (go_at_call 44; (with_reducible refine (cellarlaw2_num.calls t461 t475 _ A34.out).mono ?_); rintro e w' ⟨rfl, ⟨nd, rfl⟩⟩; (try first | exact ⟨rfl, _, World.drewN_drewN _ _ _⟩ | exact ⟨rfl, _, Eq.trans (World.drewN_drewN _ _ _) (congrArg (World.drewN _) (Nat.add_assoc _ _ _))⟩)) | (go_at_call 44; (with_reducible refine (cellarlaw2_num.calls t464 t476 _ A35.out).mono ?_); rintro e w' ⟨rfl, ⟨nd, rfl⟩⟩; (try first | exact ⟨rfl, _, World.drewN_drewN _ _ _⟩ | exact ⟨rfl, _, Eq.trans (World.drewN_drewN _ _ _) (congrArg (World.drewN _) (Nat.add_assoc _ _ _))⟩)) | (go_at_call 44; (with_reducible refine (cellarlaw2_num.calls t467 t477 _ A36.out).mono ?_); rintro e w' ⟨rfl, ⟨nd, rfl⟩⟩; (try first | exact ⟨rfl, _, World.drewN_drewN _ _ _⟩ | exact ⟨rfl, _, Eq.trans (World.drewN_drewN _ _ _) (congrArg (World.drewN _) (Nat.add_assoc _ _ _))⟩)) | (go_at_call 44; (with_reducible refine (cellarlaw2_num.calls t470 t478 _ A37.out).mono ?_); rintro e w' ⟨rfl, ⟨nd, rfl⟩⟩; (try first | exact ⟨rfl, _, World.drewN_drewN _ _ _⟩ | exact ⟨rfl, _, Eq.trans (World.drewN_drewN _ _ _) (congrArg (World.drewN _) (Nat.add_assoc _ _ _))⟩)) | (go_at_call 44; (with_reducible refine (cellarlaw2_num.calls t473 t479 _ A38.out).mono ?_); rintro e w' ⟨rfl, ⟨nd, rfl⟩⟩; (try first | exact ⟨rfl, _, World.drewN_drewN _ _ _⟩ | exact ⟨rfl, _, Eq.trans (World.drewN_drewN _ _ _) (congrArg (World.drewN _) (Nat.add_assoc _ _ _))⟩))); try go_wp2_with (first | (go_at_call 44; (with_reducible refine (cellarlaw2_num.calls t458 t474 _ A33.out).mono ?_); rintro e w' ⟨rfl, ⟨nd, rfl⟩⟩; (try first | exact ⟨rfl, _, World.drewN_drewN _ _ _⟩ | exact ⟨rfl, _, Eq.trans (World.drewN_drewN _ _ _) (congrArg (World.drewN _) (Nat.add_assoc _ _ _))⟩)) | (go_at_call 44; (with_reducible refine (cellarlaw2_num.calls t461 t475 _ A34.out).mono ?_); rintro e w' ⟨rfl, ⟨nd, rfl⟩⟩; (try first | exact ⟨rfl, _, World.drewN_drewN _ _ _⟩ | exact ⟨rfl, _, Eq.trans (World.drewN_drewN _ _ _) (congrArg (World.drewN _) (Nat.add_assoc _ _ _))⟩)) | (go_at_call 44; (with_reducible refine (cellarlaw2_num.calls t464 t476 _ A35.out).mono ?_); rintro e w' ⟨rfl, ⟨nd, rfl⟩⟩; (try first | exact ⟨rfl, _, World.drewN_drewN _ _ _⟩ | exact ⟨rfl, _, Eq.trans (World.drewN_drewN _ _ _) (congrArg (World.drewN _) (Nat.add_assoc _ _ _))⟩)) | (go_at_call 44; (with_reducible refine (cellarlaw2_num.calls t467 t477 _ A36.out).mono ?_); rintro e w' ⟨rfl, ⟨nd, rfl⟩⟩; (try first | exact ⟨rfl, _, World.drewN_drewN _ _ _⟩ | exact ⟨rfl, _, Eq.trans (World.drewN_drewN _ _ _) (congrArg (World.drewN _) (Nat.add_assoc _ _ _))⟩)) | (go_at_call 44; (with_reducible refine (cellarlaw2_num.calls t470 t478 _ A37.out).mono ?_); rintro e w' ⟨rfl, ⟨nd, rfl⟩⟩; (try first | exact ⟨rfl, _, World.drewN_drewN _ _ _⟩ | exact ⟨rfl, _, Eq.trans (World.drewN_drewN _ _ _) (congrArg (World.drewN _) (Nat.add_assoc _ _ _))⟩)) | (go_at_call 44; (with_reducible refine (cellarlaw2_num.calls t473 t479 _ A38.out).mono ?_); rintro e w' ⟨rfl, ⟨nd, rfl⟩⟩; (try first | exact ⟨rfl, _, World.drewN_drewN _ _ _⟩ | exact ⟨rfl, _, Eq.trans (World.drewN_drewN _ _ _) (congrArg (World.drewN _) (Nat.add_assoc _ _ _))⟩))))
                      go_meet
                      case rel => exact ⟨_, (true), (by first | rfl | (simp; done) | (simp [*]; done)), H', ⟨by have := HK1.out; have := HK2.out; have := HK3.out; have := HJ20.out; first | omega | exact Nat.le_refl _⟩, ⟨by (with_reducible repeat (first | apply Kd.R_alloc | apply Kd.R_drewN | apply Kd.R_drew)); exact HO_5.out⟩, ⟨by (with_reducible repeat (first | refine blk_drewN ?_ _ | refine blk_drew ?_ | refine blk_alloc ?_ _)); exact BK445.out⟩, ⟨by repeat (first | (with_reducible first | exact HB.out | apply below_alloc | apply pw_below_drewN | apply below_drew1 | refine below_set ?_ GE445.out) | exact HB.out)⟩⟩
                    ·rw [if_neg c41] at H
                     have c41b0 : (t459 == (rd t449 x6_2)) = false := beq_eq_false_iff_ne.mpr c41
                     have c41b1 : (t459 != (rd t449 x6_2)) = true := bne_iff_ne.mpr c41
                     have H' := Aside0.mk H
                     clear H
                     go_wp2_with (first | (go_at_call 44; (with_reducible refine (cellarlaw2_num.calls t458 t474 _ A33.out).mono ?_); rintro e w' ⟨rfl, ⟨nd, rfl⟩⟩; (try first | exact ⟨rfl, _, World.drewN_drewN _ _ _⟩ | exact ⟨rfl, _, Eq.trans (World.drewN_drewN _ _ _) (congrArg (World.drewN _) (Nat.add_assoc _ _ _))⟩)) | (go_at_call 44; (with_reducible refine (cellarlaw2_num.calls t461 t475 _ A34.out).mono ?_); rintro e w' ⟨rfl, ⟨nd, rfl⟩⟩; (try first | exact ⟨rfl, _, World.drewN_drewN _ _ _⟩ | exact ⟨rfl, _, Eq.trans (World.drewN_drewN _ _ _) (congrArg (World.drewN _) (Nat.add_assoc _ _ _))⟩)) | (go_at_call 44; (with_reducible refine (cellarlaw2_num.calls t464 t476 _ A35.out).mono ?_); rintro e w' ⟨rfl, ⟨nd, rfl⟩⟩; (try first | exact ⟨rfl, _, World.drewN_drewN _ _ _⟩ | exact ⟨rfl, _, Eq.trans (World.drewN_drewN _ _ _) (congrArg (World.drewN _) (Nat.add_assoc _ _ _))⟩)) | (go_at_call 44; (with_reducible refine (cellarlaw2_num.calls t467 t477 _ A36.out).mono ?_); rintro e w' ⟨rfl, ⟨nd, rfl⟩⟩; (try first | exact ⟨rfl, _, World.drewN_drewN _ _ _⟩ | exact ⟨rfl, _, Eq.trans (World.drewN_drewN _ _ _) (congrArg (World.drewN _) (Nat.add_assoc _ _ _))⟩)) | (go_at_call 44; (with_reducible refine (cellarlaw2_num.calls t470 t478 _ A37.out).mono ?_); rintro e w' ⟨rfl, ⟨nd, rfl⟩⟩; (try first | exact ⟨rfl, _, World.drewN_drewN _ _ _⟩ | exact ⟨rfl, _, Eq.trans (World.drewN_drewN _ _ _) (congrArg (World.drewN _) (Nat.add_assoc _ _ _))⟩)) | (go_at_call 44; (with_reducible refine (cellarlaw2_num.calls t473 t479 _ A38.out).mono ?_); rintro e w' ⟨rfl, ⟨nd, rfl⟩⟩; (try first | exact ⟨rfl, _, World.drewN_drewN _ _ _⟩ | exact ⟨rfl, _, Eq.trans (World.drewN_drewN _ _ _) (congrArg (World.drewN _) (Nat.add_assoc _ _ _))⟩)))
                     repeat (go_quiet (first | (go_at_call 44; (with_reducible refine (cellarlaw2_num.calls t458 t474 _ A33.out).mono ?_); rintro e w' ⟨rfl, ⟨nd, rfl⟩⟩; (try first | exact ⟨rfl, _, World.drewN_drewN _ _ _⟩ | exact ⟨rfl, _, Eq.trans (World.drewN_drewN _ _ _) (congrArg (World.drewN _) (Nat.add_assoc _ _ _))⟩)) | (go_at_call 44; (with_reducible refine (cellarlaw2_num.calls t461 t475 _ A34.out).mono ?_); rintro e w' ⟨rfl, ⟨nd, rfl⟩⟩; (try first | exact ⟨rfl, _, World.drewN_drewN _ _ _⟩ | exact ⟨rfl, _, Eq.trans (World.drewN_drewN _ _ _) (congrArg (World.drewN _) (Nat.add_assoc _ _ _))⟩)) | (go_at_call 44; (with_reducible refine (cellarlaw2_num.calls t464 t476 _ A35.out).mono ?_); rintro e w' ⟨rfl, ⟨nd, rfl⟩⟩; (try first | exact ⟨rfl, _, World.drewN_drewN _ _ _⟩ | exact ⟨rfl, _, Eq.trans (World.drewN_drewN _ _ _) (congrArg (World.drewN _) (Nat.add_assoc _ _ _))⟩)) | (go_at_call 44; (with_reducible refine (cellarlaw2_num.calls t467 t477 _ A36.out).mono ?_); rintro e w' ⟨rfl, ⟨nd, rfl⟩⟩; (try first | exact ⟨rfl, _, World.drewN_drewN _ _ _⟩ | exact ⟨rfl, _, Eq.trans (World.drewN_drewN _ _ _) (congrArg (World.drewN _) (Nat.add_assoc _ _ _))⟩)) | (go_at_call 44; (with_reducible refine (cellarlaw2_num.calls t470 t478 _ A37.out).mono ?_); rintro e w' ⟨rfl, ⟨nd, rfl⟩⟩; (try first | exact ⟨rfl, _, World.drewN_drewN _ _ _⟩ | exact ⟨rfl, _, Eq.trans (World.drewN_drewN _ _ _) (congrArg (World.drewN _) (Nat.add_assoc _ _ _))⟩)) | (go_at_call 44; (with_reducible refine (cellarlaw2_num.calls t473 t479 _ A38.out).mono ?_); rintro e w' ⟨rfl, ⟨nd, rfl⟩⟩; (try first | exact ⟨rfl, _, World.drewN_drewN _ _ _⟩ | exact ⟨rfl, _, Eq.trans (World.drewN_drewN _ _ _) (congrArg (World.drewN _) (Nat.add_assoc _ _ _))⟩))); try go_wp2_with (first | (go_at_call 44; (with_reducible refine (cellarlaw2_num.calls t458 t474 _ A33.out).mono ?_); rintro e w' ⟨rfl, ⟨nd, rfl⟩⟩; (try first | exact ⟨rfl, _, World.drewN_drewN _ _ _⟩ | exact ⟨rfl, _, Eq.trans (World.drewN_drewN _ _ _) (congrArg (World.drewN _) (Nat.add_assoc _ _ _))⟩)) | (go_at_call 44; (with_reducible refine (cellarlaw2_num.calls t461 t475 _ A34.out).mono ?_); rintro e w' ⟨rfl, ⟨nd, rfl⟩⟩; (try first | exact ⟨rfl, _, World.drewN_drewN _ _ _⟩ | exact ⟨rfl, _, Eq.trans (World.drewN_drewN _ _ _) (congrArg (World.drewN _) (Nat.add_assoc _ _ _))⟩)) | (go_at_call 44; (with_reducible refine (cellarlaw2_num.calls t464 t476 _ A35.out).mono ?_); rintro e w' ⟨rfl, ⟨nd, rfl⟩⟩; (try first | exact ⟨rfl, _, World.drewN_drewN _ _ _⟩ | exact ⟨rfl, _, Eq.trans (World.drewN_drewN _ _ _) (congrArg (World.drewN _) (Nat.add_assoc _ _ _))⟩)) | (go_at_call 44; (with_reducible refine (cellarlaw2_num.calls t467 t477 _ A36.out).mono ?_); rintro e w' ⟨rfl, ⟨nd, rfl⟩⟩; (try first | exact ⟨rfl, _, World.drewN_drewN _ _ _⟩ | exact ⟨rfl, _, Eq.trans (World.drewN_drewN _ _ _) (congrArg (World.drewN _) (Nat.add_assoc _ _ _))⟩)) | (go_at_call 44; (with_reducible refine (cellarlaw2_num.calls t470 t478 _ A37.out).mono ?_); rintro e w' ⟨rfl, ⟨nd, rfl⟩⟩; (try first | exact ⟨rfl, _, World.drewN_drewN _ _ _⟩ | exact ⟨rfl, _, Eq.trans (World.drewN_drewN _ _ _) (congrArg (World.drewN _) (Nat.add_assoc _ _ _))⟩)) | (go_at_call 44; (with_reducible refine (cellarlaw2_num.calls t473 t479 _ A38.out).mono ?_); rintro e w' ⟨rfl, ⟨nd, rfl⟩⟩; (try first | exact ⟨rfl, _, World.drewN_drewN _ _ _⟩ | exact ⟨rfl, _, Eq.trans (World.drewN_drewN _ _ _) (congrArg (World.drewN _) (Nat.add_assoc _ _ _))⟩))))
                     go_meet
                     case rel => exact ⟨_, (true), (by first | rfl | (simp; done) | (simp [*]; done)), H', ⟨by have := HK1.out; have := HK2.out; have := HK3.out; have := HJ20.out; first | omega | exact Nat.le_refl _⟩, ⟨by (with_reducible repeat (first | apply Kd.R_alloc | apply Kd.R_drewN | apply Kd.R_drew)); exact HO_5.out⟩, ⟨by (with_reducible repeat (first | refine blk_drewN ?_ _ | refine blk_drew ?_ | refine blk_alloc ?_ _)); exact BK445.out⟩, ⟨by repeat (first | (with_reducible first | exact HB.out | apply below_alloc | apply pw_below_drewN | apply below_drew1 | refine below_set ?_ GE445.out) | exact HB.out)⟩⟩
                   ·rw [if_neg c40] at H
                    have c40b0 : ((wrap64 ((wrap64 ((wrap64 ((wrap64 ((wrap64 (t457 + t460)) + t463)) + t466)) + t469)) + t472)) == 0) = false := beq_eq_false_iff_ne.mpr c40
                    have c40b1 : ((wrap64 ((wrap64 ((wrap64 ((wrap64 ((wrap64 (t457 + t460)) + t463)) + t466)) + t469)) + t472)) != 0) = true := bne_iff_ne.mpr c40
                    have H' := Aside0.mk H
                    clear H
                    go_wp2_with (first | (go_at_call 44; (with_reducible refine (cellarlaw2_num.calls t458 t474 _ A33.out).mono ?_); rintro e w' ⟨rfl, ⟨nd, rfl⟩⟩; (try first | exact ⟨rfl, _, World.drewN_drewN _ _ _⟩ | exact ⟨rfl, _, Eq.trans (World.drewN_drewN _ _ _) (congrArg (World.drewN _) (Nat.add_assoc _ _ _))⟩)) | (go_at_call 44; (with_reducible refine (cellarlaw2_num.calls t461 t475 _ A34.out).mono ?_); rintro e w' ⟨rfl, ⟨nd, rfl⟩⟩; (try first | exact ⟨rfl, _, World.drewN_drewN _ _ _⟩ | exact ⟨rfl, _, Eq.trans (World.drewN_drewN _ _ _) (congrArg (World.drewN _) (Nat.add_assoc _ _ _))⟩)) | (go_at_call 44; (with_reducible refine (cellarlaw2_num.calls t464 t476 _ A35.out).mono ?_); rintro e w' ⟨rfl, ⟨nd, rfl⟩⟩; (try first | exact ⟨rfl, _, World.drewN_drewN _ _ _⟩ | exact ⟨rfl, _, Eq.trans (World.drewN_drewN _ _ _) (congrArg (World.drewN _) (Nat.add_assoc _ _ _))⟩)) | (go_at_call 44; (with_reducible refine (cellarlaw2_num.calls t467 t477 _ A36.out).mono ?_); rintro e w' ⟨rfl, ⟨nd, rfl⟩⟩; (try first | exact ⟨rfl, _, World.drewN_drewN _ _ _⟩ | exact ⟨rfl, _, Eq.trans (World.drewN_drewN _ _ _) (congrArg (World.drewN _) (Nat.add_assoc _ _ _))⟩)) | (go_at_call 44; (with_reducible refine (cellarlaw2_num.calls t470 t478 _ A37.out).mono ?_); rintro e w' ⟨rfl, ⟨nd, rfl⟩⟩; (try first | exact ⟨rfl, _, World.drewN_drewN _ _ _⟩ | exact ⟨rfl, _, Eq.trans (World.drewN_drewN _ _ _) (congrArg (World.drewN _) (Nat.add_assoc _ _ _))⟩)) | (go_at_call 44; (with_reducible refine (cellarlaw2_num.calls t473 t479 _ A38.out).mono ?_); rintro e w' ⟨rfl, ⟨nd, rfl⟩⟩; (try first | exact ⟨rfl, _, World.drewN_drewN _ _ _⟩ | exact ⟨rfl, _, Eq.trans (World.drewN_drewN _ _ _) (congrArg (World.drewN _) (Nat.add_assoc _ _ _))⟩)))
                    repeat (go_quiet (first | (go_at_call 44; (with_reducible refine (cellarlaw2_num.calls t458 t474 _ A33.out).mono ?_); rintro e w' ⟨rfl, ⟨nd, rfl⟩⟩; (try first | exact ⟨rfl, _, World.drewN_drewN _ _ _⟩ | exact ⟨rfl, _, Eq.trans (World.drewN_drewN _ _ _) (congrArg (World.drewN _) (Nat.add_assoc _ _ _))⟩)) | (go_at_call 44; (with_reducible refine (cellarlaw2_num.calls t461 t475 _ A34.out).mono ?_); rintro e w' ⟨rfl, ⟨nd, rfl⟩⟩; (try first | exact ⟨rfl, _, World.drewN_drewN _ _ _⟩ | exact ⟨rfl, _, Eq.trans (World.drewN_drewN _ _ _) (congrArg (World.drewN _) (Nat.add_assoc _ _ _))⟩)) | (go_at_call 44; (with_reducible refine (cellarlaw2_num.calls t464 t476 _ A35.out).mono ?_); rintro e w' ⟨rfl, ⟨nd, rfl⟩⟩; (try first | exact ⟨rfl, _, World.drewN_drewN _ _ _⟩ | exact ⟨rfl, _, Eq.trans (World.drewN_drewN _ _ _) (congrArg (World.drewN _) (Nat.add_assoc _ _ _))⟩)) | (go_at_call 44; (with_reducible refine (cellarlaw2_num.calls t467 t477 _ A36.out).mono ?_); rintro e w' ⟨rfl, ⟨nd, rfl⟩⟩; (try first | exact ⟨rfl, _, World.drewN_drewN _ _ _⟩ | exact ⟨rfl, _, Eq.trans (World.drewN_drewN _ _ _) (congrArg (World.drewN _) (Nat.add_assoc _ _ _))⟩)) | (go_at_call 44; (with_reducible refine (cellarlaw2_num.calls t470 t478 _ A37.out).mono ?_); rintro e w' ⟨rfl, ⟨nd, rfl⟩⟩; (try first | exact ⟨rfl, _, World.drewN_drewN _ _ _⟩ | exact ⟨rfl, _, Eq.trans (World.drewN_drewN _ _ _) (congrArg (World.drewN _) (Nat.add_assoc _ _ _))⟩)) | (go_at_call 44; (with_reducible refine (cellarlaw2_num.calls t473 t479 _ A38.out).mono ?_); rintro e w' ⟨rfl, ⟨nd, rfl⟩⟩; (try first | exact ⟨rfl, _, World.drewN_drewN _ _ _⟩ | exact ⟨rfl, _, Eq.trans (World.drewN_drewN _ _ _) (congrArg (World.drewN _) (Nat.add_assoc _ _ _))⟩))); try go_wp2_with (first | (go_at_call 44; (with_reducible refine (cellarlaw2_num.calls t458 t474 _ A33.out).mono ?_); rintro e w' ⟨rfl, ⟨nd, rfl⟩⟩; (try first | exact ⟨rfl, _, World.drewN_drewN _ _ _⟩ | exact ⟨rfl, _, Eq.trans (World.drewN_drewN _ _ _) (congrArg (World.drewN _) (Nat.add_assoc _ _ _))⟩)) | (go_at_call 44; (with_reducible refine (cellarlaw2_num.calls t461 t475 _ A34.out).mono ?_); rintro e w' ⟨rfl, ⟨nd, rfl⟩⟩; (try first | exact ⟨rfl, _, World.drewN_drewN _ _ _⟩ | exact ⟨rfl, _, Eq.trans (World.drewN_drewN _ _ _) (congrArg (World.drewN _) (Nat.add_assoc _ _ _))⟩)) | (go_at_call 44; (with_reducible refine (cellarlaw2_num.calls t464 t476 _ A35.out).mono ?_); rintro e w' ⟨rfl, ⟨nd, rfl⟩⟩; (try first | exact ⟨rfl, _, World.drewN_drewN _ _ _⟩ | exact ⟨rfl, _, Eq.trans (World.drewN_drewN _ _ _) (congrArg (World.drewN _) (Nat.add_assoc _ _ _))⟩)) | (go_at_call 44; (with_reducible refine (cellarlaw2_num.calls t467 t477 _ A36.out).mono ?_); rintro e w' ⟨rfl, ⟨nd, rfl⟩⟩; (try first | exact ⟨rfl, _, World.drewN_drewN _ _ _⟩ | exact ⟨rfl, _, Eq.trans (World.drewN_drewN _ _ _) (congrArg (World.drewN _) (Nat.add_assoc _ _ _))⟩)) | (go_at_call 44; (with_reducible refine (cellarlaw2_num.calls t470 t478 _ A37.out).mono ?_); rintro e w' ⟨rfl, ⟨nd, rfl⟩⟩; (try first | exact ⟨rfl, _, World.drewN_drewN _ _ _⟩ | exact ⟨rfl, _, Eq.trans (World.drewN_drewN _ _ _) (congrArg (World.drewN _) (Nat.add_assoc _ _ _))⟩)) | (go_at_call 44; (with_reducible refine (cellarlaw2_num.calls t473 t479 _ A38.out).mono ?_); rintro e w' ⟨rfl, ⟨nd, rfl⟩⟩; (try first | exact ⟨rfl, _, World.drewN_drewN _ _ _⟩ | exact ⟨rfl, _, Eq.trans (World.drewN_drewN _ _ _) (congrArg (World.drewN _) (Nat.add_assoc _ _ _))⟩))))
                    go_meet
                    case rel => exact ⟨_, (true), (by first | rfl | (simp; done) | (simp [*]; done)), H', ⟨by have := HK1.out; have := HK2.out; have := HK3.out; have := HJ20.out; first | omega | exact Nat.le_refl _⟩, ⟨by (with_reducible repeat (first | apply Kd.R_alloc | apply Kd.R_drewN | apply Kd.R_drew)); exact HO_5.out⟩, ⟨by (with_reducible repeat (first | refine blk_drewN ?_ _ | refine blk_drew ?_ | refine blk_alloc ?_ _)); exact BK445.out⟩, ⟨by repeat (first | (with_reducible first | exact HB.out | apply below_alloc | apply pw_below_drewN | apply below_drew1 | refine below_set ?_ GE445.out) | exact HB.out)⟩⟩
                  ·rw [if_neg c39] at H
                   have c39b0 : ((wrap64 ((wrap64 ((wrap64 ((wrap64 ((wrap64 (t474 + t475)) + t476)) + t477)) + t478)) + t479)) == 0) = false := beq_eq_false_iff_ne.mpr c39
                   have c39b1 : ((wrap64 ((wrap64 ((wrap64 ((wrap64 ((wrap64 (t474 + t475)) + t476)) + t477)) + t478)) + t479)) != 0) = true := bne_iff_ne.mpr c39
                   (first | rw [c39b0] | (simp only [i64_w, i32_w]; rw [c39b0]) | skip)
                   have H' := Aside0.mk H
                   clear H
                   go_wp2_with (first | (go_at_call 44; (with_reducible refine (cellarlaw2_num.calls t458 t474 _ A33.out).mono ?_); rintro e w' ⟨rfl, ⟨nd, rfl⟩⟩; (try first | exact ⟨rfl, _, World.drewN_drewN _ _ _⟩ | exact ⟨rfl, _, Eq.trans (World.drewN_drewN _ _ _) (congrArg (World.drewN _) (Nat.add_assoc _ _ _))⟩)) | (go_at_call 44; (with_reducible refine (cellarlaw2_num.calls t461 t475 _ A34.out).mono ?_); rintro e w' ⟨rfl, ⟨nd, rfl⟩⟩; (try first | exact ⟨rfl, _, World.drewN_drewN _ _ _⟩ | exact ⟨rfl, _, Eq.trans (World.drewN_drewN _ _ _) (congrArg (World.drewN _) (Nat.add_assoc _ _ _))⟩)) | (go_at_call 44; (with_reducible refine (cellarlaw2_num.calls t464 t476 _ A35.out).mono ?_); rintro e w' ⟨rfl, ⟨nd, rfl⟩⟩; (try first | exact ⟨rfl, _, World.drewN_drewN _ _ _⟩ | exact ⟨rfl, _, Eq.trans (World.drewN_drewN _ _ _) (congrArg (World.drewN _) (Nat.add_assoc _ _ _))⟩)) | (go_at_call 44; (with_reducible refine (cellarlaw2_num.calls t467 t477 _ A36.out).mono ?_); rintro e w' ⟨rfl, ⟨nd, rfl⟩⟩; (try first | exact ⟨rfl, _, World.drewN_drewN _ _ _⟩ | exact ⟨rfl, _, Eq.trans (World.drewN_drewN _ _ _) (congrArg (World.drewN _) (Nat.add_assoc _ _ _))⟩)) | (go_at_call 44; (with_reducible refine (cellarlaw2_num.calls t470 t478 _ A37.out).mono ?_); rintro e w' ⟨rfl, ⟨nd, rfl⟩⟩; (try first | exact ⟨rfl, _, World.drewN_drewN _ _ _⟩ | exact ⟨rfl, _, Eq.trans (World.drewN_drewN _ _ _) (congrArg (World.drewN _) (Nat.add_assoc _ _ _))⟩)) | (go_at_call 44; (with_reducible refine (cellarlaw2_num.calls t473 t479 _ A38.out).mono ?_); rintro e w' ⟨rfl, ⟨nd, rfl⟩⟩; (try first | exact ⟨rfl, _, World.drewN_drewN _ _ _⟩ | exact ⟨rfl, _, Eq.trans (World.drewN_drewN _ _ _) (congrArg (World.drewN _) (Nat.add_assoc _ _ _))⟩)))
                   repeat (go_quiet (first | (go_at_call 44; (with_reducible refine (cellarlaw2_num.calls t458 t474 _ A33.out).mono ?_); rintro e w' ⟨rfl, ⟨nd, rfl⟩⟩; (try first | exact ⟨rfl, _, World.drewN_drewN _ _ _⟩ | exact ⟨rfl, _, Eq.trans (World.drewN_drewN _ _ _) (congrArg (World.drewN _) (Nat.add_assoc _ _ _))⟩)) | (go_at_call 44; (with_reducible refine (cellarlaw2_num.calls t461 t475 _ A34.out).mono ?_); rintro e w' ⟨rfl, ⟨nd, rfl⟩⟩; (try first | exact ⟨rfl, _, World.drewN_drewN _ _ _⟩ | exact ⟨rfl, _, Eq.trans (World.drewN_drewN _ _ _) (congrArg (World.drewN _) (Nat.add_assoc _ _ _))⟩)) | (go_at_call 44; (with_reducible refine (cellarlaw2_num.calls t464 t476 _ A35.out).mono ?_); rintro e w' ⟨rfl, ⟨nd, rfl⟩⟩; (try first | exact ⟨rfl, _, World.drewN_drewN _ _ _⟩ | exact ⟨rfl, _, Eq.trans (World.drewN_drewN _ _ _) (congrArg (World.drewN _) (Nat.add_assoc _ _ _))⟩)) | (go_at_call 44; (with_reducible refine (cellarlaw2_num.calls t467 t477 _ A36.out).mono ?_); rintro e w' ⟨rfl, ⟨nd, rfl⟩⟩; (try first | exact ⟨rfl, _, World.drewN_drewN _ _ _⟩ | exact ⟨rfl, _, Eq.trans (World.drewN_drewN _ _ _) (congrArg (World.drewN _) (Nat.add_assoc _ _ _))⟩)) | (go_at_call 44; (with_reducible refine (cellarlaw2_num.calls t470 t478 _ A37.out).mono ?_); rintro e w' ⟨rfl, ⟨nd, rfl⟩⟩; (try first | exact ⟨rfl, _, World.drewN_drewN _ _ _⟩ | exact ⟨rfl, _, Eq.trans (World.drewN_drewN _ _ _) (congrArg (World.drewN _) (Nat.add_assoc _ _ _))⟩)) | (go_at_call 44; (with_reducible refine (cellarlaw2_num.calls t473 t479 _ A38.out).mono ?_); rintro e w' ⟨rfl, ⟨nd, rfl⟩⟩; (try first | exact ⟨rfl, _, World.drewN_drewN _ _ _⟩ | exact ⟨rfl, _, Eq.trans (World.drewN_drewN _ _ _) (congrArg (World.drewN _) (Nat.add_assoc _ _ _))⟩))); try go_wp2_with (first | (go_at_call 44; (with_reducible refine (cellarlaw2_num.calls t458 t474 _ A33.out).mono ?_); rintro e w' ⟨rfl, ⟨nd, rfl⟩⟩; (try first | exact ⟨rfl, _, World.drewN_drewN _ _ _⟩ | exact ⟨rfl, _, Eq.trans (World.drewN_drewN _ _ _) (congrArg (World.drewN _) (Nat.add_assoc _ _ _))⟩)) | (go_at_call 44; (with_reducible refine (cellarlaw2_num.calls t461 t475 _ A34.out).mono ?_); rintro e w' ⟨rfl, ⟨nd, rfl⟩⟩; (try first | exact ⟨rfl, _, World.drewN_drewN _ _ _⟩ | exact ⟨rfl, _, Eq.trans (World.drewN_drewN _ _ _) (congrArg (World.drewN _) (Nat.add_assoc _ _ _))⟩)) | (go_at_call 44; (with_reducible refine (cellarlaw2_num.calls t464 t476 _ A35.out).mono ?_); rintro e w' ⟨rfl, ⟨nd, rfl⟩⟩; (try first | exact ⟨rfl, _, World.drewN_drewN _ _ _⟩ | exact ⟨rfl, _, Eq.trans (World.drewN_drewN _ _ _) (congrArg (World.drewN _) (Nat.add_assoc _ _ _))⟩)) | (go_at_call 44; (with_reducible refine (cellarlaw2_num.calls t467 t477 _ A36.out).mono ?_); rintro e w' ⟨rfl, ⟨nd, rfl⟩⟩; (try first | exact ⟨rfl, _, World.drewN_drewN _ _ _⟩ | exact ⟨rfl, _, Eq.trans (World.drewN_drewN _ _ _) (congrArg (World.drewN _) (Nat.add_assoc _ _ _))⟩)) | (go_at_call 44; (with_reducible refine (cellarlaw2_num.calls t470 t478 _ A37.out).mono ?_); rintro e w' ⟨rfl, ⟨nd, rfl⟩⟩; (try first | exact ⟨rfl, _, World.drewN_drewN _ _ _⟩ | exact ⟨rfl, _, Eq.trans (World.drewN_drewN _ _ _) (congrArg (World.drewN _) (Nat.add_assoc _ _ _))⟩)) | (go_at_call 44; (with_reducible refine (cellarlaw2_num.calls t473 t479 _ A38.out).mono ?_); rintro e w' ⟨rfl, ⟨nd, rfl⟩⟩; (try first | exact ⟨rfl, _, World.drewN_drewN _ _ _⟩ | exact ⟨rfl, _, Eq.trans (World.drewN_drewN _ _ _) (congrArg (World.drewN _) (Nat.add_assoc _ _ _))⟩))))
                   go_meet
                   case rel => exact ⟨_, (true), (by first | rfl | (simp; done) | (simp [*]; done)), H', ⟨by have := HK1.out; have := HK2.out; have := HK3.out; have := HJ20.out; first | omega | exact Nat.le_refl _⟩, ⟨by (with_reducible repeat (first | apply Kd.R_alloc | apply Kd.R_drewN | apply Kd.R_drew)); exact HO_5.out⟩, ⟨by (with_reducible repeat (first | refine blk_drewN ?_ _ | refine blk_drew ?_ | refine blk_alloc ?_ _)); exact BK445.out⟩, ⟨by repeat (first | (with_reducible first | exact HB.out | apply below_alloc | apply pw_below_drewN | apply below_drew1 | refine below_set ?_ GE445.out) | exact HB.out)⟩⟩
                 case rest => as_aux_lemma =>
                  clear HC32
                  try clear c1
                  try clear c2
                  try clear p2
                  try clear c3
                  try clear c4
                  try clear p4
                  try clear q4
                  try clear hx4
                  try clear p6
                  try clear c10
                  try clear c10b0
                  try clear c15
                  try clear c15b0
                  try clear c17
                  try clear c17b0
                  try clear c18
                  try clear c18b0
                  try clear c19
                  try clear c19b0
                  try clear c20
                  try clear c20b0
                  try clear c23
                  try clear c25
                  try clear c39
                  try clear c39b0
                  try clear c39b1
                  try clear c40
                  try clear c40b0
                  try clear c40b1
                  try clear c41
                  try clear c41b0
                  try clear c41b1
                  try clear c42
                  try clear c42b0
                  try clear c42b1
                  try clear hcz13_0
                  try clear hcz13_1
                  try clear hcz13_2
                  try clear hcz5_0
                  try clear hcz5_1
                  try clear hcz5_2
                  try clear hcz8_0
                  try clear hcz8_1
                  try clear hcz8_2
                  try clear hfz13_0
                  try clear hfz13_1
                  try clear hfz13_2
                  try clear hfz5_0
                  try clear hfz5_1
                  try clear hfz5_2
                  try clear hfz8_0
                  try clear hfz8_1
                  try clear hfz8_2
                  try clear hx452_0
                  try clear hx453_0
                  try clear p2
                  try clear p4
                  try clear p452
                  try clear p453
                  try clear q4
                  try clear q452
                  try clear q453
                  obtain ⟨kq, x167_31, rfl, HA, HJ31, HO_5, BK445, HB⟩ := hcut
                  cases kq with
                  | zero => exact absurd HA.out (by simp [cellarlaw2_AluLaws.j4])
                  | succ kj31 =>
                   have H := HA.out
                   clear HA
                   simp only [cellarlaw2_AluLaws.j4] at H
                   by_cases c43 : x167_31 = true
                   ·subst c43
                    have H1 : (some false) = some r := by rw [if_pos rfl] at H; exact H
                    clear H
                    have H := H1
                    clear H1
                    obtain rfl := Option.some.inj H
                    go_wp2
                    repeat (go_quiet (fail); try go_wp2)
                    go_ret
                    exact ⟨by first | rfl | (simp [errW_none, errW_some] <;> rfl) | (simp [*, errW_none, errW_some] <;> rfl), by repeat (first | (with_reducible first | exact HB.out | apply below_alloc | apply pw_below_drewN | apply below_drew1 | refine below_set ?_ GE445.out) | exact HB.out)⟩
                   ·replace c43 := Bool.eq_false_iff.mpr c43
                    subst c43
                    have H1 : (if (rd t449 x7_3) = 0 then (cellarlaw2_AluLaws.l2 kj31 x3_1 t448 t449 x6_2 (wrap64 (x7_3 + 1)) l0_0 l0_1 l0_2) else ((alu_Two.f kj31 11 x3_1 (rd t449 x6_2) (rd t449 x7_3)).bind fun bt480 => ((alu_Two.f kj31 12 x3_1 (rd t449 x6_2) (rd t449 x7_3)).bind fun bt483 => ((cellarlaw2_num.f bt480.2.2).bind fun t486 => ((cellarlaw2_num.f bt483.2.2).bind fun t487 => (if (wrap64 (t486 + t487)) = 0 then (if (wrap64 (bt480.2.1 + bt483.2.1)) = 0 then (if (wrap64 ((wrap64 (bt480.1 * (rd t449 x7_3))) + bt483.1)) = (rd t449 x6_2) then (if bt483.1 ≥ (rd t449 x7_3) then (some false) else (if bt483.1 < 0 then (some false) else (cellarlaw2_AluLaws.l2 kj31 x3_1 t448 t449 x6_2 (wrap64 (x7_3 + 1)) l0_0 l0_1 l0_2))) else (some false)) else (some false)) else (some false))))))) = some r := by rw [if_neg (show ¬ (false = true) by decide)] at H; exact H
                    clear H
                    have H := H1
                    clear H1
                    by_cases c44 : (rd t449 x7_3) = 0
                    ·rw [if_pos c44] at H
                     have c44b0 : ((rd t449 x7_3) == 0) = true := beq_iff_eq.mpr c44
                     have c44b1 : ((rd t449 x7_3) != 0) = false := bne_eq_false_iff_eq.mpr c44
                     clear c44
                     have H' := Aside0.mk H
                     clear H
                     go_wp2
                     repeat (go_quiet (fail); try go_wp2)
                     go_roundg kj31
                     case measure => have := HK1.out; have := HK2.out; have := HK3.out; have := HJ20.out; have := HJ31.out; omega
                     case rel => exact ⟨(wrap64 (x7_3 + 1)), (by first | rfl | (simp; done) | (simp [*]; done)), H', ⟨by have := HK1.out; have := HK2.out; have := HK3.out; have := HJ20.out; have := HJ31.out; omega⟩, ⟨by (with_reducible repeat (first | apply Kd.R_alloc | apply Kd.R_drewN | apply Kd.R_drew)); exact HO_5.out⟩, ⟨by (with_reducible repeat (first | refine blk_drewN ?_ _ | refine blk_drew ?_ | refine blk_alloc ?_ _)); exact BK445.out⟩, ⟨by repeat (first | (with_reducible first | exact HB.out | apply below_alloc | apply pw_below_drewN | apply below_drew1 | refine below_set ?_ GE445.out) | exact HB.out)⟩⟩
                    ·rw [if_neg c44] at H
                     have c44b0 : ((rd t449 x7_3) == 0) = false := beq_eq_false_iff_ne.mpr c44
                     have c44b1 : ((rd t449 x7_3) != 0) = true := bne_iff_ne.mpr c44
                     replace H := Option.bind_eq_some_iff.mp H
                     obtain ⟨⟨t480, t481, t482⟩, A450, H⟩ := H
                     replace H : ((alu_Two.f kj31 12 x3_1 (rd t449 x6_2) (rd t449 x7_3)).bind fun bt483 => ((cellarlaw2_num.f t482).bind fun t486 => ((cellarlaw2_num.f bt483.2.2).bind fun t487 => (if (wrap64 (t486 + t487)) = 0 then (if (wrap64 (t481 + bt483.2.1)) = 0 then (if (wrap64 ((wrap64 (t480 * (rd t449 x7_3))) + bt483.1)) = (rd t449 x6_2) then (if bt483.1 ≥ (rd t449 x7_3) then (some false) else (if bt483.1 < 0 then (some false) else (cellarlaw2_AluLaws.l2 kj31 x3_1 t448 t449 x6_2 (wrap64 (x7_3 + 1)) l0_0 l0_1 l0_2))) else (some false)) else (some false)) else (some false))))) = some r := H
                     have A45 := Aside0.mk A450
                     clear A450
                     replace H := Option.bind_eq_some_iff.mp H
                     obtain ⟨⟨t483, t484, t485⟩, A460, H⟩ := H
                     replace H : ((cellarlaw2_num.f t482).bind fun t486 => ((cellarlaw2_num.f t485).bind fun t487 => (if (wrap64 (t486 + t487)) = 0 then (if (wrap64 (t481 + t484)) = 0 then (if (wrap64 ((wrap64 (t480 * (rd t449 x7_3))) + t483)) = (rd t449 x6_2) then (if t483 ≥ (rd t449 x7_3) then (some false) else (if t483 < 0 then (some false) else (cellarlaw2_AluLaws.l2 kj31 x3_1 t448 t449 x6_2 (wrap64 (x7_3 + 1)) l0_0 l0_1 l0_2))) else (some false)) else (some false)) else (some false)))) = some r := H
                     have A46 := Aside0.mk A460
                     clear A460
                     replace H := Option.bind_eq_some_iff.mp H
                     obtain ⟨t486, A470, H⟩ := H
                     replace H : ((cellarlaw2_num.f t485).bind fun t487 => (if (wrap64 (t486 + t487)) = 0 then (if (wrap64 (t481 + t484)) = 0 then (if (wrap64 ((wrap64 (t480 * (rd t449 x7_3))) + t483)) = (rd t449 x6_2) then (if t483 ≥ (rd t449 x7_3) then (some false) else (if t483 < 0 then (some false) else (cellarlaw2_AluLaws.l2 kj31 x3_1 t448 t449 x6_2 (wrap64 (x7_3 + 1)) l0_0 l0_1 l0_2))) else (some false)) else (some false)) else (some false))) = some r := H
                     have A47 := Aside0.mk A470
                     clear A470
                     replace H := Option.bind_eq_some_iff.mp H
                     obtain ⟨t487, A480, H⟩ := H
                     replace H : (if (wrap64 (t486 + t487)) = 0 then (if (wrap64 (t481 + t484)) = 0 then (if (wrap64 ((wrap64 (t480 * (rd t449 x7_3))) + t483)) = (rd t449 x6_2) then (if t483 ≥ (rd t449 x7_3) then (some false) else (if t483 < 0 then (some false) else (cellarlaw2_AluLaws.l2 kj31 x3_1 t448 t449 x6_2 (wrap64 (x7_3 + 1)) l0_0 l0_1 l0_2))) else (some false)) else (some false)) else (some false)) = some r := H
                     have A48 := Aside0.mk A480
                     clear A480
                     by_cases c49 : (wrap64 (t486 + t487)) = 0
                     ·rw [if_pos c49] at H
                      have c49b0 : ((wrap64 (t486 + t487)) == 0) = true := beq_iff_eq.mpr c49
                      have c49b1 : ((wrap64 (t486 + t487)) != 0) = false := bne_eq_false_iff_eq.mpr c49
                      clear c49
                      by_cases c50 : (wrap64 (t481 + t484)) = 0
                      ·rw [if_pos c50] at H
                       have c50b0 : ((wrap64 (t481 + t484)) == 0) = true := beq_iff_eq.mpr c50
                       have c50b1 : ((wrap64 (t481 + t484)) != 0) = false := bne_eq_false_iff_eq.mpr c50
                       clear c50
                       by_cases c51 : (wrap64 ((wrap64 (t480 * (rd t449 x7_3))) + t483)) = (rd t449 x6_2)
                       ·rw [if_pos c51] at H
                        have c51b0 : ((wrap64 ((wrap64 (t480 * (rd t449 x7_3))) + t483)) == (rd t449 x6_2)) = true := beq_iff_eq.mpr c51
                        have c51b1 : ((wrap64 ((wrap64 (t480 * (rd t449 x7_3))) + t483)) != (rd t449 x6_2)) = false := bne_eq_false_iff_eq.mpr c51
                        clear c51
                        by_cases c52 : t483 ≥ (rd t449 x7_3)
                        ·rw [if_pos c52] at H
                         have c52b0 : decide ((rd t449 x7_3) ≤ t483) = true := decide_eq_true c52
                         clear c52
                         obtain rfl := Option.some.inj H
                         go_wp2_with (first | (go_at_call 47; (with_reducible refine (alu_Two.calls kj31 11 x3_1 (rd t449 x6_2) (rd t449 x7_3) t480 t481 t482 _ A45.out).mono ?_); rintro e w' ⟨rfl, ⟨nd, rfl⟩⟩; (try first | exact ⟨rfl, _, World.drewN_drewN _ _ _⟩ | exact ⟨rfl, _, Eq.trans (World.drewN_drewN _ _ _) (congrArg (World.drewN _) (Nat.add_assoc _ _ _))⟩)) | (go_at_call 47; (with_reducible refine (alu_Two.calls kj31 12 x3_1 (rd t449 x6_2) (rd t449 x7_3) t483 t484 t485 _ A46.out).mono ?_); rintro e w' ⟨rfl, ⟨nd, rfl⟩⟩; (try first | exact ⟨rfl, _, World.drewN_drewN _ _ _⟩ | exact ⟨rfl, _, Eq.trans (World.drewN_drewN _ _ _) (congrArg (World.drewN _) (Nat.add_assoc _ _ _))⟩)) | (go_at_call 44; (with_reducible refine (cellarlaw2_num.calls t482 t486 _ A47.out).mono ?_); rintro e w' ⟨rfl, ⟨nd, rfl⟩⟩; (try first | exact ⟨rfl, _, World.drewN_drewN _ _ _⟩ | exact ⟨rfl, _, Eq.trans (World.drewN_drewN _ _ _) (congrArg (World.drewN _) (Nat.add_assoc _ _ _))⟩)) | (go_at_call 44; (with_reducible refine (cellarlaw2_num.calls t485 t487 _ A48.out).mono ?_); rintro e w' ⟨rfl, ⟨nd, rfl⟩⟩; (try first | exact ⟨rfl, _, World.drewN_drewN _ _ _⟩ | exact ⟨rfl, _, Eq.trans (World.drewN_drewN _ _ _) (congrArg (World.drewN _) (Nat.add_assoc _ _ _))⟩)))
                         repeat (go_quiet (first | (go_at_call 47; (with_reducible refine (alu_Two.calls kj31 11 x3_1 (rd t449 x6_2) (rd t449 x7_3) t480 t481 t482 _ A45.out).mono ?_); rintro e w' ⟨rfl, ⟨nd, rfl⟩⟩; (try first | exact ⟨rfl, _, World.drewN_drewN _ _ _⟩ | exact ⟨rfl, _, Eq.trans (World.drewN_drewN _ _ _) (congrArg (World.drewN _) (Nat.add_assoc _ _ _))⟩)) | (go_at_call 47; (with_reducible refine (alu_Two.calls kj31 12 x3_1 (rd t449 x6_2) (rd t449 x7_3) t483 t484 t485 _ A46.out).mono ?_); rintro e w' ⟨rfl, ⟨nd, rfl⟩⟩; (try first | exact ⟨rfl, _, World.drewN_drewN _ _ _⟩ | exact ⟨rfl, _, Eq.trans (World.drewN_drewN _ _ _) (congrArg (World.drewN _) (Nat.add_assoc _ _ _))⟩)) | (go_at_call 44; (with_reducible refine (cellarlaw2_num.calls t482 t486 _ A47.out).mono ?_); rintro e w' ⟨rfl, ⟨nd, rfl⟩⟩; (try first | exact ⟨rfl, _, World.drewN_drewN _ _ _⟩ | exact ⟨rfl, _, Eq.trans (World.drewN_drewN _ _ _) (congrArg (World.drewN _) (Nat.add_assoc _ _ _))⟩)) | (go_at_call 44; (with_reducible refine (cellarlaw2_num.calls t485 t487 _ A48.out).mono ?_); rintro e w' ⟨rfl, ⟨nd, rfl⟩⟩; (try first | exact ⟨rfl, _, World.drewN_drewN _ _ _⟩ | exact ⟨rfl, _, Eq.trans (World.drewN_drewN _ _ _) (congrArg (World.drewN _) (Nat.add_assoc _ _ _))⟩))); try go_wp2_with (first | (go_at_call 47; (with_reducible refine (alu_Two.calls kj31 11 x3_1 (rd t449 x6_2) (rd t449 x7_3) t480 t481 t482 _ A45.out).mono ?_); rintro e w' ⟨rfl, ⟨nd, rfl⟩⟩; (try first | exact ⟨rfl, _, World.drewN_drewN _ _ _⟩ | exact ⟨rfl, _, Eq.trans (World.drewN_drewN _ _ _) (congrArg (World.drewN _) (Nat.add_assoc _ _ _))⟩)) | (go_at_call 47; (with_reducible refine (alu_Two.calls kj31 12 x3_1 (rd t449 x6_2) (rd t449 x7_3) t483 t484 t485 _ A46.out).mono ?_); rintro e w' ⟨rfl, ⟨nd, rfl⟩⟩; (try first | exact ⟨rfl, _, World.drewN_drewN _ _ _⟩ | exact ⟨rfl, _, Eq.trans (World.drewN_drewN _ _ _) (congrArg (World.drewN _) (Nat.add_assoc _ _ _))⟩)) | (go_at_call 44; (with_reducible refine (cellarlaw2_num.calls t482 t486 _ A47.out).mono ?_); rintro e w' ⟨rfl, ⟨nd, rfl⟩⟩; (try first | exact ⟨rfl, _, World.drewN_drewN _ _ _⟩ | exact ⟨rfl, _, Eq.trans (World.drewN_drewN _ _ _) (congrArg (World.drewN _) (Nat.add_assoc _ _ _))⟩)) | (go_at_call 44; (with_reducible refine (cellarlaw2_num.calls t485 t487 _ A48.out).mono ?_); rintro e w' ⟨rfl, ⟨nd, rfl⟩⟩; (try first | exact ⟨rfl, _, World.drewN_drewN _ _ _⟩ | exact ⟨rfl, _, Eq.trans (World.drewN_drewN _ _ _) (congrArg (World.drewN _) (Nat.add_assoc _ _ _))⟩))))
                         go_ret
                         exact ⟨by first | rfl | (simp [errW_none, errW_some] <;> rfl) | (simp [*, errW_none, errW_some] <;> rfl), by repeat (first | (with_reducible first | exact HB.out | apply below_alloc | apply pw_below_drewN | apply below_drew1 | refine below_set ?_ GE445.out) | exact HB.out)⟩
                        ·rw [if_neg c52] at H
                         have c52b0 : decide ((rd t449 x7_3) ≤ t483) = false := decide_eq_false c52
                         clear c52
                         by_cases c53 : t483 < 0
                         ·rw [if_pos c53] at H
                          have c53b0 : decide (t483 < 0) = true := decide_eq_true c53
                          clear c53
                          obtain rfl := Option.some.inj H
                          go_wp2_with (first | (go_at_call 47; (with_reducible refine (alu_Two.calls kj31 11 x3_1 (rd t449 x6_2) (rd t449 x7_3) t480 t481 t482 _ A45.out).mono ?_); rintro e w' ⟨rfl, ⟨nd, rfl⟩⟩; (try first | exact ⟨rfl, _, World.drewN_drewN _ _ _⟩ | exact ⟨rfl, _, Eq.trans (World.drewN_drewN _ _ _) (congrArg (World.drewN _) (Nat.add_assoc _ _ _))⟩)) | (go_at_call 47; (with_reducible refine (alu_Two.calls kj31 12 x3_1 (rd t449 x6_2) (rd t449 x7_3) t483 t484 t485 _ A46.out).mono ?_); rintro e w' ⟨rfl, ⟨nd, rfl⟩⟩; (try first | exact ⟨rfl, _, World.drewN_drewN _ _ _⟩ | exact ⟨rfl, _, Eq.trans (World.drewN_drewN _ _ _) (congrArg (World.drewN _) (Nat.add_assoc _ _ _))⟩)) | (go_at_call 44; (with_reducible refine (cellarlaw2_num.calls t482 t486 _ A47.out).mono ?_); rintro e w' ⟨rfl, ⟨nd, rfl⟩⟩; (try first | exact ⟨rfl, _, World.drewN_drewN _ _ _⟩ | exact ⟨rfl, _, Eq.trans (World.drewN_drewN _ _ _) (congrArg (World.drewN _) (Nat.add_assoc _ _ _))⟩)) | (go_at_call 44; (with_reducible refine (cellarlaw2_num.calls t485 t487 _ A48.out).mono ?_); rintro e w' ⟨rfl, ⟨nd, rfl⟩⟩; (try first | exact ⟨rfl, _, World.drewN_drewN _ _ _⟩ | exact ⟨rfl, _, Eq.trans (World.drewN_drewN _ _ _) (congrArg (World.drewN _) (Nat.add_assoc _ _ _))⟩)))
                          repeat (go_quiet (first | (go_at_call 47; (with_reducible refine (alu_Two.calls kj31 11 x3_1 (rd t449 x6_2) (rd t449 x7_3) t480 t481 t482 _ A45.out).mono ?_); rintro e w' ⟨rfl, ⟨nd, rfl⟩⟩; (try first | exact ⟨rfl, _, World.drewN_drewN _ _ _⟩ | exact ⟨rfl, _, Eq.trans (World.drewN_drewN _ _ _) (congrArg (World.drewN _) (Nat.add_assoc _ _ _))⟩)) | (go_at_call 47; (with_reducible refine (alu_Two.calls kj31 12 x3_1 (rd t449 x6_2) (rd t449 x7_3) t483 t484 t485 _ A46.out).mono ?_); rintro e w' ⟨rfl, ⟨nd, rfl⟩⟩; (try first | exact ⟨rfl, _, World.drewN_drewN _ _ _⟩ | exact ⟨rfl, _, Eq.trans (World.drewN_drewN _ _ _) (congrArg (World.drewN _) (Nat.add_assoc _ _ _))⟩)) | (go_at_call 44; (with_reducible refine (cellarlaw2_num.calls t482 t486 _ A47.out).mono ?_); rintro e w' ⟨rfl, ⟨nd, rfl⟩⟩; (try first | exact ⟨rfl, _, World.drewN_drewN _ _ _⟩ | exact ⟨rfl, _, Eq.trans (World.drewN_drewN _ _ _) (congrArg (World.drewN _) (Nat.add_assoc _ _ _))⟩)) | (go_at_call 44; (with_reducible refine (cellarlaw2_num.calls t485 t487 _ A48.out).mono ?_); rintro e w' ⟨rfl, ⟨nd, rfl⟩⟩; (try first | exact ⟨rfl, _, World.drewN_drewN _ _ _⟩ | exact ⟨rfl, _, Eq.trans (World.drewN_drewN _ _ _) (congrArg (World.drewN _) (Nat.add_assoc _ _ _))⟩))); try go_wp2_with (first | (go_at_call 47; (with_reducible refine (alu_Two.calls kj31 11 x3_1 (rd t449 x6_2) (rd t449 x7_3) t480 t481 t482 _ A45.out).mono ?_); rintro e w' ⟨rfl, ⟨nd, rfl⟩⟩; (try first | exact ⟨rfl, _, World.drewN_drewN _ _ _⟩ | exact ⟨rfl, _, Eq.trans (World.drewN_drewN _ _ _) (congrArg (World.drewN _) (Nat.add_assoc _ _ _))⟩)) | (go_at_call 47; (with_reducible refine (alu_Two.calls kj31 12 x3_1 (rd t449 x6_2) (rd t449 x7_3) t483 t484 t485 _ A46.out).mono ?_); rintro e w' ⟨rfl, ⟨nd, rfl⟩⟩; (try first | exact ⟨rfl, _, World.drewN_drewN _ _ _⟩ | exact ⟨rfl, _, Eq.trans (World.drewN_drewN _ _ _) (congrArg (World.drewN _) (Nat.add_assoc _ _ _))⟩)) | (go_at_call 44; (with_reducible refine (cellarlaw2_num.calls t482 t486 _ A47.out).mono ?_); rintro e w' ⟨rfl, ⟨nd, rfl⟩⟩; (try first | exact ⟨rfl, _, World.drewN_drewN _ _ _⟩ | exact ⟨rfl, _, Eq.trans (World.drewN_drewN _ _ _) (congrArg (World.drewN _) (Nat.add_assoc _ _ _))⟩)) | (go_at_call 44; (with_reducible refine (cellarlaw2_num.calls t485 t487 _ A48.out).mono ?_); rintro e w' ⟨rfl, ⟨nd, rfl⟩⟩; (try first | exact ⟨rfl, _, World.drewN_drewN _ _ _⟩ | exact ⟨rfl, _, Eq.trans (World.drewN_drewN _ _ _) (congrArg (World.drewN _) (Nat.add_assoc _ _ _))⟩))))
                          go_ret
                          exact ⟨by first | rfl | (simp [errW_none, errW_some] <;> rfl) | (simp [*, errW_none, errW_some] <;> rfl), by repeat (first | (with_reducible first | exact HB.out | apply below_alloc | apply pw_below_drewN | apply below_drew1 | refine below_set ?_ GE445.out) | exact HB.out)⟩
                         ·rw [if_neg c53] at H
                          have c53b0 : decide (t483 < 0) = false := decide_eq_false c53
                          clear c53
                          have H' := Aside0.mk H
                          clear H
                          go_wp2_with (first | (go_at_call 47; (with_reducible refine (alu_Two.calls kj31 11 x3_1 (rd t449 x6_2) (rd t449 x7_3) t480 t481 t482 _ A45.out).mono ?_); rintro e w' ⟨rfl, ⟨nd, rfl⟩⟩; (try first | exact ⟨rfl, _, World.drewN_drewN _ _ _⟩ | exact ⟨rfl, _, Eq.trans (World.drewN_drewN _ _ _) (congrArg (World.drewN _) (Nat.add_assoc _ _ _))⟩)) | (go_at_call 47; (with_reducible refine (alu_Two.calls kj31 12 x3_1 (rd t449 x6_2) (rd t449 x7_3) t483 t484 t485 _ A46.out).mono ?_); rintro e w' ⟨rfl, ⟨nd, rfl⟩⟩; (try first | exact ⟨rfl, _, World.drewN_drewN _ _ _⟩ | exact ⟨rfl, _, Eq.trans (World.drewN_drewN _ _ _) (congrArg (World.drewN _) (Nat.add_assoc _ _ _))⟩)) | (go_at_call 44; (with_reducible refine (cellarlaw2_num.calls t482 t486 _ A47.out).mono ?_); rintro e w' ⟨rfl, ⟨nd, rfl⟩⟩; (try first | exact ⟨rfl, _, World.drewN_drewN _ _ _⟩ | exact ⟨rfl, _, Eq.trans (World.drewN_drewN _ _ _) (congrArg (World.drewN _) (Nat.add_assoc _ _ _))⟩)) | (go_at_call 44; (with_reducible refine (cellarlaw2_num.calls t485 t487 _ A48.out).mono ?_); rintro e w' ⟨rfl, ⟨nd, rfl⟩⟩; (try first | exact ⟨rfl, _, World.drewN_drewN _ _ _⟩ | exact ⟨rfl, _, Eq.trans (World.drewN_drewN _ _ _) (congrArg (World.drewN _) (Nat.add_assoc _ _ _))⟩)))
                          repeat (go_quiet (first | (go_at_call 47; (with_reducible refine (alu_Two.calls kj31 11 x3_1 (rd t449 x6_2) (rd t449 x7_3) t480 t481 t482 _ A45.out).mono ?_); rintro e w' ⟨rfl, ⟨nd, rfl⟩⟩; (try first | exact ⟨rfl, _, World.drewN_drewN _ _ _⟩ | exact ⟨rfl, _, Eq.trans (World.drewN_drewN _ _ _) (congrArg (World.drewN _) (Nat.add_assoc _ _ _))⟩)) | (go_at_call 47; (with_reducible refine (alu_Two.calls kj31 12 x3_1 (rd t449 x6_2) (rd t449 x7_3) t483 t484 t485 _ A46.out).mono ?_); rintro e w' ⟨rfl, ⟨nd, rfl⟩⟩; (try first | exact ⟨rfl, _, World.drewN_drewN _ _ _⟩ | exact ⟨rfl, _, Eq.trans (World.drewN_drewN _ _ _) (congrArg (World.drewN _) (Nat.add_assoc _ _ _))⟩)) | (go_at_call 44; (with_reducible refine (cellarlaw2_num.calls t482 t486 _ A47.out).mono ?_); rintro e w' ⟨rfl, ⟨nd, rfl⟩⟩; (try first | exact ⟨rfl, _, World.drewN_drewN _ _ _⟩ | exact ⟨rfl, _, Eq.trans (World.drewN_drewN _ _ _) (congrArg (World.drewN _) (Nat.add_assoc _ _ _))⟩)) | (go_at_call 44; (with_reducible refine (cellarlaw2_num.calls t485 t487 _ A48.out).mono ?_); rintro e w' ⟨rfl, ⟨nd, rfl⟩⟩; (try first | exact ⟨rfl, _, World.drewN_drewN _ _ _⟩ | exact ⟨rfl, _, Eq.trans (World.drewN_drewN _ _ _) (congrArg (World.drewN _) (Nat.add_assoc _ _ _))⟩))); try go_wp2_with (first | (go_at_call 47; (with_reducible refine (alu_Two.calls kj31 11 x3_1 (rd t449 x6_2) (rd t449 x7_3) t480 t481 t482 _ A45.out).mono ?_); rintro e w' ⟨rfl, ⟨nd, rfl⟩⟩; (try first | exact ⟨rfl, _, World.drewN_drewN _ _ _⟩ | exact ⟨rfl, _, Eq.trans (World.drewN_drewN _ _ _) (congrArg (World.drewN _) (Nat.add_assoc _ _ _))⟩)) | (go_at_call 47; (with_reducible refine (alu_Two.calls kj31 12 x3_1 (rd t449 x6_2) (rd t449 x7_3) t483 t484 t485 _ A46.out).mono ?_); rintro e w' ⟨rfl, ⟨nd, rfl⟩⟩; (try first | exact ⟨rfl, _, World.drewN_drewN _ _ _⟩ | exact ⟨rfl, _, Eq.trans (World.drewN_drewN _ _ _) (congrArg (World.drewN _) (Nat.add_assoc _ _ _))⟩)) | (go_at_call 44; (with_reducible refine (cellarlaw2_num.calls t482 t486 _ A47.out).mono ?_); rintro e w' ⟨rfl, ⟨nd, rfl⟩⟩; (try first | exact ⟨rfl, _, World.drewN_drewN _ _ _⟩ | exact ⟨rfl, _, Eq.trans (World.drewN_drewN _ _ _) (congrArg (World.drewN _) (Nat.add_assoc _ _ _))⟩)) | (go_at_call 44; (with_reducible refine (cellarlaw2_num.calls t485 t487 _ A48.out).mono ?_); rintro e w' ⟨rfl, ⟨nd, rfl⟩⟩; (try first | exact ⟨rfl, _, World.drewN_drewN _ _ _⟩ | exact ⟨rfl, _, Eq.trans (World.drewN_drewN _ _ _) (congrArg (World.drewN _) (Nat.add_assoc _ _ _))⟩))))
                          go_roundg kj31
                          case measure => have := HK1.out; have := HK2.out; have := HK3.out; have := HJ20.out; have := HJ31.out; omega
                          case rel => exact ⟨(wrap64 (x7_3 + 1)), (by first | rfl | (simp; done) | (simp [*]; done)), H', ⟨by have := HK1.out; have := HK2.out; have := HK3.out; have := HJ20.out; have := HJ31.out; omega⟩, ⟨by (with_reducible repeat (first | apply Kd.R_alloc | apply Kd.R_drewN | apply Kd.R_drew)); exact HO_5.out⟩, ⟨by (with_reducible repeat (first | refine blk_drewN ?_ _ | refine blk_drew ?_ | refine blk_alloc ?_ _)); exact BK445.out⟩, ⟨by repeat (first | (with_reducible first | exact HB.out | apply below_alloc | apply pw_below_drewN | apply below_drew1 | refine below_set ?_ GE445.out) | exact HB.out)⟩⟩
                       ·rw [if_neg c51] at H
                        have c51b0 : ((wrap64 ((wrap64 (t480 * (rd t449 x7_3))) + t483)) == (rd t449 x6_2)) = false := beq_eq_false_iff_ne.mpr c51
                        have c51b1 : ((wrap64 ((wrap64 (t480 * (rd t449 x7_3))) + t483)) != (rd t449 x6_2)) = true := bne_iff_ne.mpr c51
                        obtain rfl := Option.some.inj H
                        go_wp2_with (first | (go_at_call 47; (with_reducible refine (alu_Two.calls kj31 11 x3_1 (rd t449 x6_2) (rd t449 x7_3) t480 t481 t482 _ A45.out).mono ?_); rintro e w' ⟨rfl, ⟨nd, rfl⟩⟩; (try first | exact ⟨rfl, _, World.drewN_drewN _ _ _⟩ | exact ⟨rfl, _, Eq.trans (World.drewN_drewN _ _ _) (congrArg (World.drewN _) (Nat.add_assoc _ _ _))⟩)) | (go_at_call 47; (with_reducible refine (alu_Two.calls kj31 12 x3_1 (rd t449 x6_2) (rd t449 x7_3) t483 t484 t485 _ A46.out).mono ?_); rintro e w' ⟨rfl, ⟨nd, rfl⟩⟩; (try first | exact ⟨rfl, _, World.drewN_drewN _ _ _⟩ | exact ⟨rfl, _, Eq.trans (World.drewN_drewN _ _ _) (congrArg (World.drewN _) (Nat.add_assoc _ _ _))⟩)) | (go_at_call 44; (with_reducible refine (cellarlaw2_num.calls t482 t486 _ A47.out).mono ?_); rintro e w' ⟨rfl, ⟨nd, rfl⟩⟩; (try first | exact ⟨rfl, _, World.drewN_drewN _ _ _⟩ | exact ⟨rfl, _, Eq.trans (World.drewN_drewN _ _ _) (congrArg (World.drewN _) (Nat.add_assoc _ _ _))⟩)) | (go_at_call 44; (with_reducible refine (cellarlaw2_num.calls t485 t487 _ A48.out).mono ?_); rintro e w' ⟨rfl, ⟨nd, rfl⟩⟩; (try first | exact ⟨rfl, _, World.drewN_drewN _ _ _⟩ | exact ⟨rfl, _, Eq.trans (World.drewN_drewN _ _ _) (congrArg (World.drewN _) (Nat.add_assoc _ _ _))⟩)))
                        repeat (go_quiet (first | (go_at_call 47; (with_reducible refine (alu_Two.calls kj31 11 x3_1 (rd t449 x6_2) (rd t449 x7_3) t480 t481 t482 _ A45.out).mono ?_); rintro e w' ⟨rfl, ⟨nd, rfl⟩⟩; (try first | exact ⟨rfl, _, World.drewN_drewN _ _ _⟩ | exact ⟨rfl, _, Eq.trans (World.drewN_drewN _ _ _) (congrArg (World.drewN _) (Nat.add_assoc _ _ _))⟩)) | (go_at_call 47; (with_reducible refine (alu_Two.calls kj31 12 x3_1 (rd t449 x6_2) (rd t449 x7_3) t483 t484 t485 _ A46.out).mono ?_); rintro e w' ⟨rfl, ⟨nd, rfl⟩⟩; (try first | exact ⟨rfl, _, World.drewN_drewN _ _ _⟩ | exact ⟨rfl, _, Eq.trans (World.drewN_drewN _ _ _) (congrArg (World.drewN _) (Nat.add_assoc _ _ _))⟩)) | (go_at_call 44; (with_reducible refine (cellarlaw2_num.calls t482 t486 _ A47.out).mono ?_); rintro e w' ⟨rfl, ⟨nd, rfl⟩⟩; (try first | exact ⟨rfl, _, World.drewN_drewN _ _ _⟩ | exact ⟨rfl, _, Eq.trans (World.drewN_drewN _ _ _) (congrArg (World.drewN _) (Nat.add_assoc _ _ _))⟩)) | (go_at_call 44; (with_reducible refine (cellarlaw2_num.calls t485 t487 _ A48.out).mono ?_); rintro e w' ⟨rfl, ⟨nd, rfl⟩⟩; (try first | exact ⟨rfl, _, World.drewN_drewN _ _ _⟩ | exact ⟨rfl, _, Eq.trans (World.drewN_drewN _ _ _) (congrArg (World.drewN _) (Nat.add_assoc _ _ _))⟩))); try go_wp2_with (first | (go_at_call 47; (with_reducible refine (alu_Two.calls kj31 11 x3_1 (rd t449 x6_2) (rd t449 x7_3) t480 t481 t482 _ A45.out).mono ?_); rintro e w' ⟨rfl, ⟨nd, rfl⟩⟩; (try first | exact ⟨rfl, _, World.drewN_drewN _ _ _⟩ | exact ⟨rfl, _, Eq.trans (World.drewN_drewN _ _ _) (congrArg (World.drewN _) (Nat.add_assoc _ _ _))⟩)) | (go_at_call 47; (with_reducible refine (alu_Two.calls kj31 12 x3_1 (rd t449 x6_2) (rd t449 x7_3) t483 t484 t485 _ A46.out).mono ?_); rintro e w' ⟨rfl, ⟨nd, rfl⟩⟩; (try first | exact ⟨rfl, _, World.drewN_drewN _ _ _⟩ | exact ⟨rfl, _, Eq.trans (World.drewN_drewN _ _ _) (congrArg (World.drewN _) (Nat.add_assoc _ _ _))⟩)) | (go_at_call 44; (with_reducible refine (cellarlaw2_num.calls t482 t486 _ A47.out).mono ?_); rintro e w' ⟨rfl, ⟨nd, rfl⟩⟩; (try first | exact ⟨rfl, _, World.drewN_drewN _ _ _⟩ | exact ⟨rfl, _, Eq.trans (World.drewN_drewN _ _ _) (congrArg (World.drewN _) (Nat.add_assoc _ _ _))⟩)) | (go_at_call 44; (with_reducible refine (cellarlaw2_num.calls t485 t487 _ A48.out).mono ?_); rintro e w' ⟨rfl, ⟨nd, rfl⟩⟩; (try first | exact ⟨rfl, _, World.drewN_drewN _ _ _⟩ | exact ⟨rfl, _, Eq.trans (World.drewN_drewN _ _ _) (congrArg (World.drewN _) (Nat.add_assoc _ _ _))⟩))))
                        go_ret
                        exact ⟨by first | rfl | (simp [errW_none, errW_some] <;> rfl) | (simp [*, errW_none, errW_some] <;> rfl), by repeat (first | (with_reducible first | exact HB.out | apply below_alloc | apply pw_below_drewN | apply below_drew1 | refine below_set ?_ GE445.out) | exact HB.out)⟩
                      ·rw [if_neg c50] at H
                       have c50b0 : ((wrap64 (t481 + t484)) == 0) = false := beq_eq_false_iff_ne.mpr c50
                       have c50b1 : ((wrap64 (t481 + t484)) != 0) = true := bne_iff_ne.mpr c50
                       obtain rfl := Option.some.inj H
                       go_wp2_with (first | (go_at_call 47; (with_reducible refine (alu_Two.calls kj31 11 x3_1 (rd t449 x6_2) (rd t449 x7_3) t480 t481 t482 _ A45.out).mono ?_); rintro e w' ⟨rfl, ⟨nd, rfl⟩⟩; (try first | exact ⟨rfl, _, World.drewN_drewN _ _ _⟩ | exact ⟨rfl, _, Eq.trans (World.drewN_drewN _ _ _) (congrArg (World.drewN _) (Nat.add_assoc _ _ _))⟩)) | (go_at_call 47; (with_reducible refine (alu_Two.calls kj31 12 x3_1 (rd t449 x6_2) (rd t449 x7_3) t483 t484 t485 _ A46.out).mono ?_); rintro e w' ⟨rfl, ⟨nd, rfl⟩⟩; (try first | exact ⟨rfl, _, World.drewN_drewN _ _ _⟩ | exact ⟨rfl, _, Eq.trans (World.drewN_drewN _ _ _) (congrArg (World.drewN _) (Nat.add_assoc _ _ _))⟩)) | (go_at_call 44; (with_reducible refine (cellarlaw2_num.calls t482 t486 _ A47.out).mono ?_); rintro e w' ⟨rfl, ⟨nd, rfl⟩⟩; (try first | exact ⟨rfl, _, World.drewN_drewN _ _ _⟩ | exact ⟨rfl, _, Eq.trans (World.drewN_drewN _ _ _) (congrArg (World.drewN _) (Nat.add_assoc _ _ _))⟩)) | (go_at_call 44; (with_reducible refine (cellarlaw2_num.calls t485 t487 _ A48.out).mono ?_); rintro e w' ⟨rfl, ⟨nd, rfl⟩⟩; (try first | exact ⟨rfl, _, World.drewN_drewN _ _ _⟩ | exact ⟨rfl, _, Eq.trans (World.drewN_drewN _ _ _) (congrArg (World.drewN _) (Nat.add_assoc _ _ _))⟩)))
                       repeat (go_quiet (first | (go_at_call 47; (with_reducible refine (alu_Two.calls kj31 11 x3_1 (rd t449 x6_2) (rd t449 x7_3) t480 t481 t482 _ A45.out).mono ?_); rintro e w' ⟨rfl, ⟨nd, rfl⟩⟩; (try first | exact ⟨rfl, _, World.drewN_drewN _ _ _⟩ | exact ⟨rfl, _, Eq.trans (World.drewN_drewN _ _ _) (congrArg (World.drewN _) (Nat.add_assoc _ _ _))⟩)) | (go_at_call 47; (with_reducible refine (alu_Two.calls kj31 12 x3_1 (rd t449 x6_2) (rd t449 x7_3) t483 t484 t485 _ A46.out).mono ?_); rintro e w' ⟨rfl, ⟨nd, rfl⟩⟩; (try first | exact ⟨rfl, _, World.drewN_drewN _ _ _⟩ | exact ⟨rfl, _, Eq.trans (World.drewN_drewN _ _ _) (congrArg (World.drewN _) (Nat.add_assoc _ _ _))⟩)) | (go_at_call 44; (with_reducible refine (cellarlaw2_num.calls t482 t486 _ A47.out).mono ?_); rintro e w' ⟨rfl, ⟨nd, rfl⟩⟩; (try first | exact ⟨rfl, _, World.drewN_drewN _ _ _⟩ | exact ⟨rfl, _, Eq.trans (World.drewN_drewN _ _ _) (congrArg (World.drewN _) (Nat.add_assoc _ _ _))⟩)) | (go_at_call 44; (with_reducible refine (cellarlaw2_num.calls t485 t487 _ A48.out).mono ?_); rintro e w' ⟨rfl, ⟨nd, rfl⟩⟩; (try first | exact ⟨rfl, _, World.drewN_drewN _ _ _⟩ | exact ⟨rfl, _, Eq.trans (World.drewN_drewN _ _ _) (congrArg (World.drewN _) (Nat.add_assoc _ _ _))⟩))); try go_wp2_with (first | (go_at_call 47; (with_reducible refine (alu_Two.calls kj31 11 x3_1 (rd t449 x6_2) (rd t449 x7_3) t480 t481 t482 _ A45.out).mono ?_); rintro e w' ⟨rfl, ⟨nd, rfl⟩⟩; (try first | exact ⟨rfl, _, World.drewN_drewN _ _ _⟩ | exact ⟨rfl, _, Eq.trans (World.drewN_drewN _ _ _) (congrArg (World.drewN _) (Nat.add_assoc _ _ _))⟩)) | (go_at_call 47; (with_reducible refine (alu_Two.calls kj31 12 x3_1 (rd t449 x6_2) (rd t449 x7_3) t483 t484 t485 _ A46.out).mono ?_); rintro e w' ⟨rfl, ⟨nd, rfl⟩⟩; (try first | exact ⟨rfl, _, World.drewN_drewN _ _ _⟩ | exact ⟨rfl, _, Eq.trans (World.drewN_drewN _ _ _) (congrArg (World.drewN _) (Nat.add_assoc _ _ _))⟩)) | (go_at_call 44; (with_reducible refine (cellarlaw2_num.calls t482 t486 _ A47.out).mono ?_); rintro e w' ⟨rfl, ⟨nd, rfl⟩⟩; (try first | exact ⟨rfl, _, World.drewN_drewN _ _ _⟩ | exact ⟨rfl, _, Eq.trans (World.drewN_drewN _ _ _) (congrArg (World.drewN _) (Nat.add_assoc _ _ _))⟩)) | (go_at_call 44; (with_reducible refine (cellarlaw2_num.calls t485 t487 _ A48.out).mono ?_); rintro e w' ⟨rfl, ⟨nd, rfl⟩⟩; (try first | exact ⟨rfl, _, World.drewN_drewN _ _ _⟩ | exact ⟨rfl, _, Eq.trans (World.drewN_drewN _ _ _) (congrArg (World.drewN _) (Nat.add_assoc _ _ _))⟩))))
                       go_ret
                       exact ⟨by first | rfl | (simp [errW_none, errW_some] <;> rfl) | (simp [*, errW_none, errW_some] <;> rfl), by repeat (first | (with_reducible first | exact HB.out | apply below_alloc | apply pw_below_drewN | apply below_drew1 | refine below_set ?_ GE445.out) | exact HB.out)⟩
                     ·rw [if_neg c49] at H
                      have c49b0 : ((wrap64 (t486 + t487)) == 0) = false := beq_eq_false_iff_ne.mpr c49
                      have c49b1 : ((wrap64 (t486 + t487)) != 0) = true := bne_iff_ne.mpr c49
                      obtain rfl := Option.some.inj H
                      go_wp2_with (first | (go_at_call 47; (with_reducible refine (alu_Two.calls kj31 11 x3_1 (rd t449 x6_2) (rd t449 x7_3) t480 t481 t482 _ A45.out).mono ?_); rintro e w' ⟨rfl, ⟨nd, rfl⟩⟩; (try first | exact ⟨rfl, _, World.drewN_drewN _ _ _⟩ | exact ⟨rfl, _, Eq.trans (World.drewN_drewN _ _ _) (congrArg (World.drewN _) (Nat.add_assoc _ _ _))⟩)) | (go_at_call 47; (with_reducible refine (alu_Two.calls kj31 12 x3_1 (rd t449 x6_2) (rd t449 x7_3) t483 t484 t485 _ A46.out).mono ?_); rintro e w' ⟨rfl, ⟨nd, rfl⟩⟩; (try first | exact ⟨rfl, _, World.drewN_drewN _ _ _⟩ | exact ⟨rfl, _, Eq.trans (World.drewN_drewN _ _ _) (congrArg (World.drewN _) (Nat.add_assoc _ _ _))⟩)) | (go_at_call 44; (with_reducible refine (cellarlaw2_num.calls t482 t486 _ A47.out).mono ?_); rintro e w' ⟨rfl, ⟨nd, rfl⟩⟩; (try first | exact ⟨rfl, _, World.drewN_drewN _ _ _⟩ | exact ⟨rfl, _, Eq.trans (World.drewN_drewN _ _ _) (congrArg (World.drewN _) (Nat.add_assoc _ _ _))⟩)) | (go_at_call 44; (with_reducible refine (cellarlaw2_num.calls t485 t487 _ A48.out).mono ?_); rintro e w' ⟨rfl, ⟨nd, rfl⟩⟩; (try first | exact ⟨rfl, _, World.drewN_drewN _ _ _⟩ | exact ⟨rfl, _, Eq.trans (World.drewN_drewN _ _ _) (congrArg (World.drewN _) (Nat.add_assoc _ _ _))⟩)))
                      repeat (go_quiet (first | (go_at_call 47; (with_reducible refine (alu_Two.calls kj31 11 x3_1 (rd t449 x6_2) (rd t449 x7_3) t480 t481 t482 _ A45.out).mono ?_); rintro e w' ⟨rfl, ⟨nd, rfl⟩⟩; (try first | exact ⟨rfl, _, World.drewN_drewN _ _ _⟩ | exact ⟨rfl, _, Eq.trans (World.drewN_drewN _ _ _) (congrArg (World.drewN _) (Nat.add_assoc _ _ _))⟩)) | (go_at_call 47; (with_reducible refine (alu_Two.calls kj31 12 x3_1 (rd t449 x6_2) (rd t449 x7_3) t483 t484 t485 _ A46.out).mono ?_); rintro e w' ⟨rfl, ⟨nd, rfl⟩⟩; (try first | exact ⟨rfl, _, World.drewN_drewN _ _ _⟩ | exact ⟨rfl, _, Eq.trans (World.drewN_drewN _ _ _) (congrArg (World.drewN _) (Nat.add_assoc _ _ _))⟩)) | (go_at_call 44; (with_reducible refine (cellarlaw2_num.calls t482 t486 _ A47.out).mono ?_); rintro e w' ⟨rfl, ⟨nd, rfl⟩⟩; (try first | exact ⟨rfl, _, World.drewN_drewN _ _ _⟩ | exact ⟨rfl, _, Eq.trans (World.drewN_drewN _ _ _) (congrArg (World.drewN _) (Nat.add_assoc _ _ _))⟩)) | (go_at_call 44; (with_reducible refine (cellarlaw2_num.calls t485 t487 _ A48.out).mono ?_); rintro e w' ⟨rfl, ⟨nd, rfl⟩⟩; (try first | exact ⟨rfl, _, World.drewN_drewN _ _ _⟩ | exact ⟨rfl, _, Eq.trans (World.drewN_drewN _ _ _) (congrArg (World.drewN _) (Nat.add_assoc _ _ _))⟩))); try go_wp2_with (first | (go_at_call 47; (with_reducible refine (alu_Two.calls kj31 11 x3_1 (rd t449 x6_2) (rd t449 x7_3) t480 t481 t482 _ A45.out).mono ?_); rintro e w' ⟨rfl, ⟨nd, rfl⟩⟩; (try first | exact ⟨rfl, _, World.drewN_drewN _ _ _⟩ | exact ⟨rfl, _, Eq.trans (World.drewN_drewN _ _ _) (congrArg (World.drewN _) (Nat.add_assoc _ _ _))⟩)) | (go_at_call 47; (with_reducible refine (alu_Two.calls kj31 12 x3_1 (rd t449 x6_2) (rd t449 x7_3) t483 t484 t485 _ A46.out).mono ?_); rintro e w' ⟨rfl, ⟨nd, rfl⟩⟩; (try first | exact ⟨rfl, _, World.drewN_drewN _ _ _⟩ | exact ⟨rfl, _, Eq.trans (World.drewN_drewN _ _ _) (congrArg (World.drewN _) (Nat.add_assoc _ _ _))⟩)) | (go_at_call 44; (with_reducible refine (cellarlaw2_num.calls t482 t486 _ A47.out).mono ?_); rintro e w' ⟨rfl, ⟨nd, rfl⟩⟩; (try first | exact ⟨rfl, _, World.drewN_drewN _ _ _⟩ | exact ⟨rfl, _, Eq.trans (World.drewN_drewN _ _ _) (congrArg (World.drewN _) (Nat.add_assoc _ _ _))⟩)) | (go_at_call 44; (with_reducible refine (cellarlaw2_num.calls t485 t487 _ A48.out).mono ?_); rintro e w' ⟨rfl, ⟨nd, rfl⟩⟩; (try first | exact ⟨rfl, _, World.drewN_drewN _ _ _⟩ | exact ⟨rfl, _, Eq.trans (World.drewN_drewN _ _ _) (congrArg (World.drewN _) (Nat.add_assoc _ _ _))⟩))))
                      go_ret
                      exact ⟨by first | rfl | (simp [errW_none, errW_some] <;> rfl) | (simp [*, errW_none, errW_some] <;> rfl), by repeat (first | (with_reducible first | exact HB.out | apply below_alloc | apply pw_below_drewN | apply below_drew1 | refine below_set ?_ GE445.out) | exact HB.out)⟩
             ·rw [if_neg c20] at H
              exact absurd H (by simp)
            ·rw [if_neg c19] at H
             exact absurd H (by simp)
           ·rw [if_neg c18] at H
            exact absurd H (by simp)
          ·rw [if_neg c17] at H
           have c17b0 : decide (x7_3 < (t449.length : Int)) = false := decide_eq_false c17
           clear c17
           have H' := Aside0.mk H
           clear H
           go_wp2
           repeat (go_quiet (fail); try go_wp2)
           go_roundg k3
           case measure => have := HK1.out; have := HK2.out; have := HK3.out; omega
           case rel => exact ⟨(wrap64 (x6_2 + 1)), (by first | rfl | (simp; done) | (simp [*]; done)), H', ⟨by have := HK1.out; have := HK2.out; have := HK3.out; omega⟩, ⟨by (with_reducible repeat (first | apply Kd.R_alloc | apply Kd.R_drewN | apply Kd.R_drew)); exact HO_5.out⟩, ⟨by (with_reducible repeat (first | refine blk_drewN ?_ _ | refine blk_drew ?_ | refine blk_alloc ?_ _)); exact BK445.out⟩, ⟨by repeat (first | (with_reducible first | exact HB.out | apply below_alloc | apply pw_below_drewN | apply below_drew1 | refine below_set ?_ GE445.out) | exact HB.out)⟩⟩
       ·rw [if_neg c15] at H
        have c15b0 : decide (x6_2 < (t449.length : Int)) = false := decide_eq_false c15
        clear c15
        have H' := Aside0.mk H
        clear H
        obtain ⟨Ao54, co54, eo54⟩ := Kd.R_slice HO_5.out
        subst eo54
        go_wp2
        repeat (go_quiet (fail); try go_wp2)
        go_roundg k2
        case measure => have := HK1.out; have := HK2.out; omega
        case rel => exact ⟨(wrap64 (x3_1 + 2)), (by first | rfl | (simp; done) | (simp [*]; done)), H', ⟨by have := HK1.out; have := HK2.out; omega⟩, ⟨by (with_reducible repeat (first | refine blk_drewN ?_ _ | refine blk_drew ?_ | refine blk_alloc ?_ _)); exact BK445.out⟩, ⟨by repeat (first | (with_reducible first | exact HB.out | apply below_alloc | apply pw_below_drewN | apply below_drew1 | refine below_set ?_ GE445.out) | exact HB.out)⟩⟩
    ·rw [if_neg c10] at H
     have c10b0 : decide (x3_1 ≤ 5) = false := decide_eq_false c10
     clear c10
     replace H := Option.bind_eq_some_iff.mp H
     obtain ⟨t447, A550, H⟩ := H
     replace H : (some t447) = some r := H
     have A55 := Aside0.mk A550
     clear A550
     obtain rfl := Option.some.inj H
     go_wp2_with (first | (go_at_call 45; (with_reducible refine (cellarlaw2_wakes.calls k1  t447 _ A55.out).mono ?_); rintro e w' ⟨rfl, ⟨nd, rfl⟩⟩; (try first | exact ⟨rfl, _, World.drewN_drewN _ _ _⟩ | exact ⟨rfl, _, Eq.trans (World.drewN_drewN _ _ _) (congrArg (World.drewN _) (Nat.add_assoc _ _ _))⟩)))
     repeat (go_quiet (first | (go_at_call 45; (with_reducible refine (cellarlaw2_wakes.calls k1  t447 _ A55.out).mono ?_); rintro e w' ⟨rfl, ⟨nd, rfl⟩⟩; (try first | exact ⟨rfl, _, World.drewN_drewN _ _ _⟩ | exact ⟨rfl, _, Eq.trans (World.drewN_drewN _ _ _) (congrArg (World.drewN _) (Nat.add_assoc _ _ _))⟩))); try go_wp2_with (first | (go_at_call 45; (with_reducible refine (cellarlaw2_wakes.calls k1  t447 _ A55.out).mono ?_); rintro e w' ⟨rfl, ⟨nd, rfl⟩⟩; (try first | exact ⟨rfl, _, World.drewN_drewN _ _ _⟩ | exact ⟨rfl, _, Eq.trans (World.drewN_drewN _ _ _) (congrArg (World.drewN _) (Nat.add_assoc _ _ _))⟩))))
     go_ret
     exact ⟨by first | rfl | (simp [errW_none, errW_some] <;> rfl) | (simp [*, errW_none, errW_some] <;> rfl), by repeat (first | (with_reducible first | exact HB.out | apply below_alloc | apply pw_below_drewN | apply below_drew1 | refine below_set ?_ GE445.out) | exact HB.out)⟩

end Go.Proofs.Ytjhgpankffdnaaa.A
