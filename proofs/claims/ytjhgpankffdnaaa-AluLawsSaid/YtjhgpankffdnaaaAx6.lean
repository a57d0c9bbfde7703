-- Written by this session's own edition of the print.
import Derived.Test.YtjhgpankffdnaaaAx0
import Derived.Test.YtjhgpankffdnaaaAx2
import Derived.Test.YtjhgpankffdnaaaAx5
namespace Go.Proofs.Ytjhgpankffdnaaa.A
open Go.RowKit Go.Proofs.YtjhgpankffdnaaaW.PrintWords Go.Proofs.YtjhgpankffdnaaaW.PrintLast Go.Proofs.YtjhgpankffdnaaaW.PrintMore
attribute [local go_sem] max2_int min2_int max_two min_two max_three min_three max_four min_four   -- for this text's walks alone
set_option linter.unusedVariables false
set_option linter.unusedSimpArgs false

/-! ### cellarref1_truth: function 74 -/
def cellarref1_truth.f (a0 : Bool) : Option (Int) := if a0 = true then (some 1) else (some 0)
set_option maxHeartbeats 8000000 in
set_option maxRecDepth 100000 in
theorem cellarref1_truth.calls (a0 : Bool) (r : Int) (w : World) (h : cellarref1_truth.f a0 = some r) :
  Calls Try.prog 74 #[.bool a0] w fun e w' => e = .returned (.int .i64 r) ∧ Drawn0 w w' := by
 have H : (if a0 = true then (some 1) else (some 0)) = some r := h
 clear h
 by_cases c2 : a0 = true
 ·subst c2
  have H1 : (some 1) = some r := by rw [if_pos rfl] at H; exact H
  clear H
  have H := H1
  clear H1
  obtain rfl := Option.some.inj H
  go_enter Try.func74, Try.ntmps74
  go_wp2
  go_ret
  exact ⟨by first | rfl | (simp; done) | (simp [*]; done), by repeat (first | exact Drawn0.refl _ | apply Drawn0.step)⟩
 ·replace c2 := Bool.eq_false_iff.mpr c2
  subst c2
  have H1 : (some 0) = some r := by rw [if_neg (show ¬ (false = true) by decide)] at H; exact H
  clear H
  have H := H1
  clear H1
  obtain rfl := Option.some.inj H
  go_enter Try.func74, Try.ntmps74
  go_wp2
  go_ret
  exact ⟨by first | rfl | (simp; done) | (simp [*]; done), by repeat (first | exact Drawn0.refl _ | apply Drawn0.step)⟩

/-! ### cellarref1_Two: function 63 -/
mutual
def cellarref1_Two.j0 : Nat → Int → Int → Int → Int → Int → Int → Int → Int → Bool → Option (Int × Int)
 | 0, _, _, _, _, _, _, _, _, _ => none
 | k + 1, x0, x1, x2, x3, x10, x11, x12, x21, x62 => if x62 = true then (if x12 = 0 then (some (0, 6)) else ((cellarref1_Signed.f x1).bind fun t273 => (if t273 = true then (if 0 ≤ (wrap64 (x10 - 1)) then (if x11 = (wrap64 (-(shl .i64 1 (wrap64 (x10 - 1))))) then (cellarref1_Two.j1 k x0 x10 x11 x12 (x12 == (-1))) else (cellarref1_Two.j1 k x0 x10 x11 x12 false)) else (none)) else (cellarref1_Two.j1 k x0 x10 x11 x12 false)))) else (if x21 = 13 then (some (Go.bits .and .i64 x2 x3, 0)) else (if x21 = 14 then (some (Go.bits .or .i64 x2 x3, 0)) else (if x21 = 15 then (some (Go.bits .xor .i64 x2 x3, 0)) else (if x21 = 16 then (cellarref1_Two.j2 k x0 x2 x3 x10 x11 x12 x21 (x21 == 16)) else (cellarref1_Two.j2 k x0 x2 x3 x10 x11 x12 x21 (x21 == 17))))))
def cellarref1_Two.j1 : Nat → Int → Int → Int → Int → Bool → Option (Int × Int)
 | 0, _, _, _, _, _ => none
 | k + 1, x0, x10, x11, x12, x80 => if x80 = true then (some (0, 4)) else (if x0 = 11 then (if x12 = 0 then (none) else ((cellarref1_Wrap.f (wrap64 (Int.tdiv x11 x12)) x10).bind fun t274 => (some (t274, 0)))) else (if x12 = 0 then (none) else ((cellarref1_Wrap.f (Int.tmod x11 x12) x10).bind fun t275 => (some (t275, 0)))))
def cellarref1_Two.j2 : Nat → Int → Int → Int → Int → Int → Int → Int → Bool → Option (Int × Int)
 | 0, _, _, _, _, _, _, _, _ => none
 | k + 1, x0, x2, x3, x10, x11, x12, x21, x108 => if x108 = true then ((cellarref0_Num.f x12 (wrap64 (x10 - 1))).bind fun t276 => (if t276 = true then (if x0 = 16 then (if 0 ≤ x12 then ((cellarref1_Wrap.f (shl .i64 x2 x12) x10).bind fun t277 => (some (t277, 0))) else (none)) else (if 0 ≤ x12 then ((cellarref1_Wrap.f (shr .i64 x11 x12) x10).bind fun t278 => (some (t278, 0))) else (none))) else (some (0, 5)))) else (if x21 = 18 then ((cellarref1_truth.f (x2 == x3)).bind fun t279 => (some (t279, 0))) else ((cellarref1_truth.f (decide (x11 < x12))).bind fun t280 => (some (t280, 0))))
end
def cellarref1_Two.f (k : Nat) (a0 : Int) (a1 : Int) (a2 : Int) (a3 : Int) : Option (Int × Int) := (cellarref1_Width.f k a1).bind fun t263 => ((cellarref1_see.f k a1 a2).bind fun t264 => ((cellarref1_see.f k a1 a3).bind fun t265 => (if a0 = 8 then ((cellarref1_fit.f k a1 (wrap64 (t264 + t265))).bind fun bt266 => (some (bt266.1, bt266.2))) else (if a0 = 9 then ((cellarref1_fit.f k a1 (wrap64 (t264 - t265))).bind fun bt268 => (some (bt268.1, bt268.2))) else (if a0 = 10 then ((cellarref1_Signed.f a1).bind fun t270 => (if t270 = true then ((cellarref1_fit.f k a1 (wrap64 (t264 * t265))).bind fun bt271 => (some (bt271.1, bt271.2))) else (if 0 ≤ t263 then (some (wrap64 (Go.bits .and .u64 (IntKind.u64.wrap ((IntKind.u64.wrap (t264)) * (IntKind.u64.wrap (t265)))) (IntKind.u64.wrap ((shl .u64 1 t263) - 1))), 0)) else (none)))) else (if a0 = 11 then (cellarref1_Two.j0 k a0 a1 a2 a3 t263 t264 t265 a0 (a0 == 11)) else (cellarref1_Two.j0 k a0 a1 a2 a3 t263 t264 t265 a0 (a0 == 12))))))))
theorem cellarref1_Two.mono_l : ∀ k, (∀ y0 y1 y2 y3 y4 y5 y6 y7 y8, LeO (cellarref1_Two.j0 k y0 y1 y2 y3 y4 y5 y6 y7 y8) (cellarref1_Two.j0 (k + 1) y0 y1 y2 y3 y4 y5 y6 y7 y8)) ∧ (∀ y0 y1 y2 y3 y4, LeO (cellarref1_Two.j1 k y0 y1 y2 y3 y4) (cellarref1_Two.j1 (k + 1) y0 y1 y2 y3 y4)) ∧ (∀ y0 y1 y2 y3 y4 y5 y6 y7, LeO (cellarref1_Two.j2 k y0 y1 y2 y3 y4 y5 y6 y7) (cellarref1_Two.j2 (k + 1) y0 y1 y2 y3 y4 y5 y6 y7))
 | 0 => ⟨fun _ _ _ _ _ _ _ _ _ r h => by simp [cellarref1_Two.j0] at h, fun _ _ _ _ _ r h => by simp [cellarref1_Two.j1] at h, fun _ _ _ _ _ _ _ _ r h => by simp [cellarref1_Two.j2] at h⟩
 | k + 1 => by
  obtain ⟨ih0, ih1, ih2⟩ := cellarref1_Two.mono_l k
  refine ⟨?_, ?_, ?_⟩
  ·intro y0 y1 y2 y3 y4 y5 y6 y7 y8
   unfold cellarref1_Two.j0
   repeat' first
   | (with_reducible exact ih0 _ _ _ _ _ _ _ _ _)
   | (with_reducible exact ih1 _ _ _ _ _)
   | (with_reducible exact ih2 _ _ _ _ _ _ _ _)
   | (with_reducible exact cellarref1_Width.mono _ _)
   | (with_reducible exact cellarref1_fit.mono _ _ _)
   | (with_reducible exact cellarref1_see.mono _ _ _)
   | (with_reducible exact LeO.refl _)
   | (with_reducible exact LeO.none _)
   | (with_reducible refine LeO.ite ?_ ?_)
   | (with_reducible refine LeO.bind ?_ (fun _ => ?_))
   | exact ih0 _ _ _ _ _ _ _ _ _
   | exact ih1 _ _ _ _ _
   | exact ih2 _ _ _ _ _ _ _ _
   | exact cellarref1_Width.mono _ _
   | exact cellarref1_fit.mono _ _ _
   | exact cellarref1_see.mono _ _ _
   | exact LeO.none _
   | refine LeO.ite ?_ ?_
   | refine LeO.bind ?_ (fun _ => ?_)
  ·intro y0 y1 y2 y3 y4
   unfold cellarref1_Two.j1
   repeat' first
   | (with_reducible exact ih0 _ _ _ _ _ _ _ _ _)
   | (with_reducible exact ih1 _ _ _ _ _)
   | (with_reducible exact ih2 _ _ _ _ _ _ _ _)
   | (with_reducible exact cellarref1_Width.mono _ _)
   | (with_reducible exact cellarref1_fit.mono _ _ _)
   | (with_reducible exact cellarref1_see.mono _ _ _)
   | (with_reducible exact LeO.refl _)
   | (with_reducible exact LeO.none _)
   | (with_reducible refine LeO.ite ?_ ?_)
   | (with_reducible refine LeO.bind ?_ (fun _ => ?_))
   | exact ih0 _ _ _ _ _ _ _ _ _
   | exact ih1 _ _ _ _ _
   | exact ih2 _ _ _ _ _ _ _ _
   | exact cellarref1_Width.mono _ _
   | exact cellarref1_fit.mono _ _ _
   | exact cellarref1_see.mono _ _ _
   | exact LeO.none _
   | refine LeO.ite ?_ ?_
   | refine LeO.bind ?_ (fun _ => ?_)
  ·intro y0 y1 y2 y3 y4 y5 y6 y7
   unfold cellarref1_Two.j2
   repeat' first
   | (with_reducible exact ih0 _ _ _ _ _ _ _ _ _)
   | (with_reducible exact ih1 _ _ _ _ _)
   | (with_reducible exact ih2 _ _ _ _ _ _ _ _)
   | (with_reducible exact cellarref1_Width.mono _ _)
   | (with_reducible exact cellarref1_fit.mono _ _ _)
   | (with_reducible exact cellarref1_see.mono _ _ _)
   | (with_reducible exact LeO.refl _)
   | (with_reducible exact LeO.none _)
   | (with_reducible refine LeO.ite ?_ ?_)
   | (with_reducible refine LeO.bind ?_ (fun _ => ?_))
   | exact ih0 _ _ _ _ _ _ _ _ _
   | exact ih1 _ _ _ _ _
   | exact ih2 _ _ _ _ _ _ _ _
   | exact cellarref1_Width.mono _ _
   | exact cellarref1_fit.mono _ _ _
   | exact cellarref1_see.mono _ _ _
   | exact LeO.none _
   | refine LeO.ite ?_ ?_
   | refine LeO.bind ?_ (fun _ => ?_)
theorem cellarref1_Two.mono : ∀ a0 a1 a2 a3 k, LeO (cellarref1_Two.f k a0 a1 a2 a3) (cellarref1_Two.f (k + 1) a0 a1 a2 a3) := by
 intro a0 a1 a2 a3 k
 obtain ⟨ih0, ih1, ih2⟩ := cellarref1_Two.mono_l k
 unfold cellarref1_Two.f
 repeat' first
   | (with_reducible exact ih0 _ _ _ _ _ _ _ _ _)
   | (with_reducible exact ih1 _ _ _ _ _)
   | (with_reducible exact ih2 _ _ _ _ _ _ _ _)
   | (with_reducible exact cellarref1_Width.mono _ _)
   | (with_reducible exact cellarref1_fit.mono _ _ _)
   | (with_reducible exact cellarref1_see.mono _ _ _)
   | (with_reducible exact LeO.refl _)
   | (with_reducible exact LeO.none _)
   | (with_reducible refine LeO.ite ?_ ?_)
   | (with_reducible refine LeO.bind ?_ (fun _ => ?_))
   | exact ih0 _ _ _ _ _ _ _ _ _
   | exact ih1 _ _ _ _ _
   | exact ih2 _ _ _ _ _ _ _ _
   | exact cellarref1_Width.mono _ _
   | exact cellarref1_fit.mono _ _ _
   | exact cellarref1_see.mono _ _ _
   | exact LeO.none _
   | refine LeO.ite ?_ ?_
   | refine LeO.bind ?_ (fun _ => ?_)
set_option maxHeartbeats 8000000 in
set_option maxRecDepth 100000 in
theorem cellarref1_Two.calls (k : Nat) (a0 : Int) (a1 : Int) (a2 : Int) (a3 : Int) (r1 : Int) (r2 : Int) (w : World) (h : cellarref1_Two.f k a0 a1 a2 a3 = some (r1, r2)) :
  Calls Try.prog 63 #[.int .i64 a0, .int .i64 a1, .int .i64 a2, .int .i64 a3] w fun e w' => e = .returned (.tuple #[.int .i64 r1, .int .i64 r2]) ∧ Drawn0 w w' := by
 have H : ((cellarref1_Width.f k a1).bind fun t263 => ((cellarref1_see.f k a1 a2).bind fun t264 => ((cellarref1_see.f k a1 a3).bind fun t265 => (if a0 = 8 then ((cellarref1_fit.f k a1 (wrap64 (t264 + t265))).bind fun bt266 => (some (bt266.1, bt266.2))) else (if a0 = 9 then ((cellarref1_fit.f k a1 (wrap64 (t264 - t265))).bind fun bt268 => (some (bt268.1, bt268.2))) else (if a0 = 10 then ((cellarref1_Signed.f a1).bind fun t270 => (if t270 = true then ((cellarref1_fit.f k a1 (wrap64 (t264 * t265))).bind fun bt271 => (some (bt271.1, bt271.2))) else (if 0 ≤ t263 then (some (wrap64 (Go.bits .and .u64 (IntKind.u64.wrap ((IntKind.u64.wrap (t264)) * (IntKind.u64.wrap (t265)))) (IntKind.u64.wrap ((shl .u64 1 t263) - 1))), 0)) else (none)))) else (if a0 = 11 then (cellarref1_Two.j0 k a0 a1 a2 a3 t263 t264 t265 a0 (a0 == 11)) else (cellarref1_Two.j0 k a0 a1 a2 a3 t263 t264 t265 a0 (a0 == 12))))))))) = some (r1, r2) := h
 clear h
 replace H := Option.bind_eq_some_iff.mp H
 obtain ⟨t263, A50, H⟩ := H
 replace H : ((cellarref1_see.f k a1 a2).bind fun t264 => ((cellarref1_see.f k a1 a3).bind fun t265 => (if a0 = 8 then ((cellarref1_fit.f k a1 (wrap64 (t264 + t265))).bind fun bt266 => (some (bt266.1, bt266.2))) else (if a0 = 9 then ((cellarref1_fit.f k a1 (wrap64 (t264 - t265))).bind fun bt268 => (some (bt268.1, bt268.2))) else (if a0 = 10 then ((cellarref1_Signed.f a1).bind fun t270 => (if t270 = true then ((cellarref1_fit.f k a1 (wrap64 (t264 * t265))).bind fun bt271 => (some (bt271.1, bt271.2))) else (if 0 ≤ t263 then (some (wrap64 (Go.bits .and .u64 (IntKind.u64.wrap ((IntKind.u64.wrap (t264)) * (IntKind.u64.wrap (t265)))) (IntKind.u64.wrap ((shl .u64 1 t263) - 1))), 0)) else (none)))) else (if a0 = 11 then (cellarref1_Two.j0 k a0 a1 a2 a3 t263 t264 t265 a0 (a0 == 11)) else (cellarref1_Two.j0 k a0 a1 a2 a3 t263 t264 t265 a0 (a0 == 12)))))))) = some (r1, r2) := H
 have A5 := Aside0.mk A50
 clear A50
 replace H := Option.bind_eq_some_iff.mp H
 obtain ⟨t264, A60, H⟩ := H
 replace H : ((cellarref1_see.f k a1 a3).bind fun t265 => (if a0 = 8 then ((cellarref1_fit.f k a1 (wrap64 (t264 + t265))).bind fun bt266 => (some (bt266.1, bt266.2))) else (if a0 = 9 then ((cellarref1_fit.f k a1 (wrap64 (t264 - t265))).bind fun bt268 => (some (bt268.1, bt268.2))) else (if a0 = 10 then ((cellarref1_Signed.f a1).bind fun t270 => (if t270 = true then ((cellarref1_fit.f k a1 (wrap64 (t264 * t265))).bind fun bt271 => (some (bt271.1, bt271.2))) else (if 0 ≤ t263 then (some (wrap64 (Go.bits .and .u64 (IntKind.u64.wrap ((IntKind.u64.wrap (t264)) * (IntKind.u64.wrap (t265)))) (IntKind.u64.wrap ((shl .u64 1 t263) - 1))), 0)) else (none)))) else (if a0 = 11 then (cellarref1_Two.j0 k a0 a1 a2 a3 t263 t264 t265 a0 (a0 == 11)) else (cellarref1_Two.j0 k a0 a1 a2 a3 t263 t264 t265 a0 (a0 == 12))))))) = some (r1, r2) := H
 have A6 := Aside0.mk A60
 clear A60
 replace H := Option.bind_eq_some_iff.mp H
 obtain ⟨t265, A70, H⟩ := H
 replace H : (if a0 = 8 then ((cellarref1_fit.f k a1 (wrap64 (t264 + t265))).bind fun bt266 => (some (bt266.1, bt266.2))) else (if a0 = 9 then ((cellarref1_fit.f k a1 (wrap64 (t264 - t265))).bind fun bt268 => (some (bt268.1, bt268.2))) else (if a0 = 10 then ((cellarref1_Signed.f a1).bind fun t270 => (if t270 = true then ((cellarref1_fit.f k a1 (wrap64 (t264 * t265))).bind fun bt271 => (some (bt271.1, bt271.2))) else (if 0 ≤ t263 then (some (wrap64 (Go.bits .and .u64 (IntKind.u64.wrap ((IntKind.u64.wrap (t264)) * (IntKind.u64.wrap (t265)))) (IntKind.u64.wrap ((shl .u64 1 t263) - 1))), 0)) else (none)))) else (if a0 = 11 then (cellarref1_Two.j0 k a0 a1 a2 a3 t263 t264 t265 a0 (a0 == 11)) else (cellarref1_Two.j0 k a0 a1 a2 a3 t263 t264 t265 a0 (a0 == 12)))))) = some (r1, r2) := H
 have A7 := Aside0.mk A70
 clear A70
 by_cases c8 : a0 = 8
 ·rw [if_pos c8] at H
  have c8b0 : (a0 == 8) = true := beq_iff_eq.mpr c8
  have c8b1 : (a0 != 8) = false := bne_eq_false_iff_eq.mpr c8
  clear c8
  replace H := Option.bind_eq_some_iff.mp H
  obtain ⟨⟨t266, t267⟩, A90, H⟩ := H
  replace H : (some (t266, t267)) = some (r1, r2) := H
  have A9 := Aside0.mk A90
  clear A90
  simp only [Option.some.injEq, Prod.mk.injEq] at H
  obtain ⟨rfl, rfl⟩ := H
  go_enter Try.func63, Try.ntmps63
  go_wp2_with (first | ((with_reducible refine gate_callee (f := 30) rfl ?_); refine goesL_ (some 14) rfl rfl Try.func30 (by kernel_rfl) rfl #[.int .i64 a1] rfl (by (try simp only [List.map_toArray, List.map_cons, List.map_nil]); first | done | rfl | (simp only [List.length_drop, List.length_take]; rfl)) ?_; (with_reducible refine (cellarref1_Width.calls k a1 t263 _ A5.out).mono ?_); rintro e w' ⟨rfl, ⟨nd, rfl⟩⟩; refine ⟨_, rfl, ?_⟩) | ((with_reducible refine gate_callee (f := 65) rfl ?_); refine goesL_ (some 17) rfl rfl Try.func65 (by kernel_rfl) rfl #[.int .i64 a1, .int .i64 a2] rfl (by (try simp only [List.map_toArray, List.map_cons, List.map_nil]); first | done | rfl | (simp only [List.length_drop, List.length_take]; rfl)) ?_; (with_reducible refine (cellarref1_see.calls k a1 a2 t264 _ A6.out).mono ?_); rintro e w' ⟨rfl, ⟨nd, rfl⟩⟩; refine ⟨_, rfl, ?_⟩) | ((with_reducible refine gate_callee (f := 65) rfl ?_); refine goesL_ (some 20) rfl rfl Try.func65 (by kernel_rfl) rfl #[.int .i64 a1, .int .i64 a3] rfl (by (try simp only [List.map_toArray, List.map_cons, List.map_nil]); first | done | rfl | (simp only [List.length_drop, List.length_take]; rfl)) ?_; (with_reducible refine (cellarref1_see.calls k a1 a3 t265 _ A7.out).mono ?_); rintro e w' ⟨rfl, ⟨nd, rfl⟩⟩; refine ⟨_, rfl, ?_⟩) | ((with_reducible refine gate_callee (f := 73) rfl ?_); refine goesL_ (some 28) rfl rfl Try.func73 (by kernel_rfl) rfl #[.int .i64 a1, .int .i64 (wrap64 (t264 + t265))] rfl (by (try simp only [List.map_toArray, List.map_cons, List.map_nil]); first | done | rfl | (simp only [List.length_drop, List.length_take]; rfl)) ?_; (with_reducible refine (cellarref1_fit.calls k a1 (wrap64 (t264 + t265)) t266 t267 _ A9.out).mono ?_); rintro e w' ⟨rfl, ⟨nd, rfl⟩⟩; refine ⟨_, rfl, ?_⟩))
  go_ret2
  exact ⟨by first | rfl | (simp; done) | (simp [*]; done), by repeat (first | exact Drawn0.refl _ | apply Drawn0.step)⟩
 ·rw [if_neg c8] at H
  have c8b0 : (a0 == 8) = false := beq_eq_false_iff_ne.mpr c8
  have c8b1 : (a0 != 8) = true := bne_iff_ne.mpr c8
  by_cases c10 : a0 = 9
  ·rw [if_pos c10] at H
   have c10b0 : (a0 == 9) = true := beq_iff_eq.mpr c10
   have c10b1 : (a0 != 9) = false := bne_eq_false_iff_eq.mpr c10
   clear c10
   replace H := Option.bind_eq_some_iff.mp H
   obtain ⟨⟨t268, t269⟩, A110, H⟩ := H
   replace H : (some (t268, t269)) = some (r1, r2) := H
   have A11 := Aside0.mk A110
   clear A110
   simp only [Option.some.injEq, Prod.mk.injEq] at H
   obtain ⟨rfl, rfl⟩ := H
   go_enter Try.func63, Try.ntmps63
   go_wp2_with (first | ((with_reducible refine gate_callee (f := 30) rfl ?_); refine goesL_ (some 14) rfl rfl Try.func30 (by kernel_rfl) rfl #[.int .i64 a1] rfl (by (try simp only [List.map_toArray, List.map_cons, List.map_nil]); first | done | rfl | (simp only [List.length_drop, List.length_take]; rfl)) ?_; (with_reducible refine (cellarref1_Width.calls k a1 t263 _ A5.out).mono ?_); rintro e w' ⟨rfl, ⟨nd, rfl⟩⟩; refine ⟨_, rfl, ?_⟩) | ((with_reducible refine gate_callee (f := 65) rfl ?_); refine goesL_ (some 17) rfl rfl Try.func65 (by kernel_rfl) rfl #[.int .i64 a1, .int .i64 a2] rfl (by (try simp only [List.map_toArray, List.map_cons, List.map_nil]); first | done | rfl | (simp only [List.length_drop, List.length_take]; rfl)) ?_; (with_reducible refine (cellarref1_see.calls k a1 a2 t264 _ A6.out).mono ?_); rintro e w' ⟨rfl, ⟨nd, rfl⟩⟩; refine ⟨_, rfl, ?_⟩) | ((with_reducible refine gate_callee (f := 65) rfl ?_); refine goesL_ (some 20) rfl rfl Try.func65 (by kernel_rfl) rfl #[.int .i64 a1, .int .i64 a3] rfl (by (try simp only [List.map_toArray, List.map_cons, List.map_nil]); first | done | rfl | (simp only [List.length_drop, List.length_take]; rfl)) ?_; (with_reducible refine (cellarref1_see.calls k a1 a3 t265 _ A7.out).mono ?_); rintro e w' ⟨rfl, ⟨nd, rfl⟩⟩; refine ⟨_, rfl, ?_⟩) | ((with_reducible refine gate_callee (f := 73) rfl ?_); refine goesL_ (some 37) rfl rfl Try.func73 (by kernel_rfl) rfl #[.int .i64 a1, .int .i64 (wrap64 (t264 - t265))] rfl (by (try simp only [List.map_toArray, List.map_cons, List.map_nil]); first | done | rfl | (simp only [List.length_drop, List.length_take]; rfl)) ?_; (with_reducible refine (cellarref1_fit.calls k a1 (wrap64 (t264 - t265)) t268 t269 _ A11.out).mono ?_); rintro e w' ⟨rfl, ⟨nd, rfl⟩⟩; refine ⟨_, rfl, ?_⟩))
   go_ret2
   exact ⟨by first | rfl | (simp; done) | (simp [*]; done), by repeat (first | exact Drawn0.refl _ | apply Drawn0.step)⟩
  ·rw [if_neg c10] at H
   have c10b0 : (a0 == 9) = false := beq_eq_false_iff_ne.mpr c10
   have c10b1 : (a0 != 9) = true := bne_iff_ne.mpr c10
   by_cases c12 : a0 = 10
   ·rw [if_pos c12] at H
    have c12b0 : (a0 == 10) = true := beq_iff_eq.mpr c12
    have c12b1 : (a0 != 10) = false := bne_eq_false_iff_eq.mpr c12
    clear c12
    replace H := Option.bind_eq_some_iff.mp H
    obtain ⟨t270, A130, H⟩ := H
    replace H : (if t270 = true then ((cellarref1_fit.f k a1 (wrap64 (t264 * t265))).bind fun bt271 => (some (bt271.1, bt271.2))) else (if 0 ≤ t263 then (some (wrap64 (Go.bits .and .u64 (IntKind.u64.wrap ((IntKind.u64.wrap (t264)) * (IntKind.u64.wrap (t265)))) (IntKind.u64.wrap ((shl .u64 1 t263) - 1))), 0)) else (none))) = some (r1, r2) := H
    have A13 := Aside0.mk A130
    clear A130
    by_cases c14 : t270 = true
    ·subst c14
     have H1 : ((cellarref1_fit.f k a1 (wrap64 (t264 * t265))).bind fun bt271 => (some (bt271.1, bt271.2))) = some (r1, r2) := by rw [if_pos rfl] at H; exact H
     clear H
     have H := H1
     clear H1
     replace H := Option.bind_eq_some_iff.mp H
     obtain ⟨⟨t271, t272⟩, A150, H⟩ := H
     replace H : (some (t271, t272)) = some (r1, r2) := H
     have A15 := Aside0.mk A150
     clear A150
     simp only [Option.some.injEq, Prod.mk.injEq] at H
     obtain ⟨rfl, rfl⟩ := H
     go_enter Try.func63, Try.ntmps63
     go_wp2_with (first | ((with_reducible refine gate_callee (f := 30) rfl ?_); refine goesL_ (some 14) rfl rfl Try.func30 (by kernel_rfl) rfl #[.int .i64 a1] rfl (by (try simp only [List.map_toArray, List.map_cons, List.map_nil]); first | done | rfl | (simp only [List.length_drop, List.length_take]; rfl)) ?_; (with_reducible refine (cellarref1_Width.calls k a1 t263 _ A5.out).mono ?_); rintro e w' ⟨rfl, ⟨nd, rfl⟩⟩; refine ⟨_, rfl, ?_⟩) | ((with_reducible refine gate_callee (f := 65) rfl ?_); refine goesL_ (some 17) rfl rfl Try.func65 (by kernel_rfl) rfl #[.int .i64 a1, .int .i64 a2] rfl (by (try simp only [List.map_toArray, List.map_cons, List.map_nil]); first | done | rfl | (simp only [List.length_drop, List.length_take]; rfl)) ?_; (with_reducible refine (cellarref1_see.calls k a1 a2 t264 _ A6.out).mono ?_); rintro e w' ⟨rfl, ⟨nd, rfl⟩⟩; refine ⟨_, rfl, ?_⟩) | ((with_reducible refine gate_callee (f := 65) rfl ?_); refine goesL_ (some 20) rfl rfl Try.func65 (by kernel_rfl) rfl #[.int .i64 a1, .int .i64 a3] rfl (by (try simp only [List.map_toArray, List.map_cons, List.map_nil]); first | done | rfl | (simp only [List.length_drop, List.length_take]; rfl)) ?_; (with_reducible refine (cellarref1_see.calls k a1 a3 t265 _ A7.out).mono ?_); rintro e w' ⟨rfl, ⟨nd, rfl⟩⟩; refine ⟨_, rfl, ?_⟩) | ((with_reducible refine gate_callee (f := 31) rfl ?_); refine goesL_ (some 43) rfl rfl Try.func31 (by kernel_rfl) rfl #[.int .i64 a1] rfl (by (try simp only [List.map_toArray, List.map_cons, List.map_nil]); first | done | rfl | (simp only [List.length_drop, List.length_take]; rfl)) ?_; (with_reducible refine (cellarref1_Signed.calls a1 true _ A13.out).mono ?_); rintro e w' ⟨rfl, ⟨nd, rfl⟩⟩; refine ⟨_, rfl, ?_⟩) | ((with_reducible refine gate_callee (f := 73) rfl ?_); refine goesL_ (some 59) rfl rfl Try.func73 (by kernel_rfl) rfl #[.int .i64 a1, .int .i64 (wrap64 (t264 * t265))] rfl (by (try simp only [List.map_toArray, List.map_cons, List.map_nil]); first | done | rfl | (simp only [List.length_drop, List.length_take]; rfl)) ?_; (with_reducible refine (cellarref1_fit.calls k a1 (wrap64 (t264 * t265)) t271 t272 _ A15.out).mono ?_); rintro e w' ⟨rfl, ⟨nd, rfl⟩⟩; refine ⟨_, rfl, ?_⟩))
     go_ret2
     exact ⟨by first | rfl | (simp; done) | (simp [*]; done), by repeat (first | exact Drawn0.refl _ | apply Drawn0.step)⟩
    ·replace c14 := Bool.eq_false_iff.mpr c14
     subst c14
     have H1 : (if 0 ≤ t263 then (some (wrap64 (Go.bits .and .u64 (IntKind.u64.wrap ((IntKind.u64.wrap (t264)) * (IntKind.u64.wrap (t265)))) (IntKind.u64.wrap ((shl .u64 1 t263) - 1))), 0)) else (none)) = some (r1, r2) := by rw [if_neg (show ¬ (false = true) by decide)] at H; exact H
     clear H
     have H := H1
     clear H1
     by_cases c16 : 0 ≤ t263
     ·rw [if_pos c16] at H
      have c16b0 := eq_true c16
      have c16b1 : decide (0 ≤ t263) = true := decide_eq_true c16
      clear c16
      obtain ⟨ji17, hji17⟩ : ∃ j_ : Int, (shl .u64 1 t263) = j_ := ⟨_, rfl⟩
      replace H : (some (wrap64 (Go.bits .and .u64 (IntKind.u64.wrap ((IntKind.u64.wrap (t264)) * (IntKind.u64.wrap (t265)))) (IntKind.u64.wrap ((ji17) - 1))), 0)) = some (r1, r2) := by first | (rw [hji17] at H; exact H) | (simp only [hji17] at H ⊢; exact H)
      (try rw [hji17] at A5)
      (try rw [hji17] at A6)
      (try rw [hji17] at A7)
      (try rw [hji17] at A13)
      have hji17_ : (IntKind.u64.wrap (1 * 2 ^ min t263.toNat 64)) = ji17 := hji17
      have hji17z : t263 ≤ 64 → (IntKind.u64.wrap (1 * 2 ^ t263.toNat)) = ji17 := shl_small hji17
      have hji17u : (IntKind.u64.wrap (2 ^ min t263.toNat 64)) = ji17 := by have h_ := hji17_; rw [Int.one_mul] at h_; exact h_
      have hji17v : t263 ≤ 64 → (IntKind.u64.wrap (2 ^ t263.toNat)) = ji17 := fun hle_ => by have h_ := hji17z hle_; rw [Int.one_mul] at h_; exact h_
      simp only [Option.some.injEq, Prod.mk.injEq] at H
      obtain ⟨rfl, rfl⟩ := H
      go_enter Try.func63, Try.ntmps63
      go_wp2_with (first | ((with_reducible refine gate_callee (f := 30) rfl ?_); refine goesL_ (some 14) rfl rfl Try.func30 (by kernel_rfl) rfl #[.int .i64 a1] rfl (by (try simp only [List.map_toArray, List.map_cons, List.map_nil]); first | done | rfl | (simp only [List.length_drop, List.length_take]; rfl)) ?_; (with_reducible refine (cellarref1_Width.calls k a1 t263 _ A5.out).mono ?_); rintro e w' ⟨rfl, ⟨nd, rfl⟩⟩; refine ⟨_, rfl, ?_⟩) | ((with_reducible refine gate_callee (f := 65) rfl ?_); refine goesL_ (some 17) rfl rfl Try.func65 (by kernel_rfl) rfl #[.int .i64 a1, .int .i64 a2] rfl (by (try simp only [List.map_toArray, List.map_cons, List.map_nil]); first | done | rfl | (simp only [List.length_drop, List.length_take]; rfl)) ?_; (with_reducible refine (cellarref1_see.calls k a1 a2 t264 _ A6.out).mono ?_); rintro e w' ⟨rfl, ⟨nd, rfl⟩⟩; refine ⟨_, rfl, ?_⟩) | ((with_reducible refine gate_callee (f := 65) rfl ?_); refine goesL_ (some 20) rfl rfl Try.func65 (by kernel_rfl) rfl #[.int .i64 a1, .int .i64 a3] rfl (by (try simp only [List.map_toArray, List.map_cons, List.map_nil]); first | done | rfl | (simp only [List.length_drop, List.length_take]; rfl)) ?_; (with_reducible refine (cellarref1_see.calls k a1 a3 t265 _ A7.out).mono ?_); rintro e w' ⟨rfl, ⟨nd, rfl⟩⟩; refine ⟨_, rfl, ?_⟩) | ((with_reducible refine gate_callee (f := 31) rfl ?_); refine goesL_ (some 43) rfl rfl Try.func31 (by kernel_rfl) rfl #[.int .i64 a1] rfl (by (try simp only [List.map_toArray, List.map_cons, List.map_nil]); first | done | rfl | (simp only [List.length_drop, List.length_take]; rfl)) ?_; (with_reducible refine (cellarref1_Signed.calls a1 false _ A13.out).mono ?_); rintro e w' ⟨rfl, ⟨nd, rfl⟩⟩; refine ⟨_, rfl, ?_⟩))
      go_ret2
      exact ⟨by first | rfl | (simp; done) | (simp only [← hji17] <;> (first | rfl | simp)) | (simp [*]; done), by repeat (first | exact Drawn0.refl _ | apply Drawn0.step)⟩
     ·rw [if_neg c16] at H
      exact absurd H (by simp)
   ·rw [if_neg c12] at H
    have c12b0 : (a0 == 10) = false := beq_eq_false_iff_ne.mpr c12
    have c12b1 : (a0 != 10) = true := bne_iff_ne.mpr c12
    have HC18 := Aside0.mk H
    clear H
    go_enter Try.func63, Try.ntmps63
    go_upto_if 62 with (first | ((with_reducible refine gate_callee (f := 30) rfl ?_); refine goesL_ (some 14) rfl rfl Try.func30 (by kernel_rfl) rfl #[.int .i64 a1] rfl (by (try simp only [List.map_toArray, List.map_cons, List.map_nil]); first | done | rfl | (simp only [List.length_drop, List.length_take]; rfl)) ?_; (with_reducible refine (cellarref1_Width.calls k a1 t263 _ A5.out).mono ?_); rintro e w' ⟨rfl, ⟨nd, rfl⟩⟩; refine ⟨_, rfl, ?_⟩) | ((with_reducible refine gate_callee (f := 65) rfl ?_); refine goesL_ (some 17) rfl rfl Try.func65 (by kernel_rfl) rfl #[.int .i64 a1, .int .i64 a2] rfl (by (try simp only [List.map_toArray, List.map_cons, List.map_nil]); first | done | rfl | (simp only [List.length_drop, List.length_take]; rfl)) ?_; (with_reducible refine (cellarref1_see.calls k a1 a2 t264 _ A6.out).mono ?_); rintro e w' ⟨rfl, ⟨nd, rfl⟩⟩; refine ⟨_, rfl, ?_⟩) | ((with_reducible refine gate_callee (f := 65) rfl ?_); refine goesL_ (some 20) rfl rfl Try.func65 (by kernel_rfl) rfl #[.int .i64 a1, .int .i64 a3] rfl (by (try simp only [List.map_toArray, List.map_cons, List.map_nil]); first | done | rfl | (simp only [List.length_drop, List.length_take]; rfl)) ?_; (with_reducible refine (cellarref1_see.calls k a1 a3 t265 _ A7.out).mono ?_); rintro e w' ⟨rfl, ⟨nd, rfl⟩⟩; refine ⟨_, rfl, ?_⟩))
    (try simp only [Act.put, List.setIfInBounds_toArray, List.set_cons_zero, List.set_cons_succ])
    go_cut [62] (fun v62 wc => ∃ (kq : Nat) (x62_17 : Bool), v62 = .bool x62_17 ∧ Aside0 (cellarref1_Two.j0 kq a0 a1 a2 a3 t263 t264 t265 a0 x62_17 = some (r1, r2)) ∧ Aside0 (kq ≤ k) ∧ Drawn0 w wc)
    case first =>
     have H := HC18.out
     clear HC18
     by_cases c19 : a0 = 11
     ·rw [if_pos c19] at H
      have c19b0 : (a0 == 11) = true := beq_iff_eq.mpr c19
      have c19b1 : (a0 != 11) = false := bne_eq_false_iff_eq.mpr c19
      clear c19
      (first | rw [c19b0] | (simp only [i64_w, i32_w]; rw [c19b0]) | skip)
      have H' := Aside0.mk H
      clear H
      go_wp2
      go_meet
      case rel => exact ⟨_, ((a0 == 11)), (by first | rfl | (simp; done) | (simp [*]; done)), H', ⟨by first | omega | exact Nat.le_refl _⟩, by repeat (first | exact Drawn0.refl _ | apply Drawn0.step)⟩
     ·rw [if_neg c19] at H
      have c19b0 : (a0 == 11) = false := beq_eq_false_iff_ne.mpr c19
      have c19b1 : (a0 != 11) = true := bne_iff_ne.mpr c19
      (first | rw [c19b0] | (simp only [i64_w, i32_w]; rw [c19b0]) | skip)
      have H' := Aside0.mk H
      clear H
      go_wp2
      go_meet
      case rel => exact ⟨_, ((a0 == 12)), (by first | rfl | (simp; done) | (simp [*]; done)), H', ⟨by first | omega | exact Nat.le_refl _⟩, by repeat (first | exact Drawn0.refl _ | apply Drawn0.step)⟩
    case rest =>
     clear HC18
     try clear c1
     try clear p2
     try clear c3
     try clear c6
     try clear p6
     try clear c7
     try clear c8
     try clear c8b0
     try clear c8b1
     try clear c10
     try clear c10b0
     try clear c10b1
     try clear c12
     try clear c12b0
     try clear c12b1
     try clear c14
     try clear c16
     try clear c16b0
     try clear c16b1
     try clear c19
     try clear c19b0
     try clear c19b1
     obtain ⟨kq, x62_17, rfl, HA, HJ17, ⟨mc17, rfl⟩⟩ := hcut
     cases kq with
     | zero => exact absurd HA.out (by simp [cellarref1_Two.j0])
     | succ kj17 =>
      have H := HA.out
      clear HA
      simp only [cellarref1_Two.j0] at H
      by_cases c20 : x62_17 = true
      ·subst c20
       have H1 : (if t265 = 0 then (some (0, 6)) else ((cellarref1_Signed.f a1).bind fun t273 => (if t273 = true then (if 0 ≤ (wrap64 (t263 - 1)) then (if t264 = (wrap64 (-(shl .i64 1 (wrap64 (t263 - 1))))) then (cellarref1_Two.j1 kj17 a0 t263 t264 t265 (t265 == (-1))) else (cellarref1_Two.j1 kj17 a0 t263 t264 t265 false)) else (none)) else (cellarref1_Two.j1 kj17 a0 t263 t264 t265 false)))) = some (r1, r2) := by rw [if_pos rfl] at H; exact H
       clear H
       have H := H1
       clear H1
       by_cases c21 : t265 = 0
       ·rw [if_pos c21] at H
        have c21b0 : (t265 == 0) = true := beq_iff_eq.mpr c21
        have c21b1 : (t265 != 0) = false := bne_eq_false_iff_eq.mpr c21
        clear c21
        simp only [Option.some.injEq, Prod.mk.injEq] at H
        obtain ⟨rfl, rfl⟩ := H
        go_wp2
        go_ret2
        exact ⟨by first | rfl | (simp; done) | (simp [*]; done), by repeat (first | exact Drawn0.refl _ | apply Drawn0.step)⟩
       ·rw [if_neg c21] at H
        have c21b0 : (t265 == 0) = false := beq_eq_false_iff_ne.mpr c21
        have c21b1 : (t265 != 0) = true := bne_iff_ne.mpr c21
        have HC22 := Aside0.mk H
        clear H
        go_upto_region 16 with (fail)
        go_cut [80] (fun v80 wc => ∃ (kq : Nat) (x80_21 : Bool), v80 = .bool x80_21 ∧ Aside0 (cellarref1_Two.j1 kq a0 t263 t264 t265 x80_21 = some (r1, r2)) ∧ Aside0 (kq ≤ kj17) ∧ Drawn0 w wc)
        case first =>
         have H := HC22.out
         clear HC22
         replace H := Option.bind_eq_some_iff.mp H
         obtain ⟨t273, A230, H⟩ := H
         replace H : (if t273 = true then (if 0 ≤ (wrap64 (t263 - 1)) then (if t264 = (wrap64 (-(shl .i64 1 (wrap64 (t263 - 1))))) then (cellarref1_Two.j1 kj17 a0 t263 t264 t265 (t265 == (-1))) else (cellarref1_Two.j1 kj17 a0 t263 t264 t265 false)) else (none)) else (cellarref1_Two.j1 kj17 a0 t263 t264 t265 false)) = some (r1, r2) := H
         have A23 := Aside0.mk A230
         clear A230
         by_cases c24 : t273 = true
         ·subst c24
          have H1 : (if 0 ≤ (wrap64 (t263 - 1)) then (if t264 = (wrap64 (-(shl .i64 1 (wrap64 (t263 - 1))))) then (cellarref1_Two.j1 kj17 a0 t263 t264 t265 (t265 == (-1))) else (cellarref1_Two.j1 kj17 a0 t263 t264 t265 false)) else (none)) = some (r1, r2) := by rw [if_pos rfl] at H; exact H
          clear H
          have H := H1
          clear H1
          obtain ⟨ji25, hji25⟩ : ∃ j_ : Int, (wrap64 (t263 - 1)) = j_ := ⟨_, rfl⟩
          replace H : (if 0 ≤ (ji25) then (if t264 = (wrap64 (-(shl .i64 1 (ji25)))) then (cellarref1_Two.j1 kj17 a0 t263 t264 t265 (t265 == (-1))) else (cellarref1_Two.j1 kj17 a0 t263 t264 t265 false)) else (none)) = some (r1, r2) := by first | (rw [hji25] at H; exact H) | (simp only [hji25] at H ⊢; exact H)
          (try rw [hji25] at A23)
          have hji25w : (IntKind.i64.wrap (t263 - 1)) = ji25 := (i64_w _).trans hji25
          by_cases c26 : 0 ≤ (ji25)
          ·rw [if_pos c26] at H
           have c26b0 := eq_true c26
           have c26b1 : decide (0 ≤ (ji25)) = true := decide_eq_true c26
           clear c26
           obtain ⟨ji27, hji27⟩ : ∃ j_ : Int, (shl .i64 1 (ji25)) = j_ := ⟨_, rfl⟩
           replace H : (if t264 = (wrap64 (-(ji27))) then (cellarref1_Two.j1 kj17 a0 t263 t264 t265 (t265 == (-1))) else (cellarref1_Two.j1 kj17 a0 t263 t264 t265 false)) = some (r1, r2) := by first | (rw [hji27] at H; exact H) | (simp only [hji27] at H ⊢; exact H)
           (try rw [hji27] at A23)
           have hji27_ : (IntKind.i64.wrap (1 * 2 ^ min (ji25).toNat 64)) = ji27 := hji27
           have hji27z : (ji25) ≤ 64 → (IntKind.i64.wrap (1 * 2 ^ (ji25).toNat)) = ji27 := shl_small hji27
           have hji27u : (IntKind.i64.wrap (2 ^ min (ji25).toNat 64)) = ji27 := by have h_ := hji27_; rw [Int.one_mul] at h_; exact h_
           have hji27v : (ji25) ≤ 64 → (IntKind.i64.wrap (2 ^ (ji25).toNat)) = ji27 := fun hle_ => by have h_ := hji27z hle_; rw [Int.one_mul] at h_; exact h_
           have hji27y : (wrap64 (1 * 2 ^ min (ji25).toNat 64)) = ji27 := (i64_w _).symm.trans hji27_
           have hji27x : (ji25) ≤ 64 → (wrap64 (1 * 2 ^ (ji25).toNat)) = ji27 := fun h_ => (i64_w _).symm.trans (hji27z h_)
           by_cases c28 : t264 = (wrap64 (-(ji27)))
           ·rw [if_pos c28] at H
            have c28b0 : (t264 == (wrap64 (-(ji27)))) = true := beq_iff_eq.mpr c28
            have c28b1 : (t264 != (wrap64 (-(ji27)))) = false := bne_eq_false_iff_eq.mpr c28
            clear c28
            (first | rw [c28b0] | (simp only [i64_w, i32_w]; rw [c28b0]) | skip)
            have H' := Aside0.mk H
            clear H
            go_wp2_with (first | ((with_reducible refine gate_callee (f := 31) rfl ?_); refine goesL_ (some 68) rfl rfl Try.func31 (by kernel_rfl) rfl #[.int .i64 a1] rfl (by (try simp only [List.map_toArray, List.map_cons, List.map_nil]); first | done | rfl | (simp only [List.length_drop, List.length_take]; rfl)) ?_; (with_reducible refine (cellarref1_Signed.calls a1 true _ A23.out).mono ?_); rintro e w' ⟨rfl, ⟨nd, rfl⟩⟩; refine ⟨_, rfl, ?_⟩))
            go_meet
            case rel => exact ⟨_, ((t265 == (-1))), (by first | rfl | (simp; done) | (simp [*]; done)), H', ⟨by have := HJ17.out; first | omega | exact Nat.le_refl _⟩, by repeat (first | exact Drawn0.refl _ | apply Drawn0.step)⟩
           ·rw [if_neg c28] at H
            have c28b0 : (t264 == (wrap64 (-(ji27)))) = false := beq_eq_false_iff_ne.mpr c28
            have c28b1 : (t264 != (wrap64 (-(ji27)))) = true := bne_iff_ne.mpr c28
            (first | rw [c28b0] | (simp only [i64_w, i32_w]; rw [c28b0]) | skip)
            have H' := Aside0.mk H
            clear H
            go_wp2_with (first | ((with_reducible refine gate_callee (f := 31) rfl ?_); refine goesL_ (some 68) rfl rfl Try.func31 (by kernel_rfl) rfl #[.int .i64 a1] rfl (by (try simp only [List.map_toArray, List.map_cons, List.map_nil]); first | done | rfl | (simp only [List.length_drop, List.length_take]; rfl)) ?_; (with_reducible refine (cellarref1_Signed.calls a1 true _ A23.out).mono ?_); rintro e w' ⟨rfl, ⟨nd, rfl⟩⟩; refine ⟨_, rfl, ?_⟩))
            go_meet
            case rel => exact ⟨_, (false), (by first | rfl | (simp; done) | (simp [*]; done)), H', ⟨by have := HJ17.out; first | omega | exact Nat.le_refl _⟩, by repeat (first | exact Drawn0.refl _ | apply Drawn0.step)⟩
          ·rw [if_neg c26] at H
           exact absurd H (by simp)
         ·replace c24 := Bool.eq_false_iff.mpr c24
          subst c24
          have H1 : (cellarref1_Two.j1 kj17 a0 t263 t264 t265 false) = some (r1, r2) := by rw [if_neg (show ¬ (false = true) by decide)] at H; exact H
          clear H
          have H := H1
          clear H1
          have H' := Aside0.mk H
          clear H
          go_wp2_with (first | ((with_reducible refine gate_callee (f := 31) rfl ?_); refine goesL_ (some 68) rfl rfl Try.func31 (by kernel_rfl) rfl #[.int .i64 a1] rfl (by (try simp only [List.map_toArray, List.map_cons, List.map_nil]); first | done | rfl | (simp only [List.length_drop, List.length_take]; rfl)) ?_; (with_reducible refine (cellarref1_Signed.calls a1 false _ A23.out).mono ?_); rintro e w' ⟨rfl, ⟨nd, rfl⟩⟩; refine ⟨_, rfl, ?_⟩))
          go_meet
          case rel => exact ⟨_, (false), (by first | rfl | (simp; done) | (simp [*]; done)), H', ⟨by have := HJ17.out; first | omega | exact Nat.le_refl _⟩, by repeat (first | exact Drawn0.refl _ | apply Drawn0.step)⟩
        case rest =>
         clear HC22
         try clear c1
         try clear c2
         try clear p2
         try clear c3
         try clear c6
         try clear p6
         try clear c7
         try clear c8
         try clear c8b0
         try clear c8b1
         try clear c10
         try clear c10b0
         try clear c10b1
         try clear c12
         try clear c12b0
         try clear c12b1
         try clear c14
         try clear c16
         try clear c16b0
         try clear c16b1
         try clear c17
         try clear c19
         try clear c19b0
         try clear c19b1
         try clear c20
         try clear c21
         try clear c21b0
         try clear c21b1
         try clear c24
         try clear c26
         try clear c26b0
         try clear c26b1
         try clear c28
         try clear c28b0
         try clear c28b1
         try clear p2
         try clear p6
         obtain ⟨kq, x80_21, rfl, HA, HJ21, ⟨mc21, rfl⟩⟩ := hcut
         cases kq with
         | zero => exact absurd HA.out (by simp [cellarref1_Two.j1])
         | succ kj21 =>
          have H := HA.out
          clear HA
          simp only [cellarref1_Two.j1] at H
          by_cases c29 : x80_21 = true
          ·subst c29
           have H1 : (some (0, 4)) = some (r1, r2) := by rw [if_pos rfl] at H; exact H
           clear H
           have H := H1
           clear H1
           simp only [Option.some.injEq, Prod.mk.injEq] at H
           obtain ⟨rfl, rfl⟩ := H
           go_wp2
           go_ret2
           exact ⟨by first | rfl | (simp; done) | (simp [*]; done), by repeat (first | exact Drawn0.refl _ | apply Drawn0.step)⟩
          ·replace c29 := Bool.eq_false_iff.mpr c29
           subst c29
           have H1 : (if a0 = 11 then (if t265 = 0 then (none) else ((cellarref1_Wrap.f (wrap64 (Int.tdiv t264 t265)) t263).bind fun t274 => (some (t274, 0)))) else (if t265 = 0 then (none) else ((cellarref1_Wrap.f (Int.tmod t264 t265) t263).bind fun t275 => (some (t275, 0))))) = some (r1, r2) := by rw [if_neg (show ¬ (false = true) by decide)] at H; exact H
           clear H
           have H := H1
           clear H1
           by_cases c30 : a0 = 11
           ·rw [if_pos c30] at H
            have c30b0 : (a0 == 11) = true := beq_iff_eq.mpr c30
            have c30b1 : (a0 != 11) = false := bne_eq_false_iff_eq.mpr c30
            clear c30
            by_cases c31 : t265 = 0
            ·rw [if_pos c31] at H
             exact absurd H (by simp)
            ·rw [if_neg c31] at H
             have c31b0 : (t265 == 0) = false := beq_eq_false_iff_ne.mpr c31
             have c31b1 : (t265 != 0) = true := bne_iff_ne.mpr c31
             replace H := Option.bind_eq_some_iff.mp H
             obtain ⟨t274, A320, H⟩ := H
             replace H : (some (t274, 0)) = some (r1, r2) := H
             have A32 := Aside0.mk A320
             clear A320
             simp only [Option.some.injEq, Prod.mk.injEq] at H
             obtain ⟨rfl, rfl⟩ := H
             go_wp2_with (first | ((with_reducible refine gate_callee (f := 37) rfl ?_); refine goesL_ (some 87) rfl rfl Try.func37 (by kernel_rfl) rfl #[.int .i64 (wrap64 (Int.tdiv t264 t265)), .int .i64 t263] rfl (by (try simp only [List.map_toArray, List.map_cons, List.map_nil]); first | done | rfl | (simp only [List.length_drop, List.length_take]; rfl)) ?_; (with_reducible refine (cellarref1_Wrap.calls (wrap64 (Int.tdiv t264 t265)) t263 t274 _ A32.out).mono ?_); rintro e w' ⟨rfl, ⟨nd, rfl⟩⟩; refine ⟨_, rfl, ?_⟩))
             go_ret2
             exact ⟨by first | rfl | (simp; done) | (simp [*]; done), by repeat (first | exact Drawn0.refl _ | apply Drawn0.step)⟩
           ·rw [if_neg c30] at H
            have c30b0 : (a0 == 11) = false := beq_eq_false_iff_ne.mpr c30
            have c30b1 : (a0 != 11) = true := bne_iff_ne.mpr c30
            by_cases c33 : t265 = 0
            ·rw [if_pos c33] at H
             exact absurd H (by simp)
            ·rw [if_neg c33] at H
             have c33b0 : (t265 == 0) = false := beq_eq_false_iff_ne.mpr c33
             have c33b1 : (t265 != 0) = true := bne_iff_ne.mpr c33
             replace H := Option.bind_eq_some_iff.mp H
             obtain ⟨t275, A340, H⟩ := H
             replace H : (some (t275, 0)) = some (r1, r2) := H
             have A34 := Aside0.mk A340
             clear A340
             simp only [Option.some.injEq, Prod.mk.injEq] at H
             obtain ⟨rfl, rfl⟩ := H
             go_wp2_with (first | ((with_reducible refine gate_callee (f := 37) rfl ?_); refine goesL_ (some 92) rfl rfl Try.func37 (by kernel_rfl) rfl #[.int .i64 (Int.tmod t264 t265), .int .i64 t263] rfl (by (try simp only [List.map_toArray, List.map_cons, List.map_nil]); first | done | rfl | (simp only [List.length_drop, List.length_take]; rfl)) ?_; (with_reducible refine (cellarref1_Wrap.calls (Int.tmod t264 t265) t263 t275 _ A34.out).mono ?_); rintro e w' ⟨rfl, ⟨nd, rfl⟩⟩; refine ⟨_, rfl, ?_⟩))
             go_ret2
             exact ⟨by first | rfl | (simp; done) | (simp [*]; done), by repeat (first | exact Drawn0.refl _ | apply Drawn0.step)⟩
      ·replace c20 := Bool.eq_false_iff.mpr c20
       subst c20
       have H1 : (if a0 = 13 then (some (Go.bits .and .i64 a2 a3, 0)) else (if a0 = 14 then (some (Go.bits .or .i64 a2 a3, 0)) else (if a0 = 15 then (some (Go.bits .xor .i64 a2 a3, 0)) else (if a0 = 16 then (cellarref1_Two.j2 kj17 a0 a2 a3 t263 t264 t265 a0 (a0 == 16)) else (cellarref1_Two.j2 kj17 a0 a2 a3 t263 t264 t265 a0 (a0 == 17)))))) = some (r1, r2) := by rw [if_neg (show ¬ (false = true) by decide)] at H; exact H
       clear H
       have H := H1
       clear H1
       by_cases c35 : a0 = 13
       ·rw [if_pos c35] at H
        have c35b0 : (a0 == 13) = true := beq_iff_eq.mpr c35
        have c35b1 : (a0 != 13) = false := bne_eq_false_iff_eq.mpr c35
        clear c35
        simp only [Option.some.injEq, Prod.mk.injEq] at H
        obtain ⟨rfl, rfl⟩ := H
        go_wp2
        go_ret2
        exact ⟨by first | rfl | (simp; done) | (simp [*]; done), by repeat (first | exact Drawn0.refl _ | apply Drawn0.step)⟩
       ·rw [if_neg c35] at H
        have c35b0 : (a0 == 13) = false := beq_eq_false_iff_ne.mpr c35
        have c35b1 : (a0 != 13) = true := bne_iff_ne.mpr c35
        by_cases c36 : a0 = 14
        ·rw [if_pos c36] at H
         have c36b0 : (a0 == 14) = true := beq_iff_eq.mpr c36
         have c36b1 : (a0 != 14) = false := bne_eq_false_iff_eq.mpr c36
         clear c36
         simp only [Option.some.injEq, Prod.mk.injEq] at H
         obtain ⟨rfl, rfl⟩ := H
         go_wp2
         go_ret2
         exact ⟨by first | rfl | (simp; done) | (simp [*]; done), by repeat (first | exact Drawn0.refl _ | apply Drawn0.step)⟩
        ·rw [if_neg c36] at H
         have c36b0 : (a0 == 14) = false := beq_eq_false_iff_ne.mpr c36
         have c36b1 : (a0 != 14) = true := bne_iff_ne.mpr c36
         by_cases c37 : a0 = 15
         ·rw [if_pos c37] at H
          have c37b0 : (a0 == 15) = true := beq_iff_eq.mpr c37
          have c37b1 : (a0 != 15) = false := bne_eq_false_iff_eq.mpr c37
          clear c37
          simp only [Option.some.injEq, Prod.mk.injEq] at H
          obtain ⟨rfl, rfl⟩ := H
          go_wp2
          go_ret2
          exact ⟨by first | rfl | (simp; done) | (simp [*]; done), by repeat (first | exact Drawn0.refl _ | apply Drawn0.step)⟩
         ·rw [if_neg c37] at H
          have c37b0 : (a0 == 15) = false := beq_eq_false_iff_ne.mpr c37
          have c37b1 : (a0 != 15) = true := bne_iff_ne.mpr c37
          have HC38 := Aside0.mk H
          clear H
          go_upto_if 108 with (fail)
          go_cut [108] (fun v108 wc => ∃ (kq : Nat) (x108_37 : Bool), v108 = .bool x108_37 ∧ Aside0 (cellarref1_Two.j2 kq a0 a2 a3 t263 t264 t265 a0 x108_37 = some (r1, r2)) ∧ Aside0 (kq ≤ kj17) ∧ Drawn0 w wc)
          case first =>
           have H := HC38.out
           clear HC38
           by_cases c39 : a0 = 16
           ·rw [if_pos c39] at H
            have c39b0 : (a0 == 16) = true := beq_iff_eq.mpr c39
            have c39b1 : (a0 != 16) = false := bne_eq_false_iff_eq.mpr c39
            clear c39
            (first | rw [c39b0] | (simp only [i64_w, i32_w]; rw [c39b0]) | skip)
            have H' := Aside0.mk H
            clear H
            go_wp2
            go_meet
            case rel => exact ⟨_, ((a0 == 16)), (by first | rfl | (simp; done) | (simp [*]; done)), H', ⟨by have := HJ17.out; first | omega | exact Nat.le_refl _⟩, by repeat (first | exact Drawn0.refl _ | apply Drawn0.step)⟩
           ·rw [if_neg c39] at H
            have c39b0 : (a0 == 16) = false := beq_eq_false_iff_ne.mpr c39
            have c39b1 : (a0 != 16) = true := bne_iff_ne.mpr c39
            (first | rw [c39b0] | (simp only [i64_w, i32_w]; rw [c39b0]) | skip)
            have H' := Aside0.mk H
            clear H
            go_wp2
            go_meet
            case rel => exact ⟨_, ((a0 == 17)), (by first | rfl | (simp; done) | (simp [*]; done)), H', ⟨by have := HJ17.out; first | omega | exact Nat.le_refl _⟩, by repeat (first | exact Drawn0.refl _ | apply Drawn0.step)⟩
          case rest =>
           clear HC38
           try clear c1
           try clear c2
           try clear p2
           try clear c3
           try clear c6
           try clear p6
           try clear c7
           try clear c8
           try clear c8b0
           try clear c8b1
           try clear c10
           try clear c10b0
           try clear c10b1
           try clear c12
           try clear c12b0
           try clear c12b1
           try clear c14
           try clear c16
           try clear c16b0
           try clear c16b1
           try clear c17
           try clear c19
           try clear c19b0
           try clear c19b1
           try clear c20
           try clear c21
           try clear c21b0
           try clear c21b1
           try clear c24
           try clear c26
           try clear c26b0
           try clear c26b1
           try clear c28
           try clear c28b0
           try clear c28b1
           try clear c29
           try clear c30
           try clear c30b0
           try clear c30b1
           try clear c31
           try clear c31b0
           try clear c31b1
           try clear c33
           try clear c33b0
           try clear c33b1
           try clear c35
           try clear c35b0
           try clear c35b1
           try clear c36
           try clear c36b0
           try clear c36b1
           try clear c37
           try clear c37b0
           try clear c37b1
           try clear c39
           try clear c39b0
           try clear c39b1
           try clear p2
           try clear p6
           obtain ⟨kq, x108_37, rfl, HA, HJ37, ⟨mc37, rfl⟩⟩ := hcut
           cases kq with
           | zero => exact absurd HA.out (by simp [cellarref1_Two.j2])
           | succ kj37 =>
            have H := HA.out
            clear HA
            simp only [cellarref1_Two.j2] at H
            by_cases c40 : x108_37 = true
            ·subst c40
             have H1 : ((cellarref0_Num.f t265 (wrap64 (t263 - 1))).bind fun t276 => (if t276 = true then (if a0 = 16 then (if 0 ≤ t265 then ((cellarref1_Wrap.f (shl .i64 a2 t265) t263).bind fun t277 => (some (t277, 0))) else (none)) else (if 0 ≤ t265 then ((cellarref1_Wrap.f (shr .i64 t264 t265) t263).bind fun t278 => (some (t278, 0))) else (none))) else (some (0, 5)))) = some (r1, r2) := by rw [if_pos rfl] at H; exact H
             clear H
             have H := H1
             clear H1
             replace H := Option.bind_eq_some_iff.mp H
             obtain ⟨t276, A410, H⟩ := H
             replace H : (if t276 = true then (if a0 = 16 then (if 0 ≤ t265 then ((cellarref1_Wrap.f (shl .i64 a2 t265) t263).bind fun t277 => (some (t277, 0))) else (none)) else (if 0 ≤ t265 then ((cellarref1_Wrap.f (shr .i64 t264 t265) t263).bind fun t278 => (some (t278, 0))) else (none))) else (some (0, 5))) = some (r1, r2) := H
             have A41 := Aside0.mk A410
             clear A410
             by_cases c42 : t276 = true
             ·subst c42
              have H1 : (if a0 = 16 then (if 0 ≤ t265 then ((cellarref1_Wrap.f (shl .i64 a2 t265) t263).bind fun t277 => (some (t277, 0))) else (none)) else (if 0 ≤ t265 then ((cellarref1_Wrap.f (shr .i64 t264 t265) t263).bind fun t278 => (some (t278, 0))) else (none))) = some (r1, r2) := by rw [if_pos rfl] at H; exact H
              clear H
              have H := H1
              clear H1
              by_cases c43 : a0 = 16
              ·rw [if_pos c43] at H
               have c43b0 : (a0 == 16) = true := beq_iff_eq.mpr c43
               have c43b1 : (a0 != 16) = false := bne_eq_false_iff_eq.mpr c43
               clear c43
               by_cases c44 : 0 ≤ t265
               ·rw [if_pos c44] at H
                have c44b0 := eq_true c44
                have c44b1 : decide (0 ≤ t265) = true := decide_eq_true c44
                clear c44
                obtain ⟨ji45, hji45⟩ : ∃ j_ : Int, (shl .i64 a2 t265) = j_ := ⟨_, rfl⟩
                replace H : ((cellarref1_Wrap.f (ji45) t263).bind fun t277 => (some (t277, 0))) = some (r1, r2) := by first | (rw [hji45] at H; exact H) | (simp only [hji45] at H ⊢; exact H)
                (try rw [hji45] at A41)
                have hji45_ : (IntKind.i64.wrap (a2 * 2 ^ min t265.toNat 64)) = ji45 := hji45
                have hji45z : t265 ≤ 64 → (IntKind.i64.wrap (a2 * 2 ^ t265.toNat)) = ji45 := shl_small hji45
                have hji45y : (wrap64 (a2 * 2 ^ min t265.toNat 64)) = ji45 := (i64_w _).symm.trans hji45_
                have hji45x : t265 ≤ 64 → (wrap64 (a2 * 2 ^ t265.toNat)) = ji45 := fun h_ => (i64_w _).symm.trans (hji45z h_)
                replace H := Option.bind_eq_some_iff.mp H
                obtain ⟨t277, A460, H⟩ := H
                replace H : (some (t277, 0)) = some (r1, r2) := H
                have A46 := Aside0.mk A460
                clear A460
                simp only [Option.some.injEq, Prod.mk.injEq] at H
                obtain ⟨rfl, rfl⟩ := H
                go_wp2_with (first | ((with_reducible refine gate_callee (f := 61) rfl ?_); refine goesL_ (some 114) rfl rfl Try.func61 (by kernel_rfl) rfl #[.int .i64 t265, .int .i64 (wrap64 (t263 - 1))] rfl (by (try simp only [List.map_toArray, List.map_cons, List.map_nil]); first | done | rfl | (simp only [List.length_drop, List.length_take]; rfl)) ?_; (with_reducible refine (cellarref0_Num.calls t265 (wrap64 (t263 - 1)) true _ A41.out).mono ?_); rintro e w' ⟨rfl, ⟨nd, rfl⟩⟩; refine ⟨_, rfl, ?_⟩) | ((with_reducible refine gate_callee (f := 37) rfl ?_); refine goesL_ (some 122) rfl rfl Try.func37 (by kernel_rfl) rfl #[.int .i64 ji45, .int .i64 t263] rfl (by (try simp only [List.map_toArray, List.map_cons, List.map_nil]); first | done | (simp only [hji45]; rfl) | rfl | (simp only [List.length_drop, List.length_take]; rfl)) ?_; (with_reducible refine (cellarref1_Wrap.calls ji45 t263 t277 _ A46.out).mono ?_); rintro e w' ⟨rfl, ⟨nd, rfl⟩⟩; refine ⟨_, rfl, ?_⟩))
                go_ret2
                exact ⟨by first | rfl | (simp; done) | (simp only [← hji45] <;> (first | rfl | simp)) | (simp [*]; done), by repeat (first | exact Drawn0.refl _ | apply Drawn0.step)⟩
               ·rw [if_neg c44] at H
                exact absurd H (by simp)
              ·rw [if_neg c43] at H
               have c43b0 : (a0 == 16) = false := beq_eq_false_iff_ne.mpr c43
               have c43b1 : (a0 != 16) = true := bne_iff_ne.mpr c43
               by_cases c47 : 0 ≤ t265
               ·rw [if_pos c47] at H
                have c47b0 := eq_true c47
                have c47b1 : decide (0 ≤ t265) = true := decide_eq_true c47
                clear c47
                obtain ⟨ji48, hji48⟩ : ∃ j_ : Int, (shr .i64 t264 t265) = j_ := ⟨_, rfl⟩
                replace H : ((cellarref1_Wrap.f (ji48) t263).bind fun t278 => (some (t278, 0))) = some (r1, r2) := by first | (rw [hji48] at H; exact H) | (simp only [hji48] at H ⊢; exact H)
                (try rw [hji48] at A41)
                have hji48_ : (t264 / 2 ^ min t265.toNat 64) = ji48 := hji48
                have hji48z : t265 ≤ 64 → (t264 / 2 ^ t265.toNat) = ji48 := shr_small hji48
                replace H := Option.bind_eq_some_iff.mp H
                obtain ⟨t278, A490, H⟩ := H
                replace H : (some (t278, 0)) = some (r1, r2) := H
                have A49 := Aside0.mk A490
                clear A490
                simp only [Option.some.injEq, Prod.mk.injEq] at H
                obtain ⟨rfl, rfl⟩ := H
                go_wp2_with (first | ((with_reducible refine gate_callee (f := 61) rfl ?_); refine goesL_ (some 114) rfl rfl Try.func61 (by kernel_rfl) rfl #[.int .i64 t265, .int .i64 (wrap64 (t263 - 1))] rfl (by (try simp only [List.map_toArray, List.map_cons, List.map_nil]); first | done | rfl | (simp only [List.length_drop, List.length_take]; rfl)) ?_; (with_reducible refine (cellarref0_Num.calls t265 (wrap64 (t263 - 1)) true _ A41.out).mono ?_); rintro e w' ⟨rfl, ⟨nd, rfl⟩⟩; refine ⟨_, rfl, ?_⟩) | ((with_reducible refine gate_callee (f := 37) rfl ?_); refine goesL_ (some 127) rfl rfl Try.func37 (by kernel_rfl) rfl #[.int .i64 ji48, .int .i64 t263] rfl (by (try simp only [List.map_toArray, List.map_cons, List.map_nil]); first | done | (simp only [hji48]; rfl) | rfl | (simp only [List.length_drop, List.length_take]; rfl)) ?_; (with_reducible refine (cellarref1_Wrap.calls ji48 t263 t278 _ A49.out).mono ?_); rintro e w' ⟨rfl, ⟨nd, rfl⟩⟩; refine ⟨_, rfl, ?_⟩))
                go_ret2
                exact ⟨by first | rfl | (simp; done) | (simp only [← hji48] <;> (first | rfl | simp)) | (simp [*]; done), by repeat (first | exact Drawn0.refl _ | apply Drawn0.step)⟩
               ·rw [if_neg c47] at H
                exact absurd H (by simp)
             ·replace c42 := Bool.eq_false_iff.mpr c42
              subst c42
              have H1 : (some (0, 5)) = some (r1, r2) := by rw [if_neg (show ¬ (false = true) by decide)] at H; exact H
              clear H
              have H := H1
              clear H1
              simp only [Option.some.injEq, Prod.mk.injEq] at H
              obtain ⟨rfl, rfl⟩ := H
              go_wp2_with (first | ((with_reducible refine gate_callee (f := 61) rfl ?_); refine goesL_ (some 114) rfl rfl Try.func61 (by kernel_rfl) rfl #[.int .i64 t265, .int .i64 (wrap64 (t263 - 1))] rfl (by (try simp only [List.map_toArray, List.map_cons, List.map_nil]); first | done | rfl | (simp only [List.length_drop, List.length_take]; rfl)) ?_; (with_reducible refine (cellarref0_Num.calls t265 (wrap64 (t263 - 1)) false _ A41.out).mono ?_); rintro e w' ⟨rfl, ⟨nd, rfl⟩⟩; refine ⟨_, rfl, ?_⟩))
              go_ret2
              exact ⟨by first | rfl | (simp; done) | (simp [*]; done), by repeat (first | exact Drawn0.refl _ | apply Drawn0.step)⟩
            ·replace c40 := Bool.eq_false_iff.mpr c40
             subst c40
             have H1 : (if a0 = 18 then ((cellarref1_truth.f (a2 == a3)).bind fun t279 => (some (t279, 0))) else ((cellarref1_truth.f (decide (t264 < t265))).bind fun t280 => (some (t280, 0)))) = some (r1, r2) := by rw [if_neg (show ¬ (false = true) by decide)] at H; exact H
             clear H
             have H := H1
             clear H1
             by_cases c50 : a0 = 18
             ·rw [if_pos c50] at H
              have c50b0 : (a0 == 18) = true := beq_iff_eq.mpr c50
              have c50b1 : (a0 != 18) = false := bne_eq_false_iff_eq.mpr c50
              clear c50
              replace H := Option.bind_eq_some_iff.mp H
              obtain ⟨t279, A510, H⟩ := H
              replace H : (some (t279, 0)) = some (r1, r2) := H
              have A51 := Aside0.mk A510
              clear A510
              simp only [Option.some.injEq, Prod.mk.injEq] at H
              obtain ⟨rfl, rfl⟩ := H
              go_wp2_with (first | ((with_reducible refine gate_callee (f := 74) rfl ?_); refine goesL_ (some 133) rfl rfl Try.func74 (by kernel_rfl) rfl #[.bool (a2 == a3)] rfl (by (try simp only [List.map_toArray, List.map_cons, List.map_nil]); first | done | rfl | (simp only [List.length_drop, List.length_take]; rfl)) ?_; (with_reducible refine (cellarref1_truth.calls (a2 == a3) t279 _ A51.out).mono ?_); rintro e w' ⟨rfl, ⟨nd, rfl⟩⟩; refine ⟨_, rfl, ?_⟩))
              go_ret2
              exact ⟨by first | rfl | (simp; done) | (simp [*]; done), by repeat (first | exact Drawn0.refl _ | apply Drawn0.step)⟩
             ·rw [if_neg c50] at H
              have c50b0 : (a0 == 18) = false := beq_eq_false_iff_ne.mpr c50
              have c50b1 : (a0 != 18) = true := bne_iff_ne.mpr c50
              replace H := Option.bind_eq_some_iff.mp H
              obtain ⟨t280, A520, H⟩ := H
              replace H : (some (t280, 0)) = some (r1, r2) := H
              have A52 := Aside0.mk A520
              clear A520
              simp only [Option.some.injEq, Prod.mk.injEq] at H
              obtain ⟨rfl, rfl⟩ := H
              go_wp2_with (first | ((with_reducible refine gate_callee (f := 74) rfl ?_); refine goesL_ (some 137) rfl rfl Try.func74 (by kernel_rfl) rfl #[.bool (decide (t264 < t265))] rfl (by (try simp only [List.map_toArray, List.map_cons, List.map_nil]); first | done | rfl | (simp only [List.length_drop, List.length_take]; rfl)) ?_; (with_reducible refine (cellarref1_truth.calls (decide (t264 < t265)) t280 _ A52.out).mono ?_); rintro e w' ⟨rfl, ⟨nd, rfl⟩⟩; refine ⟨_, rfl, ?_⟩))
              go_ret2
              exact ⟨by first | rfl | (simp; done) | (simp [*]; done), by repeat (first | exact Drawn0.refl _ | apply Drawn0.step)⟩

end Go.Proofs.Ytjhgpankffdnaaa.A
