-- Written by this session's own edition of the print.
import Derived.Test.YtjoplkillkhiaaaMx0
import Derived.Test.YtjoplkillkhiaaaMx1
import Derived.Test.YtjoplkillkhiaaaMx3
import Derived.Test.YtjoplkillkhiaaaMx7
import Derived.Test.YtjoplkillkhiaaaMx8
import Derived.Test.YtjoplkillkhiaaaMx12
import Derived.Test.YtjoplkillkhiaaaSq
import Derived.Test.YtjoplkillkhiaaaSq2
namespace Go.Proofs.Ytjoplkillkhiaaa.M
open Go.RowKit Go.Proofs.Ytjoplkillkhiaaa.Fn Go.Proofs.YtjoplkillkhiaaaW.PrintWords Go.Proofs.YtjoplkillkhiaaaW.PrintLast Go.Proofs.YtjoplkillkhiaaaW.PrintMore
attribute [local go_sem] max2_int min2_int max_two min_two max_three min_three max_four min_four   -- for this text's walks alone
set_option linter.unusedVariables false
set_option linter.unusedSimpArgs false

attribute [local go_sem high] eqA62
/-! mem_Apart -/
def mem_Apart.f (l0 : List (S76)) (a1_0 : Bool) (a1_1 : Int) (a1_2 : Int) (a1_3 : Int) (a2_0 : Bool) (a2_1 : Int) (a2_2 : Int) (a2_3 : Int) : Option (Int × Int × Int) := (mem_May.f l0).bind fun t316 => (if t316 = true then ((mem_there.f l0 a1_0 a1_1 a1_2 a1_3).bind fun t317 => (if t317 = true then ((mem_there.f l0 a2_0 a2_1 a2_2 a2_3).bind fun t318 => (if t318 = true then ((mem_Less.f a1_0 a1_1 a1_2 a1_3 a2_0 a2_1 a2_2 a2_3).bind fun bt319 => (some (bt319.1, bt319.2, 0))) else (some (0, 0, 1)))) else (some (0, 0, 1)))) else (some (0, 0, 1)))
set_option maxHeartbeats 8000000 in
set_option maxRecDepth 100000 in
theorem mem_Apart.calls (A0 : Option Addr) (c0 : Nat) (l0 : List (S76)) (a1_0 : Bool) (a1_1 : Int) (a1_2 : Int) (a1_3 : Int) (a2_0 : Bool) (a2_1 : Int) (a2_2 : Int) (a2_3 : Int) (r1 : Int) (r2 : Int) (r3 : Int) (w : World) (hr0 : Kd.C k76 w A0 l0.length l0) (hc0 : l0.length ≤ c0) (h : mem_Apart.f l0 a1_0 a1_1 a1_2 a1_3 a2_0 a2_1 a2_2 a2_3 = some (r1, r2, r3)) :
  Calls Try.prog 45 #[.slice A0 l0.length c0, .agg #[.bool a1_0, .int .i64 a1_1, .int .i64 a1_2, .int .i64 a1_3], .agg #[.bool a2_0, .int .i64 a2_1, .int .i64 a2_2, .int .i64 a2_3]] w fun e w' => e = .returned (.tuple #[.int .i64 r1, .int .i64 r2, .int .i64 r3]) ∧ Below w.heap.size w w' := by
 have hu62 := Try.underlying62
 have HR0 := Aside0.mk hr0
 have HC0 := Aside0.mk hc0
 clear hr0 hc0
 have HB := Aside0.mk (Below.refl w.heap.size w)
 have H : ((mem_May.f l0).bind fun t316 => (if t316 = true then ((mem_there.f l0 a1_0 a1_1 a1_2 a1_3).bind fun t317 => (if t317 = true then ((mem_there.f l0 a2_0 a2_1 a2_2 a2_3).bind fun t318 => (if t318 = true then ((mem_Less.f a1_0 a1_1 a1_2 a1_3 a2_0 a2_1 a2_2 a2_3).bind fun bt319 => (some (bt319.1, bt319.2, 0))) else (some (0, 0, 1)))) else (some (0, 0, 1)))) else (some (0, 0, 1)))) = some (r1, r2, r3) := h
 clear h
 replace H := Option.bind_eq_some_iff.mp H
 obtain ⟨t316, A40, H⟩ := H
 replace H : (if t316 = true then ((mem_there.f l0 a1_0 a1_1 a1_2 a1_3).bind fun t317 => (if t317 = true then ((mem_there.f l0 a2_0 a2_1 a2_2 a2_3).bind fun t318 => (if t318 = true then ((mem_Less.f a1_0 a1_1 a1_2 a1_3 a2_0 a2_1 a2_2 a2_3).bind fun bt319 => (some (bt319.1, bt319.2, 0))) else (some (0, 0, 1)))) else (some (0, 0, 1)))) else (some (0, 0, 1))) = some (r1, r2, r3) := H
 have A4 := Aside0.mk A40
 clear A40
 by_cases c5 : t316 = true
 ·subst c5
  have H1 : ((mem_there.f l0 a1_0 a1_1 a1_2 a1_3).bind fun t317 => (if t317 = true then ((mem_there.f l0 a2_0 a2_1 a2_2 a2_3).bind fun t318 => (if t318 = true then ((mem_Less.f a1_0 a1_1 a1_2 a1_3 a2_0 a2_1 a2_2 a2_3).bind fun bt319 => (some (bt319.1, bt319.2, 0))) else (some (0, 0, 1)))) else (some (0, 0, 1)))) = some (r1, r2, r3) := by rw [if_pos rfl] at H; exact H
  clear H
  have H := H1
  clear H1
  replace H := Option.bind_eq_some_iff.mp H
  obtain ⟨t317, A60, H⟩ := H
  replace H : (if t317 = true then ((mem_there.f l0 a2_0 a2_1 a2_2 a2_3).bind fun t318 => (if t318 = true then ((mem_Less.f a1_0 a1_1 a1_2 a1_3 a2_0 a2_1 a2_2 a2_3).bind fun bt319 => (some (bt319.1, bt319.2, 0))) else (some (0, 0, 1)))) else (some (0, 0, 1))) = some (r1, r2, r3) := H
  have A6 := Aside0.mk A60
  clear A60
  by_cases c7 : t317 = true
  rotate_left
  ·replace c7 := Bool.eq_false_iff.mpr c7
   subst c7
   have H1 : (some (0, 0, 1)) = some (r1, r2, r3) := by rw [if_neg (show ¬ (false = true) by decide)] at H; exact H
   clear H
   have H := H1
   clear H1
   simp only [Option.some.injEq, Prod.mk.injEq] at H
   obtain ⟨rfl, rfl, rfl⟩ := H
   go_enter Try.func45, Try.ntmps45
   go_wp2_with (first | ((with_reducible refine gate_dst (N := 4) rfl ?_); refine zbox (N := 4) (cs := #[.bool a1_0, .int .i64 a1_1, .int .i64 a1_2, .int .i64 a1_3]) (t := 62) ?_; intro gb314 hg w30 hbox hb; have n0_ := Aside0.mk (below_step (zw0 HB.out) hb); have BK314 := Aside0.mk (hbox); have GW314 := Aside0.mk (zg hg (below_size (zw0 HB.out))); have GE314 := GW314; clear HB; have HB := n0_; clear n0_; clear hb hbox hg) | ((with_reducible refine gate_dst (N := 5) rfl ?_); refine zbox (N := 5) (cs := #[.bool a2_0, .int .i64 a2_1, .int .i64 a2_2, .int .i64 a2_3]) (t := 62) ?_; intro gb315 hg w31 hbox hb; have n0_ := Aside0.mk (zbb BK314.out hb); have n1_ := Aside0.mk (below_step (zw1 HB.out GE314.out) hb); have BK315 := Aside0.mk (hbox); have GW315 := Aside0.mk (zg hg (below_size (zw1 HB.out GE314.out))); have GE315 := GW315; have NB314_315 := Aside0.mk (zlt hg BK314.out); have NB315_314 := Aside0.mk (zgt hg BK314.out); clear BK314 HB; have BK314 := n0_; have HB := n1_; clear n0_ n1_; clear hb hbox hg) | ((with_reducible refine gate_callee (f := 77) rfl ?_); refine zgo (some 10) Try.func77 #[.slice A0 l0.length c0] ?_; (with_reducible refine (mem_May.calls _ _ l0 true _ ?side1 ?side2 A4.out).mono ?_); (case side1 => repeat (first | exact (Kd.C_below HR0.out HB.out) | (with_reducible refine Kd.C_alloc ?_ _) | (with_reducible refine Kd.C_drewN ?_ _) | (with_reducible refine Kd.C_drew ?_))); (case side2 => exact HC0.out); rintro e w32 ⟨rfl, hb⟩; refine ⟨_, rfl, ?_⟩; have n0_ := Aside0.mk (zbb BK314.out hb); have n1_ := Aside0.mk (zbb BK315.out hb); have n2_ := Aside0.mk (below_step (zw2 HB.out GE314.out GE315.out) hb); clear BK314 BK315 HB; have BK314 := n0_; have BK315 := n1_; have HB := n2_; clear n0_ n1_ n2_; (try clear hb); (try clear hb2); (try clear hk); (try clear hi); have hnb33 := NB314_315.out; have hnc33 := NB315_314.out; have hcz34_0 := zc BK314.out 0; have hcz34_1 := zc BK314.out 1; have hcz34_2 := zc BK314.out 2; have hcz34_3 := zc BK314.out 3; have hfz34_0 := blk_frozen BK314.out 0; have hfz34_1 := blk_frozen BK314.out 1; have hfz34_2 := blk_frozen BK314.out 2; have hfz34_3 := blk_frozen BK314.out 3) | (go_at_call 78; (with_reducible refine (mem_there.calls _ _ l0 a1_0 a1_1 a1_2 a1_3 false _ ?side1 ?side2 A6.out).mono ?_); (case side1 => repeat (first | exact (Kd.C_below HR0.out HB.out) | (with_reducible refine Kd.C_alloc ?_ _) | (with_reducible refine Kd.C_drewN ?_ _) | (with_reducible refine Kd.C_drew ?_))); (case side2 => exact HC0.out); rintro e w35 ⟨rfl, hb⟩; have n0_ := Aside0.mk (zbb BK314.out hb); have n1_ := Aside0.mk (zbb BK315.out hb); have n2_ := Aside0.mk (below_step (zw2 HB.out GE314.out GE315.out) hb); clear BK314 BK315 HB; have BK314 := n0_; have BK315 := n1_; have HB := n2_; clear n0_ n1_ n2_; (try clear hb); (try clear hb2); (try clear hk); (try clear hi)))
   go_ret3
   exact ⟨ze, zw2 HB.out GE314.out GE315.out⟩
  subst c7
  have H1 : ((mem_there.f l0 a2_0 a2_1 a2_2 a2_3).bind fun t318 => (if t318 = true then ((mem_Less.f a1_0 a1_1 a1_2 a1_3 a2_0 a2_1 a2_2 a2_3).bind fun bt319 => (some (bt319.1, bt319.2, 0))) else (some (0, 0, 1)))) = some (r1, r2, r3) := by rw [if_pos rfl] at H; exact H
  clear H
  have H := H1
  clear H1
  replace H := Option.bind_eq_some_iff.mp H
  obtain ⟨t318, A80, H⟩ := H
  replace H : (if t318 = true then ((mem_Less.f a1_0 a1_1 a1_2 a1_3 a2_0 a2_1 a2_2 a2_3).bind fun bt319 => (some (bt319.1, bt319.2, 0))) else (some (0, 0, 1))) = some (r1, r2, r3) := H
  have A8 := Aside0.mk A80
  clear A80
  by_cases c9 : t318 = true
  rotate_left
  ·replace c9 := Bool.eq_false_iff.mpr c9
   subst c9
   have H1 : (some (0, 0, 1)) = some (r1, r2, r3) := by rw [if_neg (show ¬ (false = true) by decide)] at H; exact H
   clear H
   have H := H1
   clear H1
   simp only [Option.some.injEq, Prod.mk.injEq] at H
   obtain ⟨rfl, rfl, rfl⟩ := H
   go_enter Try.func45, Try.ntmps45
   go_wp2_with (first | ((with_reducible refine gate_dst (N := 4) rfl ?_); refine zbox (N := 4) (cs := #[.bool a1_0, .int .i64 a1_1, .int .i64 a1_2, .int .i64 a1_3]) (t := 62) ?_; intro gb314 hg w22 hbox hb; have n0_ := Aside0.mk (below_step (zw0 HB.out) hb); have BK314 := Aside0.mk (hbox); have GW314 := Aside0.mk (zg hg (below_size (zw0 HB.out))); have GE314 := GW314; clear HB; have HB := n0_; clear n0_; clear hb hbox hg) | ((with_reducible refine gate_dst (N := 5) rfl ?_); refine zbox (N := 5) (cs := #[.bool a2_0, .int .i64 a2_1, .int .i64 a2_2, .int .i64 a2_3]) (t := 62) ?_; intro gb315 hg w23 hbox hb; have n0_ := Aside0.mk (zbb BK314.out hb); have n1_ := Aside0.mk (below_step (zw1 HB.out GE314.out) hb); have BK315 := Aside0.mk (hbox); have GW315 := Aside0.mk (zg hg (below_size (zw1 HB.out GE314.out))); have GE315 := GW315; have NB314_315 := Aside0.mk (zlt hg BK314.out); have NB315_314 := Aside0.mk (zgt hg BK314.out); clear BK314 HB; have BK314 := n0_; have HB := n1_; clear n0_ n1_; clear hb hbox hg) | ((with_reducible refine gate_callee (f := 77) rfl ?_); refine zgo (some 10) Try.func77 #[.slice A0 l0.length c0] ?_; (with_reducible refine (mem_May.calls _ _ l0 true _ ?side1 ?side2 A4.out).mono ?_); (case side1 => repeat (first | exact (Kd.C_below HR0.out HB.out) | (with_reducible refine Kd.C_alloc ?_ _) | (with_reducible refine Kd.C_drewN ?_ _) | (with_reducible refine Kd.C_drew ?_))); (case side2 => exact HC0.out); rintro e w24 ⟨rfl, hb⟩; refine ⟨_, rfl, ?_⟩; have n0_ := Aside0.mk (zbb BK314.out hb); have n1_ := Aside0.mk (zbb BK315.out hb); have n2_ := Aside0.mk (below_step (zw2 HB.out GE314.out GE315.out) hb); clear BK314 BK315 HB; have BK314 := n0_; have BK315 := n1_; have HB := n2_; clear n0_ n1_ n2_; (try clear hb); (try clear hb2); (try clear hk); (try clear hi); have hnb25 := NB314_315.out; have hnc25 := NB315_314.out; have hcz26_0 := zc BK314.out 0; have hcz26_1 := zc BK314.out 1; have hcz26_2 := zc BK314.out 2; have hcz26_3 := zc BK314.out 3; have hfz26_0 := blk_frozen BK314.out 0; have hfz26_1 := blk_frozen BK314.out 1; have hfz26_2 := blk_frozen BK314.out 2; have hfz26_3 := blk_frozen BK314.out 3) | (go_at_call 78; (with_reducible refine (mem_there.calls _ _ l0 a1_0 a1_1 a1_2 a1_3 true _ ?side1 ?side2 A6.out).mono ?_); (case side1 => repeat (first | exact (Kd.C_below HR0.out HB.out) | (with_reducible refine Kd.C_alloc ?_ _) | (with_reducible refine Kd.C_drewN ?_ _) | (with_reducible refine Kd.C_drew ?_))); (case side2 => exact HC0.out); rintro e w27 ⟨rfl, hb⟩; have n0_ := Aside0.mk (zbb BK314.out hb); have n1_ := Aside0.mk (zbb BK315.out hb); have n2_ := Aside0.mk (below_step (zw2 HB.out GE314.out GE315.out) hb); clear BK314 BK315 HB; have BK314 := n0_; have BK315 := n1_; have HB := n2_; clear n0_ n1_ n2_; (try clear hb); (try clear hb2); (try clear hk); (try clear hi); have hcz28_0 := zc BK315.out 0; have hcz28_1 := zc BK315.out 1; have hcz28_2 := zc BK315.out 2; have hcz28_3 := zc BK315.out 3; have hfz28_0 := blk_frozen BK315.out 0; have hfz28_1 := blk_frozen BK315.out 1; have hfz28_2 := blk_frozen BK315.out 2; have hfz28_3 := blk_frozen BK315.out 3) | (go_at_call 78; (with_reducible refine (mem_there.calls _ _ l0 a2_0 a2_1 a2_2 a2_3 false _ ?side1 ?side2 A8.out).mono ?_); (case side1 => repeat (first | exact (Kd.C_below HR0.out HB.out) | (with_reducible refine Kd.C_alloc ?_ _) | (with_reducible refine Kd.C_drewN ?_ _) | (with_reducible refine Kd.C_drew ?_))); (case side2 => exact HC0.out); rintro e w29 ⟨rfl, hb⟩; have n0_ := Aside0.mk (zbb BK314.out hb); have n1_ := Aside0.mk (zbb BK315.out hb); have n2_ := Aside0.mk (below_step (zw2 HB.out GE314.out GE315.out) hb); clear BK314 BK315 HB; have BK314 := n0_; have BK315 := n1_; have HB := n2_; clear n0_ n1_ n2_; (try clear hb); (try clear hb2); (try clear hk); (try clear hi)))
   go_ret3
   exact ⟨ze, zw2 HB.out GE314.out GE315.out⟩
  subst c9
  have H1 : ((mem_Less.f a1_0 a1_1 a1_2 a1_3 a2_0 a2_1 a2_2 a2_3).bind fun bt319 => (some (bt319.1, bt319.2, 0))) = some (r1, r2, r3) := by rw [if_pos rfl] at H; exact H
  clear H
  have H := H1
  clear H1
  replace H := Option.bind_eq_some_iff.mp H
  obtain ⟨⟨t319, t320⟩, A100, H⟩ := H
  replace H : (some (t319, t320, 0)) = some (r1, r2, r3) := H
  have A10 := Aside0.mk A100
  clear A100
  simp only [Option.some.injEq, Prod.mk.injEq] at H
  obtain ⟨rfl, rfl, rfl⟩ := H
  go_enter Try.func45, Try.ntmps45
  go_wp2_with (first | ((with_reducible refine gate_dst (N := 4) rfl ?_); refine zbox (N := 4) (cs := #[.bool a1_0, .int .i64 a1_1, .int .i64 a1_2, .int .i64 a1_3]) (t := 62) ?_; intro gb314 hg w11 hbox hb; have n0_ := Aside0.mk (below_step (zw0 HB.out) hb); have BK314 := Aside0.mk (hbox); have GW314 := Aside0.mk (zg hg (below_size (zw0 HB.out))); have GE314 := GW314; clear HB; have HB := n0_; clear n0_; clear hb hbox hg) | ((with_reducible refine gate_dst (N := 5) rfl ?_); refine zbox (N := 5) (cs := #[.bool a2_0, .int .i64 a2_1, .int .i64 a2_2, .int .i64 a2_3]) (t := 62) ?_; intro gb315 hg w12 hbox hb; have n0_ := Aside0.mk (zbb BK314.out hb); have n1_ := Aside0.mk (below_step (zw1 HB.out GE314.out) hb); have BK315 := Aside0.mk (hbox); have GW315 := Aside0.mk (zg hg (below_size (zw1 HB.out GE314.out))); have GE315 := GW315; have NB314_315 := Aside0.mk (zlt hg BK314.out); have NB315_314 := Aside0.mk (zgt hg BK314.out); clear BK314 HB; have BK314 := n0_; have HB := n1_; clear n0_ n1_; clear hb hbox hg) | ((with_reducible refine gate_callee (f := 77) rfl ?_); refine zgo (some 10) Try.func77 #[.slice A0 l0.length c0] ?_; (with_reducible refine (mem_May.calls _ _ l0 true _ ?side1 ?side2 A4.out).mono ?_); (case side1 => repeat (first | exact (Kd.C_below HR0.out HB.out) | (with_reducible refine Kd.C_alloc ?_ _) | (with_reducible refine Kd.C_drewN ?_ _) | (with_reducible refine Kd.C_drew ?_))); (case side2 => exact HC0.out); rintro e w13 ⟨rfl, hb⟩; refine ⟨_, rfl, ?_⟩; have n0_ := Aside0.mk (zbb BK314.out hb); have n1_ := Aside0.mk (zbb BK315.out hb); have n2_ := Aside0.mk (below_step (zw2 HB.out GE314.out GE315.out) hb); clear BK314 BK315 HB; have BK314 := n0_; have BK315 := n1_; have HB := n2_; clear n0_ n1_ n2_; (try clear hb); (try clear hb2); (try clear hk); (try clear hi); have hnb14 := NB314_315.out; have hnc14 := NB315_314.out; have hcz15_0 := zc BK314.out 0; have hcz15_1 := zc BK314.out 1; have hcz15_2 := zc BK314.out 2; have hcz15_3 := zc BK314.out 3; have hfz15_0 := blk_frozen BK314.out 0; have hfz15_1 := blk_frozen BK314.out 1; have hfz15_2 := blk_frozen BK314.out 2; have hfz15_3 := blk_frozen BK314.out 3) | (go_at_call 78; (with_reducible refine (mem_there.calls _ _ l0 a1_0 a1_1 a1_2 a1_3 true _ ?side1 ?side2 A6.out).mono ?_); (case side1 => repeat (first | exact (Kd.C_below HR0.out HB.out) | (with_reducible refine Kd.C_alloc ?_ _) | (with_reducible refine Kd.C_drewN ?_ _) | (with_reducible refine Kd.C_drew ?_))); (case side2 => exact HC0.out); rintro e w16 ⟨rfl, hb⟩; have n0_ := Aside0.mk (zbb BK314.out hb); have n1_ := Aside0.mk (zbb BK315.out hb); have n2_ := Aside0.mk (below_step (zw2 HB.out GE314.out GE315.out) hb); clear BK314 BK315 HB; have BK314 := n0_; have BK315 := n1_; have HB := n2_; clear n0_ n1_ n2_; (try clear hb); (try clear hb2); (try clear hk); (try clear hi); have hcz17_0 := zc BK315.out 0; have hcz17_1 := zc BK315.out 1; have hcz17_2 := zc BK315.out 2; have hcz17_3 := zc BK315.out 3; have hfz17_0 := blk_frozen BK315.out 0; have hfz17_1 := blk_frozen BK315.out 1; have hfz17_2 := blk_frozen BK315.out 2; have hfz17_3 := blk_frozen BK315.out 3) | (go_at_call 78; (with_reducible refine (mem_there.calls _ _ l0 a2_0 a2_1 a2_2 a2_3 true _ ?side1 ?side2 A8.out).mono ?_); (case side1 => repeat (first | exact (Kd.C_below HR0.out HB.out) | (with_reducible refine Kd.C_alloc ?_ _) | (with_reducible refine Kd.C_drewN ?_ _) | (with_reducible refine Kd.C_drew ?_))); (case side2 => exact HC0.out); rintro e w18 ⟨rfl, hb⟩; have n0_ := Aside0.mk (zbb BK314.out hb); have n1_ := Aside0.mk (zbb BK315.out hb); have n2_ := Aside0.mk (below_step (zw2 HB.out GE314.out GE315.out) hb); clear BK314 BK315 HB; have BK314 := n0_; have BK315 := n1_; have HB := n2_; clear n0_ n1_ n2_; (try clear hb); (try clear hb2); (try clear hk); (try clear hi); have hcz19_0 := zc BK314.out 0; have hcz19_1 := zc BK314.out 1; have hcz19_2 := zc BK314.out 2; have hcz19_3 := zc BK314.out 3; have hfz19_0 := blk_frozen BK314.out 0; have hfz19_1 := blk_frozen BK314.out 1; have hfz19_2 := blk_frozen BK314.out 2; have hfz19_3 := blk_frozen BK314.out 3; have hcz20_0 := zc BK315.out 0; have hcz20_1 := zc BK315.out 1; have hcz20_2 := zc BK315.out 2; have hcz20_3 := zc BK315.out 3; have hfz20_0 := blk_frozen BK315.out 0; have hfz20_1 := blk_frozen BK315.out 1; have hfz20_2 := blk_frozen BK315.out 2; have hfz20_3 := blk_frozen BK315.out 3) | ((with_reducible refine gate_callee (f := 81) rfl ?_); refine zgo (some 27) Try.func81 #[.agg #[.bool a1_0, .int .i64 a1_1, .int .i64 a1_2, .int .i64 a1_3], .agg #[.bool a2_0, .int .i64 a2_1, .int .i64 a2_2, .int .i64 a2_3]] ?_; (with_reducible refine (mem_Less.calls a1_0 a1_1 a1_2 a1_3 a2_0 a2_1 a2_2 a2_3 t319 t320 _ A10.out).mono ?_); rintro e w21 ⟨rfl, hb⟩; refine ⟨_, rfl, ?_⟩; have n0_ := Aside0.mk (zbb BK314.out hb); have n1_ := Aside0.mk (zbb BK315.out hb); have n2_ := Aside0.mk (below_step (zw2 HB.out GE314.out GE315.out) hb); clear BK314 BK315 HB; have BK314 := n0_; have BK315 := n1_; have HB := n2_; clear n0_ n1_ n2_; (try clear hb); (try clear hb2); (try clear hk); (try clear hi)))
  go_ret3
  exact ⟨ze, zw2 HB.out GE314.out GE315.out⟩
 ·replace c5 := Bool.eq_false_iff.mpr c5
  subst c5
  have H1 : (some (0, 0, 1)) = some (r1, r2, r3) := by rw [if_neg (show ¬ (false = true) by decide)] at H; exact H
  clear H
  have H := H1
  clear H1
  simp only [Option.some.injEq, Prod.mk.injEq] at H
  obtain ⟨rfl, rfl, rfl⟩ := H
  go_enter Try.func45, Try.ntmps45
  go_wp2_with (first | ((with_reducible refine gate_dst (N := 4) rfl ?_); refine zbox (N := 4) (cs := #[.bool a1_0, .int .i64 a1_1, .int .i64 a1_2, .int .i64 a1_3]) (t := 62) ?_; intro gb314 hg w36 hbox hb; have n0_ := Aside0.mk (below_step (zw0 HB.out) hb); have BK314 := Aside0.mk (hbox); have GW314 := Aside0.mk (zg hg (below_size (zw0 HB.out))); have GE314 := GW314; clear HB; have HB := n0_; clear n0_; clear hb hbox hg) | ((with_reducible refine gate_dst (N := 5) rfl ?_); refine zbox (N := 5) (cs := #[.bool a2_0, .int .i64 a2_1, .int .i64 a2_2, .int .i64 a2_3]) (t := 62) ?_; intro gb315 hg w37 hbox hb; have n0_ := Aside0.mk (zbb BK314.out hb); have n1_ := Aside0.mk (below_step (zw1 HB.out GE314.out) hb); have BK315 := Aside0.mk (hbox); have GW315 := Aside0.mk (zg hg (below_size (zw1 HB.out GE314.out))); have GE315 := GW315; have NB314_315 := Aside0.mk (zlt hg BK314.out); have NB315_314 := Aside0.mk (zgt hg BK314.out); clear BK314 HB; have BK314 := n0_; have HB := n1_; clear n0_ n1_; clear hb hbox hg) | ((with_reducible refine gate_callee (f := 77) rfl ?_); refine zgo (some 10) Try.func77 #[.slice A0 l0.length c0] ?_; (with_reducible refine (mem_May.calls _ _ l0 false _ ?side1 ?side2 A4.out).mono ?_); (case side1 => repeat (first | exact (Kd.C_below HR0.out HB.out) | (with_reducible refine Kd.C_alloc ?_ _) | (with_reducible refine Kd.C_drewN ?_ _) | (with_reducible refine Kd.C_drew ?_))); (case side2 => exact HC0.out); rintro e w38 ⟨rfl, hb⟩; refine ⟨_, rfl, ?_⟩; have n0_ := Aside0.mk (zbb BK314.out hb); have n1_ := Aside0.mk (zbb BK315.out hb); have n2_ := Aside0.mk (below_step (zw2 HB.out GE314.out GE315.out) hb); clear BK314 BK315 HB; have BK314 := n0_; have BK315 := n1_; have HB := n2_; clear n0_ n1_ n2_; (try clear hb); (try clear hb2); (try clear hk); (try clear hi)))
  go_ret3
  exact ⟨ze, zw2 HB.out GE314.out GE315.out⟩

/-! cellarref1_View -/
def cellarref1_View.f (a0 : Int) (a1 : Int) : Option (Int) := if 0 ≤ (wrap64 (a1 - 1)) then (if a0 ≥ (shl .i64 1 (wrap64 (a1 - 1))) then (if 0 ≤ a1 then (some (wrap64 (a0 - (shl .i64 1 a1)))) else (none)) else (some a0)) else (none)
set_option maxHeartbeats 8000000 in
set_option maxRecDepth 100000 in
theorem cellarref1_View.calls (a0 : Int) (a1 : Int) (r : Int) (w : World) (h : cellarref1_View.f a0 a1 = some r) :
  Calls Try.prog 82 #[.int .i64 a0, .int .i64 a1] w fun e w' => e = .returned (.int .i64 r) ∧ Drawn0 w w' := by
 have H : (if 0 ≤ (wrap64 (a1 - 1)) then (if a0 ≥ (shl .i64 1 (wrap64 (a1 - 1))) then (if 0 ≤ a1 then (some (wrap64 (a0 - (shl .i64 1 a1)))) else (none)) else (some a0)) else (none)) = some r := h
 clear h
 obtain ⟨ji3, hji3⟩ : ∃ j_ : Int, (wrap64 (a1 - 1)) = j_ := ⟨_, rfl⟩
 replace H : (if 0 ≤ (ji3) then (if a0 ≥ (shl .i64 1 (ji3)) then (if 0 ≤ a1 then (some (wrap64 (a0 - (shl .i64 1 a1)))) else (none)) else (some a0)) else (none)) = some r := by first | (rw [hji3] at H; exact H) | (simp only [hji3] at H ⊢; exact H)
 have hji3w : (IntKind.i64.wrap (a1 - 1)) = ji3 := (i64_w _).trans hji3
 by_cases c4 : 0 ≤ (ji3)
 ·rw [if_pos c4] at H
  have c4b0 := eq_true c4
  have c4b1 : decide (0 ≤ (ji3)) = true := decide_eq_true c4
  clear c4
  obtain ⟨ji5, hji5⟩ : ∃ j_ : Int, (shl .i64 1 (ji3)) = j_ := ⟨_, rfl⟩
  replace H : (if a0 ≥ (ji5) then (if 0 ≤ a1 then (some (wrap64 (a0 - (shl .i64 1 a1)))) else (none)) else (some a0)) = some r := by first | (rw [hji5] at H; exact H) | (simp only [hji5] at H ⊢; exact H)
  have hji5_ : (IntKind.i64.wrap (1 * 2 ^ min (ji3).toNat 64)) = ji5 := hji5
  have hji5z : (ji3) ≤ 64 → (IntKind.i64.wrap (1 * 2 ^ (ji3).toNat)) = ji5 := shl_small hji5
  have hji5u : (IntKind.i64.wrap (2 ^ min (ji3).toNat 64)) = ji5 := by have h_ := hji5_; rw [Int.one_mul] at h_; exact h_
  have hji5v : (ji3) ≤ 64 → (IntKind.i64.wrap (2 ^ (ji3).toNat)) = ji5 := fun hle_ => by have h_ := hji5z hle_; rw [Int.one_mul] at h_; exact h_
  have hji5y : (wrap64 (1 * 2 ^ min (ji3).toNat 64)) = ji5 := (i64_w _).symm.trans hji5_
  have hji5x : (ji3) ≤ 64 → (wrap64 (1 * 2 ^ (ji3).toNat)) = ji5 := fun h_ => (i64_w _).symm.trans (hji5z h_)
  by_cases c6 : a0 ≥ (ji5)
  rotate_left
  ·rw [if_neg c6] at H
   have c6b0 : decide ((ji5) ≤ a0) = false := decide_eq_false c6
   clear c6
   obtain rfl := Option.some.inj H
   go_enter Try.func82, Try.ntmps82
   go_wp2
   go_ret
   exact ⟨by first | rfl | (simp; done) | (simp only [← hji3, ← hji5] <;> (first | rfl | simp)) | (simp [*]; done), by repeat (first | exact Drawn0.refl _ | apply Drawn0.step)⟩
  rw [if_pos c6] at H
  have c6b0 : decide ((ji5) ≤ a0) = true := decide_eq_true c6
  clear c6
  by_cases c7 : 0 ≤ a1
  rotate_left
  ·rw [if_neg c7] at H
   exact absurd H (by simp)
  rw [if_pos c7] at H
  have c7b0 := eq_true c7
  have c7b1 : decide (0 ≤ a1) = true := decide_eq_true c7
  clear c7
  obtain ⟨ji8, hji8⟩ : ∃ j_ : Int, (shl .i64 1 a1) = j_ := ⟨_, rfl⟩
  replace H : (some (wrap64 (a0 - (ji8)))) = some r := by first | (rw [hji8] at H; exact H) | (simp only [hji8] at H ⊢; exact H)
  have hji8_ : (IntKind.i64.wrap (1 * 2 ^ min a1.toNat 64)) = ji8 := hji8
  have hji8z : a1 ≤ 64 → (IntKind.i64.wrap (1 * 2 ^ a1.toNat)) = ji8 := shl_small hji8
  have hji8u : (IntKind.i64.wrap (2 ^ min a1.toNat 64)) = ji8 := by have h_ := hji8_; rw [Int.one_mul] at h_; exact h_
  have hji8v : a1 ≤ 64 → (IntKind.i64.wrap (2 ^ a1.toNat)) = ji8 := fun hle_ => by have h_ := hji8z hle_; rw [Int.one_mul] at h_; exact h_
  have hji8y : (wrap64 (1 * 2 ^ min a1.toNat 64)) = ji8 := (i64_w _).symm.trans hji8_
  have hji8x : a1 ≤ 64 → (wrap64 (1 * 2 ^ a1.toNat)) = ji8 := fun h_ => (i64_w _).symm.trans (hji8z h_)
  obtain rfl := Option.some.inj H
  go_enter Try.func82, Try.ntmps82
  go_wp2
  go_ret
  exact ⟨by first | rfl | (simp; done) | (simp only [← hji3, ← hji5, ← hji8] <;> (first | rfl | simp)) | (simp [*]; done), by repeat (first | exact Drawn0.refl _ | apply Drawn0.step)⟩
 ·rw [if_neg c4] at H
  exact absurd H (by simp)

/-! cellarref7_Move -/
def cellarref7_Move.j0 : Nat → List (S76) → Int → Bool → Bool → Int → Int → Int → Option (Bool × Int × Int × Int × Int)
 | 0, _, _, _, _, _, _, _ => none
 | k + 1, x0, x8, x17, x322000, x322001, x322002, x322003 => if x17 = true then (some (x322000, x322001, x322002, x322003, 0)) else (if 0 ≤ x322002 then (if x322002 < (x0.length : Int) then (if ((rd_T76 x0 x322002).f0) = 1 then ((cellarref0_Num.f (wrap64 (x322003 + x8)) (((rd_T76 x0 x322002).f1).length : Int)).bind fun t326 => (if t326 = true then (some (x322000, x322001, x322002, wrap64 (x322003 + x8), 0)) else (some (false, 0, 0, 0, 1)))) else (some (false, 0, 0, 0, 2))) else (none)) else (none))
def cellarref7_Move.f (k : Nat) (l0 : List (S76)) (a1_0 : Bool) (a1_1 : Int) (a1_2 : Int) (a1_3 : Int) (a2 : Int) : Option (Bool × Int × Int × Int × Int) := (cellarref1_View.f a2 32).bind fun t323 => (if a1_2 = 0 then (cellarref7_Move.j0 k l0 t323 (t323 == 0) a1_0 a1_1 a1_2 a1_3) else (cellarref7_Move.j0 k l0 t323 false a1_0 a1_1 a1_2 a1_3))
theorem cellarref7_Move.mono_l : ∀ k, (∀ y0 y1 y2 y3 y4 y5 y6, LeO (cellarref7_Move.j0 k y0 y1 y2 y3 y4 y5 y6) (cellarref7_Move.j0 (k + 1) y0 y1 y2 y3 y4 y5 y6))
 | 0 => fun _ _ _ _ _ _ _ r h => by simp [cellarref7_Move.j0] at h
 | k + 1 => by
  have ih0 := cellarref7_Move.mono_l k
  ·intro y0 y1 y2 y3 y4 y5 y6
   unfold cellarref7_Move.j0
   repeat' first
   | (with_reducible apply ih0)
   | (with_reducible apply LeO.refl)
   | (with_reducible apply LeO.none)
   | (with_reducible refine LeO.ite ?_ ?_)
   | (with_reducible refine LeO.bind ?_ (fun _ => ?_))
theorem cellarref7_Move.mono : ∀ a0 a1 a2 a3 a4 a5 k, LeO (cellarref7_Move.f k a0 a1 a2 a3 a4 a5) (cellarref7_Move.f (k + 1) a0 a1 a2 a3 a4 a5) := by
 intro a0 a1 a2 a3 a4 a5 k
 have ih0 := cellarref7_Move.mono_l k
 unfold cellarref7_Move.f
 repeat' first
   | (with_reducible apply ih0)
   | (with_reducible apply LeO.refl)
   | (with_reducible apply LeO.none)
   | (with_reducible refine LeO.ite ?_ ?_)
   | (with_reducible refine LeO.bind ?_ (fun _ => ?_))
set_option maxHeartbeats 8000000 in
set_option maxRecDepth 100000 in
theorem cellarref7_Move.calls (k : Nat) (A0 : Option Addr) (c0 : Nat) (l0 : List (S76)) (a1_0 : Bool) (a1_1 : Int) (a1_2 : Int) (a1_3 : Int) (a2 : Int) (r1 : Bool) (r2 : Int) (r3 : Int) (r4 : Int) (r5 : Int) (w : World) (hr0 : Kd.C k76 w A0 l0.length l0) (hc0 : l0.length ≤ c0) (h : cellarref7_Move.f k l0 a1_0 a1_1 a1_2 a1_3 a2 = some (r1, r2, r3, r4, r5)) :
  Calls Try.prog 47 #[.slice A0 l0.length c0, .agg #[.bool a1_0, .int .i64 a1_1, .int .i64 a1_2, .int .i64 a1_3], .int .i64 a2] w fun e w' => e = .returned (.tuple #[.agg #[.bool r1, .int .i64 r2, .int .i64 r3, .int .i64 r4], .int .i64 r5]) ∧ Below w.heap.size w w' := by
 have hu62 := Try.underlying62
 have HR0 := Aside0.mk hr0
 have HC0 := Aside0.mk hc0
 clear hr0 hc0
 have HB := Aside0.mk (Below.refl w.heap.size w)
 have H : ((cellarref1_View.f a2 32).bind fun t323 => (if a1_2 = 0 then (cellarref7_Move.j0 k l0 t323 (t323 == 0) a1_0 a1_1 a1_2 a1_3) else (cellarref7_Move.j0 k l0 t323 false a1_0 a1_1 a1_2 a1_3))) = some (r1, r2, r3, r4, r5) := h
 clear h
 replace H := Option.bind_eq_some_iff.mp H
 obtain ⟨t323, A40, H⟩ := H
 replace H : (if a1_2 = 0 then (cellarref7_Move.j0 k l0 t323 (t323 == 0) a1_0 a1_1 a1_2 a1_3) else (cellarref7_Move.j0 k l0 t323 false a1_0 a1_1 a1_2 a1_3)) = some (r1, r2, r3, r4, r5) := H
 have A4 := Aside0.mk A40
 clear A40
 have HC5 := Aside0.mk H
 clear H
 go_enter Try.func47, Try.ntmps47
 go_upto_region 2 with (first | ((with_reducible refine gate_dst (N := 4) rfl ?_); refine zbox (N := 4) (cs := #[.bool a1_0, .int .i64 a1_1, .int .i64 a1_2, .int .i64 a1_3]) (t := 62) ?_; intro gb321 hg w6 hbox hb; have n0_ := Aside0.mk (below_step (zw0 HB.out) hb); have BK321 := Aside0.mk (hbox); have GW321 := Aside0.mk (zg hg (below_size (zw0 HB.out))); have GE321 := GW321; clear HB; have HB := n0_; clear n0_; clear hb hbox hg) | ((with_reducible refine gate_dst (N := 6) rfl ?_); refine zbox (N := 6) (cs := #[.bool false, .int .i64 0, .int .i64 0, .int .i64 0]) (t := 62) ?_; intro gb322 hg w7 hbox hb; have n0_ := Aside0.mk (zbb BK321.out hb); have n1_ := Aside0.mk (below_step (zw1 HB.out GE321.out) hb); have BK322 := Aside0.mk (hbox); have GW322 := Aside0.mk (zg hg (below_size (zw1 HB.out GE321.out))); have GE322 := GW322; have NB321_322 := Aside0.mk (zlt hg BK321.out); have NB322_321 := Aside0.mk (zgt hg BK321.out); clear BK321 HB; have BK321 := n0_; have HB := n1_; clear n0_ n1_; clear hb hbox hg) | (go_at_call 82; (with_reducible refine (cellarref1_View.calls a2 32 t323 _ A4.out).mono ?_); rintro e w' ⟨rfl, ⟨nd, rfl⟩⟩; (try first | exact ⟨rfl, _, World.drewN_drewN _ _ _⟩ | exact ⟨rfl, _, Eq.trans (World.drewN_drewN _ _ _) (congrArg (World.drewN _) (Nat.add_assoc _ _ _))⟩)))
 repeat (go_quiet (first | ((with_reducible refine gate_dst (N := 4) rfl ?_); refine zbox (N := 4) (cs := #[.bool a1_0, .int .i64 a1_1, .int .i64 a1_2, .int .i64 a1_3]) (t := 62) ?_; intro gb321 hg w6 hbox hb; have n0_ := Aside0.mk (below_step (zw0 HB.out) hb); have BK321 := Aside0.mk (hbox); have GW321 := Aside0.mk (zg hg (below_size (zw0 HB.out))); have GE321 := GW321; clear HB; have HB := n0_; clear n0_; clear hb hbox hg) | ((with_reducible refine gate_dst (N := 6) rfl ?_); refine zbox (N := 6) (cs := #[.bool false, .int .i64 0, .int .i64 0, .int .i64 0]) (t := 62) ?_; intro gb322 hg w7 hbox hb; have n0_ := Aside0.mk (zbb BK321.out hb); have n1_ := Aside0.mk (below_step (zw1 HB.out GE321.out) hb); have BK322 := Aside0.mk (hbox); have GW322 := Aside0.mk (zg hg (below_size (zw1 HB.out GE321.out))); have GE322 := GW322; have NB321_322 := Aside0.mk (zlt hg BK321.out); have NB322_321 := Aside0.mk (zgt hg BK321.out); clear BK321 HB; have BK321 := n0_; have HB := n1_; clear n0_ n1_; clear hb hbox hg) | (go_at_call 82; (with_reducible refine (cellarref1_View.calls a2 32 t323 _ A4.out).mono ?_); rintro e w' ⟨rfl, ⟨nd, rfl⟩⟩; (try first | exact ⟨rfl, _, World.drewN_drewN _ _ _⟩ | exact ⟨rfl, _, Eq.trans (World.drewN_drewN _ _ _) (congrArg (World.drewN _) (Nat.add_assoc _ _ _))⟩))); go_upto_region 2 with (first | ((with_reducible refine gate_dst (N := 4) rfl ?_); refine zbox (N := 4) (cs := #[.bool a1_0, .int .i64 a1_1, .int .i64 a1_2, .int .i64 a1_3]) (t := 62) ?_; intro gb321 hg w6 hbox hb; have n0_ := Aside0.mk (below_step (zw0 HB.out) hb); have BK321 := Aside0.mk (hbox); have GW321 := Aside0.mk (zg hg (below_size (zw0 HB.out))); have GE321 := GW321; clear HB; have HB := n0_; clear n0_; clear hb hbox hg) | ((with_reducible refine gate_dst (N := 6) rfl ?_); refine zbox (N := 6) (cs := #[.bool false, .int .i64 0, .int .i64 0, .int .i64 0]) (t := 62) ?_; intro gb322 hg w7 hbox hb; have n0_ := Aside0.mk (zbb BK321.out hb); have n1_ := Aside0.mk (below_step (zw1 HB.out GE321.out) hb); have BK322 := Aside0.mk (hbox); have GW322 := Aside0.mk (zg hg (below_size (zw1 HB.out GE321.out))); have GE322 := GW322; have NB321_322 := Aside0.mk (zlt hg BK321.out); have NB322_321 := Aside0.mk (zgt hg BK321.out); clear BK321 HB; have BK321 := n0_; have HB := n1_; clear n0_ n1_; clear hb hbox hg) | (go_at_call 82; (with_reducible refine (cellarref1_View.calls a2 32 t323 _ A4.out).mono ?_); rintro e w' ⟨rfl, ⟨nd, rfl⟩⟩; (try first | exact ⟨rfl, _, World.drewN_drewN _ _ _⟩ | exact ⟨rfl, _, Eq.trans (World.drewN_drewN _ _ _) (congrArg (World.drewN _) (Nat.add_assoc _ _ _))⟩))))
 (try simp only [Act.put, List.setIfInBounds_toArray, List.set_cons_zero, List.set_cons_succ])
 go_cut [17] (fun v17 wc => ∃ (kq : Nat) (x17_4 : Bool), v17 = .bool x17_4 ∧ Aside0 (cellarref7_Move.j0 kq l0 t323 x17_4 a1_0 a1_1 a1_2 a1_3 = some (r1, r2, r3, r4, r5)) ∧ Aside0 (kq ≤ k) ∧ Aside0 (wc.heap[gb321]? = some (.cells #[.bool a1_0, .int .i64 a1_1, .int .i64 a1_2, .int .i64 a1_3] 62 (0, 0))) ∧ Aside0 (wc.heap[gb322]? = some (.cells #[.bool false, .int .i64 0, .int .i64 0, .int .i64 0] 62 (0, 0))) ∧ Aside0 (Below w.heap.size w wc))
 case first =>
  have H := HC5.out
  clear HC5
  by_cases c8 : a1_2 = 0
  rotate_left
  ·rw [if_neg c8] at H
   have c8b0 : (a1_2 == 0) = false := beq_eq_false_iff_ne.mpr c8
   have c8b1 : (a1_2 != 0) = true := bne_iff_ne.mpr c8
   (first | rw [c8b0] | (simp only [i64_w, i32_w]; rw [c8b0]) | skip)
   have H' := Aside0.mk H
   clear H
   have hnb11 := NB321_322.out
   have hnc11 := NB322_321.out
   have hcz12_0 := zc BK321.out 0
   have hcz12_1 := zc BK321.out 1
   have hcz12_2 := zc BK321.out 2
   have hcz12_3 := zc BK321.out 3
   have hfz12_0 := blk_frozen BK321.out 0
   have hfz12_1 := blk_frozen BK321.out 1
   have hfz12_2 := blk_frozen BK321.out 2
   have hfz12_3 := blk_frozen BK321.out 3
   go_wp2
   repeat (go_quiet (fail); try go_wp2)
   go_meet
   case rel => exact ⟨_, (false), (zr), H', ⟨by first | omega | exact Nat.le_refl _⟩, ⟨zb BK321.out⟩, ⟨zb BK322.out⟩, ⟨zw2 HB.out GE321.out GE322.out⟩⟩
  rw [if_pos c8] at H
  have c8b0 : (a1_2 == 0) = true := beq_iff_eq.mpr c8
  have c8b1 : (a1_2 != 0) = false := bne_eq_false_iff_eq.mpr c8
  clear c8
  (first | rw [c8b0] | (simp only [i64_w, i32_w]; rw [c8b0]) | skip)
  have H' := Aside0.mk H
  clear H
  have hnb9 := NB321_322.out
  have hnc9 := NB322_321.out
  have hcz10_0 := zc BK321.out 0
  have hcz10_1 := zc BK321.out 1
  have hcz10_2 := zc BK321.out 2
  have hcz10_3 := zc BK321.out 3
  have hfz10_0 := blk_frozen BK321.out 0
  have hfz10_1 := blk_frozen BK321.out 1
  have hfz10_2 := blk_frozen BK321.out 2
  have hfz10_3 := blk_frozen BK321.out 3
  go_wp2
  repeat (go_quiet (fail); try go_wp2)
  go_meet
  case rel => exact ⟨_, ((t323 == 0)), (zr), H', ⟨by first | omega | exact Nat.le_refl _⟩, ⟨zb BK321.out⟩, ⟨zb BK322.out⟩, ⟨zw2 HB.out GE321.out GE322.out⟩⟩
 case rest =>
  clear HC5
  try clear c1; try clear p2; try clear c4; try clear c8; try clear c8b0; try clear c8b1; try clear c9; try clear c11
  obtain ⟨kq, x17_4, rfl, HA, HJ4, BK321, BK322, HB⟩ := hcut
  cases kq with
  | zero => exact absurd HA.out (by simp [cellarref7_Move.j0])
  | succ kj4 =>
   have H := HA.out
   clear HA
   simp only [cellarref7_Move.j0] at H
   by_cases c13 : x17_4 = true
   ·subst c13
    have H1 : (some (a1_0, a1_1, a1_2, a1_3, 0)) = some (r1, r2, r3, r4, r5) := by rw [if_pos rfl] at H; exact H
    clear H
    have H := H1
    clear H1
    simp only [Option.some.injEq, Prod.mk.injEq] at H
    obtain ⟨rfl, rfl, rfl, rfl, rfl⟩ := H
    have hnb14 := NB321_322.out
    have hnc14 := NB322_321.out
    have hcz15_0 := zc BK321.out 0
    have hcz15_1 := zc BK321.out 1
    have hcz15_2 := zc BK321.out 2
    have hcz15_3 := zc BK321.out 3
    have hfz15_0 := blk_frozen BK321.out 0
    have hfz15_1 := blk_frozen BK321.out 1
    have hfz15_2 := blk_frozen BK321.out 2
    have hfz15_3 := blk_frozen BK321.out 3
    have hcz16_0 := zc BK322.out 0
    have hcz16_1 := zc BK322.out 1
    have hcz16_2 := zc BK322.out 2
    have hcz16_3 := zc BK322.out 3
    have hfz16_0 := blk_frozen BK322.out 0
    have hfz16_1 := blk_frozen BK322.out 1
    have hfz16_2 := blk_frozen BK322.out 2
    have hfz16_3 := blk_frozen BK322.out 3
    go_wp2
    repeat (go_quiet (fail); try go_wp2)
    refine bodyPost_ret (results_ct rfl _ _ gb322 62 #[.bool a1_0, .int .i64 a1_1, .int .i64 a1_2, .int .i64 a1_3] (0, 0) _ rfl (by (with_reducible repeat (first | refine blk_drewN ?_ _ | refine blk_drew ?_ | refine blk_alloc ?_ _)); refine blk_put (cs := #[.bool a1_0, .int .i64 a1_1, .int .i64 a1_2, .int .i64 0]) ?_ 3 _ rfl; (with_reducible repeat (first | refine blk_drewN ?_ _ | refine blk_drew ?_ | refine blk_alloc ?_ _)); refine blk_put (cs := #[.bool a1_0, .int .i64 a1_1, .int .i64 0, .int .i64 0]) ?_ 2 _ rfl; (with_reducible repeat (first | refine blk_drewN ?_ _ | refine blk_drew ?_ | refine blk_alloc ?_ _)); refine blk_put (cs := #[.bool a1_0, .int .i64 0, .int .i64 0, .int .i64 0]) ?_ 1 _ rfl; (with_reducible repeat (first | refine blk_drewN ?_ _ | refine blk_drew ?_ | refine blk_alloc ?_ _)); refine blk_put (cs := #[.bool false, .int .i64 0, .int .i64 0, .int .i64 0]) ?_ 0 _ rfl; (with_reducible repeat (first | refine blk_drewN ?_ _ | refine blk_drew ?_ | refine blk_alloc ?_ _)); exact BK322.out) Try.underlying62 rfl (by kernel_rfl)) rfl ?_
    exact ⟨ze, zw2 HB.out GE321.out GE322.out⟩
   ·replace c13 := Bool.eq_false_iff.mpr c13
    subst c13
    have H1 : (if 0 ≤ a1_2 then (if a1_2 < (l0.length : Int) then (if ((rd_T76 l0 a1_2).f0) = 1 then ((cellarref0_Num.f (wrap64 (a1_3 + t323)) (((rd_T76 l0 a1_2).f1).length : Int)).bind fun t326 => (if t326 = true then (some (a1_0, a1_1, a1_2, wrap64 (a1_3 + t323), 0)) else (some (false, 0, 0, 0, 1)))) else (some (false, 0, 0, 0, 2))) else (none)) else (none)) = some (r1, r2, r3, r4, r5) := by rw [if_neg (show ¬ (false = true) by decide)] at H; exact H
    clear H
    have H := H1
    clear H1
    by_cases c17 : 0 ≤ a1_2
    ·rw [if_pos c17] at H
     have c17b0 : decide (0 ≤ a1_2) = true := decide_eq_true c17
     clear c17
     by_cases c18 : a1_2 < (l0.length : Int)
     rotate_left
     ·rw [if_neg c18] at H
      exact absurd H (by simp)
     rw [if_pos c18] at H
     have c18b0 : decide (a1_2 < (l0.length : Int)) = true := decide_eq_true c18
     clear c18
     by_cases c19 : ((rd_T76 l0 a1_2).f0) = 1
     rotate_left
     ·rw [if_neg c19] at H
      have c19b0 : (((rd_T76 l0 a1_2).f0) == 1) = false := beq_eq_false_iff_ne.mpr c19
      have c19b1 : (((rd_T76 l0 a1_2).f0) != 1) = true := bne_iff_ne.mpr c19
      simp only [Option.some.injEq, Prod.mk.injEq] at H
      obtain ⟨rfl, rfl, rfl, rfl, rfl⟩ := H
      have hnb28 := NB321_322.out
      have hnc28 := NB322_321.out
      have hcz29_0 := zc BK321.out 0
      have hcz29_1 := zc BK321.out 1
      have hcz29_2 := zc BK321.out 2
      have hcz29_3 := zc BK321.out 3
      have hfz29_0 := blk_frozen BK321.out 0
      have hfz29_1 := blk_frozen BK321.out 1
      have hfz29_2 := blk_frozen BK321.out 2
      have hfz29_3 := blk_frozen BK321.out 3
      have p324 : 0 ≤ (a1_2 : Int) := zdec
      have q324 : a1_2 < (l0.length : Int) := zdec
      obtain ⟨ad324, A324_1, c324_1, e324, hx324_0, hx324_1, hl324_1, hi324_1⟩ := at_T76 HR0.out a1_2 p324 q324
      cases e324
      replace hx324_0 := zh HB.out hx324_0
      replace hx324_1 := zh HB.out hx324_1
      have HR324_1 := Aside0.mk hi324_1
      have HC324_1 := Aside0.mk hl324_1
      clear hi324_1 hl324_1
      replace p324 := eq_true p324
      replace q324 := eq_true q324
      have hcz30_0 := zc BK322.out 0
      have hcz30_1 := zc BK322.out 1
      have hcz30_2 := zc BK322.out 2
      have hcz30_3 := zc BK322.out 3
      have hfz30_0 := blk_frozen BK322.out 0
      have hfz30_1 := blk_frozen BK322.out 1
      have hfz30_2 := blk_frozen BK322.out 2
      have hfz30_3 := blk_frozen BK322.out 3
      go_wp2
      repeat (go_quiet (fail); try go_wp2)
      refine bodyPost_ret (results_ct rfl _ _ gb322 62 #[.bool false, .int .i64 0, .int .i64 0, .int .i64 0] (0, 0) _ rfl (by (with_reducible repeat (first | refine blk_drewN ?_ _ | refine blk_drew ?_ | refine blk_alloc ?_ _)); refine blk_put (cs := #[.bool false, .int .i64 0, .int .i64 0, .int .i64 0]) ?_ 3 _ rfl; (with_reducible repeat (first | refine blk_drewN ?_ _ | refine blk_drew ?_ | refine blk_alloc ?_ _)); refine blk_put (cs := #[.bool false, .int .i64 0, .int .i64 0, .int .i64 0]) ?_ 2 _ rfl; (with_reducible repeat (first | refine blk_drewN ?_ _ | refine blk_drew ?_ | refine blk_alloc ?_ _)); refine blk_put (cs := #[.bool false, .int .i64 0, .int .i64 0, .int .i64 0]) ?_ 1 _ rfl; (with_reducible repeat (first | refine blk_drewN ?_ _ | refine blk_drew ?_ | refine blk_alloc ?_ _)); refine blk_put (cs := #[.bool false, .int .i64 0, .int .i64 0, .int .i64 0]) ?_ 0 _ rfl; (with_reducible repeat (first | refine blk_drewN ?_ _ | refine blk_drew ?_ | refine blk_alloc ?_ _)); exact BK322.out) Try.underlying62 rfl (by kernel_rfl)) rfl ?_
      exact ⟨ze, zw2 HB.out GE321.out GE322.out⟩
     rw [if_pos c19] at H
     have c19b0 : (((rd_T76 l0 a1_2).f0) == 1) = true := beq_iff_eq.mpr c19
     have c19b1 : (((rd_T76 l0 a1_2).f0) != 1) = false := bne_eq_false_iff_eq.mpr c19
     clear c19
     replace H := Option.bind_eq_some_iff.mp H
     obtain ⟨t326, A200, H⟩ := H
     replace H : (if t326 = true then (some (a1_0, a1_1, a1_2, wrap64 (a1_3 + t323), 0)) else (some (false, 0, 0, 0, 1))) = some (r1, r2, r3, r4, r5) := H
     have A20 := Aside0.mk A200
     clear A200
     by_cases c21 : t326 = true
     rotate_left
     ·replace c21 := Bool.eq_false_iff.mpr c21
      subst c21
      have H1 : (some (false, 0, 0, 0, 1)) = some (r1, r2, r3, r4, r5) := by rw [if_neg (show ¬ (false = true) by decide)] at H; exact H
      clear H
      have H := H1
      clear H1
      simp only [Option.some.injEq, Prod.mk.injEq] at H
      obtain ⟨rfl, rfl, rfl, rfl, rfl⟩ := H
      have hnb25 := NB321_322.out
      have hnc25 := NB322_321.out
      have hcz26_0 := zc BK321.out 0
      have hcz26_1 := zc BK321.out 1
      have hcz26_2 := zc BK321.out 2
      have hcz26_3 := zc BK321.out 3
      have hfz26_0 := blk_frozen BK321.out 0
      have hfz26_1 := blk_frozen BK321.out 1
      have hfz26_2 := blk_frozen BK321.out 2
      have hfz26_3 := blk_frozen BK321.out 3
      have p324 : 0 ≤ (a1_2 : Int) := zdec
      have q324 : a1_2 < (l0.length : Int) := zdec
      obtain ⟨ad324, A324_1, c324_1, e324, hx324_0, hx324_1, hl324_1, hi324_1⟩ := at_T76 HR0.out a1_2 p324 q324
      cases e324
      replace hx324_0 := zh HB.out hx324_0
      replace hx324_1 := zh HB.out hx324_1
      have HR324_1 := Aside0.mk hi324_1
      have HC324_1 := Aside0.mk hl324_1
      clear hi324_1 hl324_1
      replace p324 := eq_true p324
      replace q324 := eq_true q324
      have p325 : 0 ≤ (a1_2 : Int) := zdec
      have q325 : a1_2 < (l0.length : Int) := zdec
      obtain ⟨ad325, A325_1, c325_1, e325, hx325_0, hx325_1, hl325_1, hi325_1⟩ := at_T76 HR0.out a1_2 p325 q325
      obtain rfl : ad324 = ad325 := (by injection e325)
      replace hx325_0 := zh HB.out hx325_0
      replace hx325_1 := zh HB.out hx325_1
      have HR325_1 := Aside0.mk hi325_1
      have HC325_1 := Aside0.mk hl325_1
      clear hi325_1 hl325_1
      replace p325 := eq_true p325
      replace q325 := eq_true q325
      have ea_ := Option.some.inj (hx324_1.symm.trans hx325_1)
      injection ea_ with ea_ en_ ec_
      subst ea_
      subst ec_
      clear en_
      go_wp2_with (first | (go_at_call 18; (try simp only [i64_w]); (with_reducible refine (cellarref0_Num.calls (wrap64 (a1_3 + t323)) (((rd_T76 l0 a1_2).f1).length : Int) false _ A20.out).mono ?_); rintro e w' ⟨rfl, ⟨nd, rfl⟩⟩; (try first | exact ⟨rfl, _, World.drewN_drewN _ _ _⟩ | exact ⟨rfl, _, Eq.trans (World.drewN_drewN _ _ _) (congrArg (World.drewN _) (Nat.add_assoc _ _ _))⟩); have hcz27_0 := zc BK322.out 0; have hcz27_1 := zc BK322.out 1; have hcz27_2 := zc BK322.out 2; have hcz27_3 := zc BK322.out 3; have hfz27_0 := blk_frozen BK322.out 0; have hfz27_1 := blk_frozen BK322.out 1; have hfz27_2 := blk_frozen BK322.out 2; have hfz27_3 := blk_frozen BK322.out 3))
      repeat (go_quiet (first | (go_at_call 18; (try simp only [i64_w]); (with_reducible refine (cellarref0_Num.calls (wrap64 (a1_3 + t323)) (((rd_T76 l0 a1_2).f1).length : Int) false _ A20.out).mono ?_); rintro e w' ⟨rfl, ⟨nd, rfl⟩⟩; (try first | exact ⟨rfl, _, World.drewN_drewN _ _ _⟩ | exact ⟨rfl, _, Eq.trans (World.drewN_drewN _ _ _) (congrArg (World.drewN _) (Nat.add_assoc _ _ _))⟩); have hcz27_0 := zc BK322.out 0; have hcz27_1 := zc BK322.out 1; have hcz27_2 := zc BK322.out 2; have hcz27_3 := zc BK322.out 3; have hfz27_0 := blk_frozen BK322.out 0; have hfz27_1 := blk_frozen BK322.out 1; have hfz27_2 := blk_frozen BK322.out 2; have hfz27_3 := blk_frozen BK322.out 3)); try go_wp2_with (first | (go_at_call 18; (try simp only [i64_w]); (with_reducible refine (cellarref0_Num.calls (wrap64 (a1_3 + t323)) (((rd_T76 l0 a1_2).f1).length : Int) false _ A20.out).mono ?_); rintro e w' ⟨rfl, ⟨nd, rfl⟩⟩; (try first | exact ⟨rfl, _, World.drewN_drewN _ _ _⟩ | exact ⟨rfl, _, Eq.trans (World.drewN_drewN _ _ _) (congrArg (World.drewN _) (Nat.add_assoc _ _ _))⟩); have hcz27_0 := zc BK322.out 0; have hcz27_1 := zc BK322.out 1; have hcz27_2 := zc BK322.out 2; have hcz27_3 := zc BK322.out 3; have hfz27_0 := blk_frozen BK322.out 0; have hfz27_1 := blk_frozen BK322.out 1; have hfz27_2 := blk_frozen BK322.out 2; have hfz27_3 := blk_frozen BK322.out 3)))
      refine bodyPost_ret (results_ct rfl _ _ gb322 62 #[.bool false, .int .i64 0, .int .i64 0, .int .i64 0] (0, 0) _ rfl (by (with_reducible repeat (first | refine blk_drewN ?_ _ | refine blk_drew ?_ | refine blk_alloc ?_ _)); refine blk_put (cs := #[.bool false, .int .i64 0, .int .i64 0, .int .i64 0]) ?_ 3 _ rfl; (with_reducible repeat (first | refine blk_drewN ?_ _ | refine blk_drew ?_ | refine blk_alloc ?_ _)); refine blk_put (cs := #[.bool false, .int .i64 0, .int .i64 0, .int .i64 0]) ?_ 2 _ rfl; (with_reducible repeat (first | refine blk_drewN ?_ _ | refine blk_drew ?_ | refine blk_alloc ?_ _)); refine blk_put (cs := #[.bool false, .int .i64 0, .int .i64 0, .int .i64 0]) ?_ 1 _ rfl; (with_reducible repeat (first | refine blk_drewN ?_ _ | refine blk_drew ?_ | refine blk_alloc ?_ _)); refine blk_put (cs := #[.bool false, .int .i64 0, .int .i64 0, .int .i64 0]) ?_ 0 _ rfl; (with_reducible repeat (first | refine blk_drewN ?_ _ | refine blk_drew ?_ | refine blk_alloc ?_ _)); exact BK322.out) Try.underlying62 rfl (by kernel_rfl)) rfl ?_
      exact ⟨ze, zw2 HB.out GE321.out GE322.out⟩
     subst c21
     have H1 : (some (a1_0, a1_1, a1_2, wrap64 (a1_3 + t323), 0)) = some (r1, r2, r3, r4, r5) := by rw [if_pos rfl] at H; exact H
     clear H
     have H := H1
     clear H1
     simp only [Option.some.injEq, Prod.mk.injEq] at H
     obtain ⟨rfl, rfl, rfl, rfl, rfl⟩ := H
     have hnb22 := NB321_322.out
     have hnc22 := NB322_321.out
     have hcz23_0 := zc BK321.out 0
     have hcz23_1 := zc BK321.out 1
     have hcz23_2 := zc BK321.out 2
     have hcz23_3 := zc BK321.out 3
     have hfz23_0 := blk_frozen BK321.out 0
     have hfz23_1 := blk_frozen BK321.out 1
     have hfz23_2 := blk_frozen BK321.out 2
     have hfz23_3 := blk_frozen BK321.out 3
     have p324 : 0 ≤ (a1_2 : Int) := zdec
     have q324 : a1_2 < (l0.length : Int) := zdec
     obtain ⟨ad324, A324_1, c324_1, e324, hx324_0, hx324_1, hl324_1, hi324_1⟩ := at_T76 HR0.out a1_2 p324 q324
     cases e324
     replace hx324_0 := zh HB.out hx324_0
     replace hx324_1 := zh HB.out hx324_1
     have HR324_1 := Aside0.mk hi324_1
     have HC324_1 := Aside0.mk hl324_1
     clear hi324_1 hl324_1
     replace p324 := eq_true p324
     replace q324 := eq_true q324
     have p325 : 0 ≤ (a1_2 : Int) := zdec
     have q325 : a1_2 < (l0.length : Int) := zdec
     obtain ⟨ad325, A325_1, c325_1, e325, hx325_0, hx325_1, hl325_1, hi325_1⟩ := at_T76 HR0.out a1_2 p325 q325
     obtain rfl : ad324 = ad325 := (by injection e325)
     replace hx325_0 := zh HB.out hx325_0
     replace hx325_1 := zh HB.out hx325_1
     have HR325_1 := Aside0.mk hi325_1
     have HC325_1 := Aside0.mk hl325_1
     clear hi325_1 hl325_1
     replace p325 := eq_true p325
     replace q325 := eq_true q325
     have ea_ := Option.some.inj (hx324_1.symm.trans hx325_1)
     injection ea_ with ea_ en_ ec_
     subst ea_
     subst ec_
     clear en_
     go_wp2_with (first | (go_at_call 18; (try simp only [i64_w]); (with_reducible refine (cellarref0_Num.calls (wrap64 (a1_3 + t323)) (((rd_T76 l0 a1_2).f1).length : Int) true _ A20.out).mono ?_); rintro e w' ⟨rfl, ⟨nd, rfl⟩⟩; (try first | exact ⟨rfl, _, World.drewN_drewN _ _ _⟩ | exact ⟨rfl, _, Eq.trans (World.drewN_drewN _ _ _) (congrArg (World.drewN _) (Nat.add_assoc _ _ _))⟩); have hcz24_0 := zc BK322.out 0; have hcz24_1 := zc BK322.out 1; have hcz24_2 := zc BK322.out 2; have hcz24_3 := zc BK322.out 3; have hfz24_0 := blk_frozen BK322.out 0; have hfz24_1 := blk_frozen BK322.out 1; have hfz24_2 := blk_frozen BK322.out 2; have hfz24_3 := blk_frozen BK322.out 3))
     repeat (go_quiet (first | (go_at_call 18; (try simp only [i64_w]); (with_reducible refine (cellarref0_Num.calls (wrap64 (a1_3 + t323)) (((rd_T76 l0 a1_2).f1).length : Int) true _ A20.out).mono ?_); rintro e w' ⟨rfl, ⟨nd, rfl⟩⟩; (try first | exact ⟨rfl, _, World.drewN_drewN _ _ _⟩ | exact ⟨rfl, _, Eq.trans (World.drewN_drewN _ _ _) (congrArg (World.drewN _) (Nat.add_assoc _ _ _))⟩); have hcz24_0 := zc BK322.out 0; have hcz24_1 := zc BK322.out 1; have hcz24_2 := zc BK322.out 2; have hcz24_3 := zc BK322.out 3; have hfz24_0 := blk_frozen BK322.out 0; have hfz24_1 := blk_frozen BK322.out 1; have hfz24_2 := blk_frozen BK322.out 2; have hfz24_3 := blk_frozen BK322.out 3)); try go_wp2_with (first | (go_at_call 18; (try simp only [i64_w]); (with_reducible refine (cellarref0_Num.calls (wrap64 (a1_3 + t323)) (((rd_T76 l0 a1_2).f1).length : Int) true _ A20.out).mono ?_); rintro e w' ⟨rfl, ⟨nd, rfl⟩⟩; (try first | exact ⟨rfl, _, World.drewN_drewN _ _ _⟩ | exact ⟨rfl, _, Eq.trans (World.drewN_drewN _ _ _) (congrArg (World.drewN _) (Nat.add_assoc _ _ _))⟩); have hcz24_0 := zc BK322.out 0; have hcz24_1 := zc BK322.out 1; have hcz24_2 := zc BK322.out 2; have hcz24_3 := zc BK322.out 3; have hfz24_0 := blk_frozen BK322.out 0; have hfz24_1 := blk_frozen BK322.out 1; have hfz24_2 := blk_frozen BK322.out 2; have hfz24_3 := blk_frozen BK322.out 3)))
     refine bodyPost_ret (results_ct rfl _ _ gb322 62 #[.bool a1_0, .int .i64 a1_1, .int .i64 a1_2, .int .i64 (wrap64 (a1_3 + t323))] (0, 0) _ rfl (by (with_reducible repeat (first | refine blk_drewN ?_ _ | refine blk_drew ?_ | refine blk_alloc ?_ _)); refine blk_put (cs := #[.bool a1_0, .int .i64 a1_1, .int .i64 a1_2, .int .i64 0]) ?_ 3 _ rfl; (with_reducible repeat (first | refine blk_drewN ?_ _ | refine blk_drew ?_ | refine blk_alloc ?_ _)); refine blk_put (cs := #[.bool a1_0, .int .i64 a1_1, .int .i64 0, .int .i64 0]) ?_ 2 _ rfl; (with_reducible repeat (first | refine blk_drewN ?_ _ | refine blk_drew ?_ | refine blk_alloc ?_ _)); refine blk_put (cs := #[.bool a1_0, .int .i64 0, .int .i64 0, .int .i64 0]) ?_ 1 _ rfl; (with_reducible repeat (first | refine blk_drewN ?_ _ | refine blk_drew ?_ | refine blk_alloc ?_ _)); refine blk_put (cs := #[.bool false, .int .i64 0, .int .i64 0, .int .i64 0]) ?_ 0 _ rfl; (with_reducible repeat (first | refine blk_drewN ?_ _ | refine blk_drew ?_ | refine blk_alloc ?_ _)); refine blk_far ?_ NB322_321.out _; (with_reducible repeat (first | refine blk_drewN ?_ _ | refine blk_drew ?_ | refine blk_alloc ?_ _)); exact BK322.out) Try.underlying62 rfl (by kernel_rfl)) rfl ?_
     exact ⟨ze, zw2 HB.out GE321.out GE322.out⟩
    ·rw [if_neg c17] at H
     exact absurd H (by simp)

/-! mem_Same -/
def mem_Same.j0 : Nat → Bool → Bool → Int → Int → Int → Bool → Int → Int → Int → Option (Int × Int)
 | 0, _, _, _, _, _, _, _, _, _ => none
 | k + 1, x13, x328000, x328001, x328002, x328003, x329000, x329001, x329002, x329003 => if x13 = true then (some (0, 1)) else (if (x328000 == x329000 && (x328001 == x329001 && (x328002 == x329002 && (x328003 == x329003)))) = true then (some (1, 0)) else (some (0, 0)))
def mem_Same.f (k : Nat) (a0_0 : Bool) (a0_1 : Int) (a0_2 : Int) (a0_3 : Int) (a1_0 : Bool) (a1_1 : Int) (a1_2 : Int) (a1_3 : Int) : Option (Int × Int) := (bytes_May.f 7 a0_0 a0_1 a0_2 a0_3).bind fun t329 => (if t329 = true then ((bytes_May.f 7 a1_0 a1_1 a1_2 a1_3).bind fun t330 => (mem_Same.j0 k (!t330) a0_0 a0_1 a0_2 a0_3 a1_0 a1_1 a1_2 a1_3)) else (mem_Same.j0 k true a0_0 a0_1 a0_2 a0_3 a1_0 a1_1 a1_2 a1_3))
theorem mem_Same.mono_l : ∀ k, (∀ y0 y1 y2 y3 y4 y5 y6 y7 y8, LeO (mem_Same.j0 k y0 y1 y2 y3 y4 y5 y6 y7 y8) (mem_Same.j0 (k + 1) y0 y1 y2 y3 y4 y5 y6 y7 y8))
 | 0 => fun _ _ _ _ _ _ _ _ _ r h => by simp [mem_Same.j0] at h
 | k + 1 => by
  have ih0 := mem_Same.mono_l k
  ·intro y0 y1 y2 y3 y4 y5 y6 y7 y8
   unfold mem_Same.j0
   repeat' first
   | (with_reducible apply ih0)
   | (with_reducible apply LeO.refl)
   | (with_reducible apply LeO.none)
   | (with_reducible refine LeO.ite ?_ ?_)
   | (with_reducible refine LeO.bind ?_ (fun _ => ?_))
theorem mem_Same.mono : ∀ a0 a1 a2 a3 a4 a5 a6 a7 k, LeO (mem_Same.f k a0 a1 a2 a3 a4 a5 a6 a7) (mem_Same.f (k + 1) a0 a1 a2 a3 a4 a5 a6 a7) := by
 intro a0 a1 a2 a3 a4 a5 a6 a7 k
 have ih0 := mem_Same.mono_l k
 unfold mem_Same.f
 repeat' first
   | (with_reducible apply ih0)
   | (with_reducible apply LeO.refl)
   | (with_reducible apply LeO.none)
   | (with_reducible refine LeO.ite ?_ ?_)
   | (with_reducible refine LeO.bind ?_ (fun _ => ?_))
set_option maxHeartbeats 8000000 in
set_option maxRecDepth 100000 in
theorem mem_Same.calls (k : Nat) (a0_0 : Bool) (a0_1 : Int) (a0_2 : Int) (a0_3 : Int) (a1_0 : Bool) (a1_1 : Int) (a1_2 : Int) (a1_3 : Int) (r1 : Int) (r2 : Int) (w : World) (h : mem_Same.f k a0_0 a0_1 a0_2 a0_3 a1_0 a1_1 a1_2 a1_3 = some (r1, r2)) :
  Calls Try.prog 48 #[.agg #[.bool a0_0, .int .i64 a0_1, .int .i64 a0_2, .int .i64 a0_3], .agg #[.bool a1_0, .int .i64 a1_1, .int .i64 a1_2, .int .i64 a1_3]] w fun e w' => e = .returned (.tuple #[.int .i64 r1, .int .i64 r2]) ∧ Below w.heap.size w w' := by
 have hu62 := Try.underlying62
 have HB := Aside0.mk (Below.refl w.heap.size w)
 have H : ((bytes_May.f 7 a0_0 a0_1 a0_2 a0_3).bind fun t329 => (if t329 = true then ((bytes_May.f 7 a1_0 a1_1 a1_2 a1_3).bind fun t330 => (mem_Same.j0 k (!t330) a0_0 a0_1 a0_2 a0_3 a1_0 a1_1 a1_2 a1_3)) else (mem_Same.j0 k true a0_0 a0_1 a0_2 a0_3 a1_0 a1_1 a1_2 a1_3))) = some (r1, r2) := h
 clear h
 have HC3 := Aside0.mk H
 clear H
 go_enter Try.func48, Try.ntmps48
 go_upto_region 1 with (first | ((with_reducible refine gate_dst (N := 2) rfl ?_); refine zbox (N := 2) (cs := #[.bool a0_0, .int .i64 a0_1, .int .i64 a0_2, .int .i64 a0_3]) (t := 62) ?_; intro gb327 hg w4 hbox hb; have n0_ := Aside0.mk (below_step (zw0 HB.out) hb); have BK327 := Aside0.mk (hbox); have GW327 := Aside0.mk (zg hg (below_size (zw0 HB.out))); have GE327 := GW327; clear HB; have HB := n0_; clear n0_; clear hb hbox hg) | ((with_reducible refine gate_dst (N := 3) rfl ?_); refine zbox (N := 3) (cs := #[.bool a1_0, .int .i64 a1_1, .int .i64 a1_2, .int .i64 a1_3]) (t := 62) ?_; intro gb328 hg w5 hbox hb; have n0_ := Aside0.mk (zbb BK327.out hb); have n1_ := Aside0.mk (below_step (zw1 HB.out GE327.out) hb); have BK328 := Aside0.mk (hbox); have GW328 := Aside0.mk (zg hg (below_size (zw1 HB.out GE327.out))); have GE328 := GW328; have NB327_328 := Aside0.mk (zlt hg BK327.out); have NB328_327 := Aside0.mk (zgt hg BK327.out); clear BK327 HB; have BK327 := n0_; have HB := n1_; clear n0_ n1_; clear hb hbox hg))
 (try simp only [Act.put, List.setIfInBounds_toArray, List.set_cons_zero, List.set_cons_succ])
 go_cut [13] (fun v13 wc => ∃ (kq : Nat) (x13_2 : Bool), v13 = .bool x13_2 ∧ Aside0 (mem_Same.j0 kq x13_2 a0_0 a0_1 a0_2 a0_3 a1_0 a1_1 a1_2 a1_3 = some (r1, r2)) ∧ Aside0 (kq ≤ k) ∧ Aside0 (wc.heap[gb327]? = some (.cells #[.bool a0_0, .int .i64 a0_1, .int .i64 a0_2, .int .i64 a0_3] 62 (0, 0))) ∧ Aside0 (wc.heap[gb328]? = some (.cells #[.bool a1_0, .int .i64 a1_1, .int .i64 a1_2, .int .i64 a1_3] 62 (0, 0))) ∧ Aside0 (Below w.heap.size w wc))
 case first =>
  have H := HC3.out
  clear HC3
  replace H := Option.bind_eq_some_iff.mp H
  obtain ⟨t329, A60, H⟩ := H
  replace H : (if t329 = true then ((bytes_May.f 7 a1_0 a1_1 a1_2 a1_3).bind fun t330 => (mem_Same.j0 k (!t330) a0_0 a0_1 a0_2 a0_3 a1_0 a1_1 a1_2 a1_3)) else (mem_Same.j0 k true a0_0 a0_1 a0_2 a0_3 a1_0 a1_1 a1_2 a1_3)) = some (r1, r2) := H
  have A6 := Aside0.mk A60
  clear A60
  by_cases c7 : t329 = true
  rotate_left
  ·replace c7 := Bool.eq_false_iff.mpr c7
   subst c7
   have H1 : (mem_Same.j0 k true a0_0 a0_1 a0_2 a0_3 a1_0 a1_1 a1_2 a1_3) = some (r1, r2) := by rw [if_neg (show ¬ (false = true) by decide)] at H; exact H
   clear H
   have H := H1
   clear H1
   have H' := Aside0.mk H
   clear H
   have hnb14 := NB327_328.out
   have hnc14 := NB328_327.out
   have hcz15_0 := zc BK327.out 0
   have hcz15_1 := zc BK327.out 1
   have hcz15_2 := zc BK327.out 2
   have hcz15_3 := zc BK327.out 3
   have hfz15_0 := blk_frozen BK327.out 0
   have hfz15_1 := blk_frozen BK327.out 1
   have hfz15_2 := blk_frozen BK327.out 2
   have hfz15_3 := blk_frozen BK327.out 3
   go_wp2_with (first | ((with_reducible refine gate_callee (f := 67) rfl ?_); refine zgo (some 7) Try.func67 #[.int .i64 7, .agg #[.bool a0_0, .int .i64 a0_1, .int .i64 a0_2, .int .i64 a0_3]] ?_; (with_reducible refine (bytes_May.calls 7 a0_0 a0_1 a0_2 a0_3 false _ A6.out).mono ?_); rintro e w16 ⟨rfl, hb⟩; refine ⟨_, rfl, ?_⟩; have n0_ := Aside0.mk (zbb BK327.out hb); have n1_ := Aside0.mk (zbb BK328.out hb); have n2_ := Aside0.mk (below_step (zw2 HB.out GE327.out GE328.out) hb); clear BK327 BK328 HB; have BK327 := n0_; have BK328 := n1_; have HB := n2_; clear n0_ n1_ n2_; (try clear hb); (try clear hb2); (try clear hk); (try clear hi)))
   go_meet
   case rel => exact ⟨_, (true), (zr), H', ⟨by first | omega | exact Nat.le_refl _⟩, ⟨zb BK327.out⟩, ⟨zb BK328.out⟩, ⟨zw2 HB.out GE327.out GE328.out⟩⟩
  subst c7
  have H1 : ((bytes_May.f 7 a1_0 a1_1 a1_2 a1_3).bind fun t330 => (mem_Same.j0 k (!t330) a0_0 a0_1 a0_2 a0_3 a1_0 a1_1 a1_2 a1_3)) = some (r1, r2) := by rw [if_pos rfl] at H; exact H
  clear H
  have H := H1
  clear H1
  replace H := Option.bind_eq_some_iff.mp H
  obtain ⟨t330, A80, H⟩ := H
  replace H : (mem_Same.j0 k (!t330) a0_0 a0_1 a0_2 a0_3 a1_0 a1_1 a1_2 a1_3) = some (r1, r2) := H
  have A8 := Aside0.mk A80
  clear A80
  have H' := Aside0.mk H
  clear H
  have hnb9 := NB327_328.out
  have hnc9 := NB328_327.out
  have hcz10_0 := zc BK327.out 0
  have hcz10_1 := zc BK327.out 1
  have hcz10_2 := zc BK327.out 2
  have hcz10_3 := zc BK327.out 3
  have hfz10_0 := blk_frozen BK327.out 0
  have hfz10_1 := blk_frozen BK327.out 1
  have hfz10_2 := blk_frozen BK327.out 2
  have hfz10_3 := blk_frozen BK327.out 3
  go_wp2_with (first | ((with_reducible refine gate_callee (f := 67) rfl ?_); refine zgo (some 7) Try.func67 #[.int .i64 7, .agg #[.bool a0_0, .int .i64 a0_1, .int .i64 a0_2, .int .i64 a0_3]] ?_; (with_reducible refine (bytes_May.calls 7 a0_0 a0_1 a0_2 a0_3 true _ A6.out).mono ?_); rintro e w11 ⟨rfl, hb⟩; refine ⟨_, rfl, ?_⟩; have n0_ := Aside0.mk (zbb BK327.out hb); have n1_ := Aside0.mk (zbb BK328.out hb); have n2_ := Aside0.mk (below_step (zw2 HB.out GE327.out GE328.out) hb); clear BK327 BK328 HB; have BK327 := n0_; have BK328 := n1_; have HB := n2_; clear n0_ n1_ n2_; (try clear hb); (try clear hb2); (try clear hk); (try clear hi); have hcz12_0 := zc BK328.out 0; have hcz12_1 := zc BK328.out 1; have hcz12_2 := zc BK328.out 2; have hcz12_3 := zc BK328.out 3; have hfz12_0 := blk_frozen BK328.out 0; have hfz12_1 := blk_frozen BK328.out 1; have hfz12_2 := blk_frozen BK328.out 2; have hfz12_3 := blk_frozen BK328.out 3) | (go_at_call 67; (with_reducible refine (bytes_May.calls 7 a1_0 a1_1 a1_2 a1_3 t330 _ A8.out).mono ?_); rintro e w13 ⟨rfl, hb⟩; have n0_ := Aside0.mk (zbb BK327.out hb); have n1_ := Aside0.mk (zbb BK328.out hb); have n2_ := Aside0.mk (below_step (zw2 HB.out GE327.out GE328.out) hb); clear BK327 BK328 HB; have BK327 := n0_; have BK328 := n1_; have HB := n2_; clear n0_ n1_ n2_; (try clear hb); (try clear hb2); (try clear hk); (try clear hi)))
  go_meet
  case rel => exact ⟨_, (!t330), (zr), H', ⟨by first | omega | exact Nat.le_refl _⟩, ⟨zb BK327.out⟩, ⟨zb BK328.out⟩, ⟨zw2 HB.out GE327.out GE328.out⟩⟩
 case rest =>
  clear HC3
  try clear c1; try clear p2; try clear c4; try clear c6; try clear c7; try clear c9; try clear c14
  obtain ⟨kq, x13_2, rfl, HA, HJ2, BK327, BK328, HB⟩ := hcut
  cases kq with
  | zero => exact absurd HA.out (by simp [mem_Same.j0])
  | succ kj2 =>
   have H := HA.out
   clear HA
   simp only [mem_Same.j0] at H
   by_cases c17 : x13_2 = true
   ·subst c17
    have H1 : (some (0, 1)) = some (r1, r2) := by rw [if_pos rfl] at H; exact H
    clear H
    have H := H1
    clear H1
    simp only [Option.some.injEq, Prod.mk.injEq] at H
    obtain ⟨rfl, rfl⟩ := H
    go_wp2
    go_ret2
    exact ⟨ze, zw2 HB.out GE327.out GE328.out⟩
   ·replace c17 := Bool.eq_false_iff.mpr c17
    subst c17
    have H1 : (if (a0_0 == a1_0 && (a0_1 == a1_1 && (a0_2 == a1_2 && (a0_3 == a1_3)))) = true then (some (1, 0)) else (some (0, 0))) = some (r1, r2) := by rw [if_neg (show ¬ (false = true) by decide)] at H; exact H
    clear H
    have H := H1
    clear H1
    by_cases c18 : (a0_0 == a1_0 && (a0_1 == a1_1 && (a0_2 == a1_2 && (a0_3 == a1_3)))) = true
    ·rw [if_pos c18] at H
     have c18b0 : (a0_0 == a1_0 && (a0_1 == a1_1 && (a0_2 == a1_2 && (a0_3 == a1_3)))) = true := c18
     (try (have c18b1 : decide (a0_0 = a1_0 && (a0_1 == a1_1 && (a0_2 == a1_2 && (a0_3 == a1_3)))) = true := by simpa using c18))
     (try (have c18b2 : (a0_0 == a1_0 && (a0_1 == a1_1 && (a0_2 == a1_2 && (a0_3 == a1_3)))) = true := by simpa using c18))
     clear c18
     simp only [Option.some.injEq, Prod.mk.injEq] at H
     obtain ⟨rfl, rfl⟩ := H
     have hnb19 := NB327_328.out
     have hnc19 := NB328_327.out
     have hcz20_0 := zc BK327.out 0
     have hcz20_1 := zc BK327.out 1
     have hcz20_2 := zc BK327.out 2
     have hcz20_3 := zc BK327.out 3
     have hfz20_0 := blk_frozen BK327.out 0
     have hfz20_1 := blk_frozen BK327.out 1
     have hfz20_2 := blk_frozen BK327.out 2
     have hfz20_3 := blk_frozen BK327.out 3
     have hcz21_0 := zc BK328.out 0
     have hcz21_1 := zc BK328.out 1
     have hcz21_2 := zc BK328.out 2
     have hcz21_3 := zc BK328.out 3
     have hfz21_0 := blk_frozen BK328.out 0
     have hfz21_1 := blk_frozen BK328.out 1
     have hfz21_2 := blk_frozen BK328.out 2
     have hfz21_3 := blk_frozen BK328.out 3
     go_wp2
     go_ret2
     exact ⟨ze, zw2 HB.out GE327.out GE328.out⟩
    ·rw [if_neg c18] at H
     have c18b0 : (a0_0 == a1_0 && (a0_1 == a1_1 && (a0_2 == a1_2 && (a0_3 == a1_3)))) = false := by simpa using c18
     (try (have c18b1 : decide (a0_0 = a1_0 && (a0_1 == a1_1 && (a0_2 == a1_2 && (a0_3 == a1_3)))) = false := by simpa using c18))
     (try (have c18b2 : (a0_0 == a1_0 && (a0_1 == a1_1 && (a0_2 == a1_2 && (a0_3 == a1_3)))) = false := by simpa using c18))
     (try (have c18b3 : ¬ (a0_0 = a1_0 && (a0_1 == a1_1 && (a0_2 == a1_2 && (a0_3 == a1_3)))) := by simpa using c18))
     clear c18
     simp only [Option.some.injEq, Prod.mk.injEq] at H
     obtain ⟨rfl, rfl⟩ := H
     have hnb22 := NB327_328.out
     have hnc22 := NB328_327.out
     have hcz23_0 := zc BK327.out 0
     have hcz23_1 := zc BK327.out 1
     have hcz23_2 := zc BK327.out 2
     have hcz23_3 := zc BK327.out 3
     have hfz23_0 := blk_frozen BK327.out 0
     have hfz23_1 := blk_frozen BK327.out 1
     have hfz23_2 := blk_frozen BK327.out 2
     have hfz23_3 := blk_frozen BK327.out 3
     have hcz24_0 := zc BK328.out 0
     have hcz24_1 := zc BK328.out 1
     have hcz24_2 := zc BK328.out 2
     have hcz24_3 := zc BK328.out 3
     have hfz24_0 := blk_frozen BK328.out 0
     have hfz24_1 := blk_frozen BK328.out 1
     have hfz24_2 := blk_frozen BK328.out 2
     have hfz24_3 := blk_frozen BK328.out 3
     go_wp2
     go_ret2
     exact ⟨ze, zw2 HB.out GE327.out GE328.out⟩

/-! cellarref1_Wrap -/
def cellarref1_Wrap.f (a0 : Int) (a1 : Int) : Option (Int) := if 0 ≤ a1 then (some (Go.bits .and .i64 a0 (wrap64 ((shl .i64 1 a1) - 1)))) else (none)
set_option maxHeartbeats 8000000 in
set_option maxRecDepth 100000 in
theorem cellarref1_Wrap.calls (a0 : Int) (a1 : Int) (r : Int) (w : World) (h : cellarref1_Wrap.f a0 a1 = some r) :
  Calls Try.prog 83 #[.int .i64 a0, .int .i64 a1] w fun e w' => e = .returned (.int .i64 r) ∧ Drawn0 w w' := by
 have H : (if 0 ≤ a1 then (some (Go.bits .and .i64 a0 (wrap64 ((shl .i64 1 a1) - 1)))) else (none)) = some r := h
 clear h
 by_cases c3 : 0 ≤ a1
 ·rw [if_pos c3] at H
  have c3b0 := eq_true c3
  have c3b1 : decide (0 ≤ a1) = true := decide_eq_true c3
  clear c3
  obtain ⟨ji4, hji4⟩ : ∃ j_ : Int, (shl .i64 1 a1) = j_ := ⟨_, rfl⟩
  replace H : (some (Go.bits .and .i64 a0 (wrap64 ((ji4) - 1)))) = some r := by first | (rw [hji4] at H; exact H) | (simp only [hji4] at H ⊢; exact H)
  have hji4_ : (IntKind.i64.wrap (1 * 2 ^ min a1.toNat 64)) = ji4 := hji4
  have hji4z : a1 ≤ 64 → (IntKind.i64.wrap (1 * 2 ^ a1.toNat)) = ji4 := shl_small hji4
  have hji4u : (IntKind.i64.wrap (2 ^ min a1.toNat 64)) = ji4 := by have h_ := hji4_; rw [Int.one_mul] at h_; exact h_
  have hji4v : a1 ≤ 64 → (IntKind.i64.wrap (2 ^ a1.toNat)) = ji4 := fun hle_ => by have h_ := hji4z hle_; rw [Int.one_mul] at h_; exact h_
  have hji4y : (wrap64 (1 * 2 ^ min a1.toNat 64)) = ji4 := (i64_w _).symm.trans hji4_
  have hji4x : a1 ≤ 64 → (wrap64 (1 * 2 ^ a1.toNat)) = ji4 := fun h_ => (i64_w _).symm.trans (hji4z h_)
  obtain rfl := Option.some.inj H
  go_enter Try.func83, Try.ntmps83
  go_wp2
  go_ret
  exact ⟨by first | rfl | (simp; done) | (simp only [← hji4] <;> (first | rfl | simp)) | (simp [*]; done), by repeat (first | exact Drawn0.refl _ | apply Drawn0.step)⟩
 ·rw [if_neg c3] at H
  exact absurd H (by simp)

/-! cellarref7_Apart -/
def cellarref7_Apart.f (a0_0 : Bool) (a0_1 : Int) (a0_2 : Int) (a0_3 : Int) (a1_0 : Bool) (a1_1 : Int) (a1_2 : Int) (a1_3 : Int) : Option (Int × Int) := if a0_2 = a1_2 then ((cellarref1_Wrap.f (wrap64 (a0_3 - a1_3)) 32).bind fun t333 => (some (t333, 0))) else (some (0, 9))
set_option maxHeartbeats 8000000 in
set_option maxRecDepth 100000 in
theorem cellarref7_Apart.calls (a0_0 : Bool) (a0_1 : Int) (a0_2 : Int) (a0_3 : Int) (a1_0 : Bool) (a1_1 : Int) (a1_2 : Int) (a1_3 : Int) (r1 : Int) (r2 : Int) (w : World) (h : cellarref7_Apart.f a0_0 a0_1 a0_2 a0_3 a1_0 a1_1 a1_2 a1_3 = some (r1, r2)) :
  Calls Try.prog 49 #[.agg #[.bool a0_0, .int .i64 a0_1, .int .i64 a0_2, .int .i64 a0_3], .agg #[.bool a1_0, .int .i64 a1_1, .int .i64 a1_2, .int .i64 a1_3]] w fun e w' => e = .returned (.tuple #[.int .i64 r1, .int .i64 r2]) ∧ Below w.heap.size w w' := by
 have hu62 := Try.underlying62
 have HB := Aside0.mk (Below.refl w.heap.size w)
 have H : (if a0_2 = a1_2 then ((cellarref1_Wrap.f (wrap64 (a0_3 - a1_3)) 32).bind fun t333 => (some (t333, 0))) else (some (0, 9))) = some (r1, r2) := h
 clear h
 by_cases c3 : a0_2 = a1_2
 ·rw [if_pos c3] at H
  have c3b0 : (a0_2 == a1_2) = true := beq_iff_eq.mpr c3
  have c3b1 : (a0_2 != a1_2) = false := bne_eq_false_iff_eq.mpr c3
  clear c3
  replace H := Option.bind_eq_some_iff.mp H
  obtain ⟨t333, A40, H⟩ := H
  replace H : (some (t333, 0)) = some (r1, r2) := H
  have A4 := Aside0.mk A40
  clear A40
  simp only [Option.some.injEq, Prod.mk.injEq] at H
  obtain ⟨rfl, rfl⟩ := H
  go_enter Try.func49, Try.ntmps49
  go_wp2_with (first | ((with_reducible refine gate_dst (N := 2) rfl ?_); refine zbox (N := 2) (cs := #[.bool a0_0, .int .i64 a0_1, .int .i64 a0_2, .int .i64 a0_3]) (t := 62) ?_; intro gb331 hg w5 hbox hb; have n0_ := Aside0.mk (below_step (zw0 HB.out) hb); have BK331 := Aside0.mk (hbox); have GW331 := Aside0.mk (zg hg (below_size (zw0 HB.out))); have GE331 := GW331; clear HB; have HB := n0_; clear n0_; clear hb hbox hg) | ((with_reducible refine gate_dst (N := 3) rfl ?_); refine zbox (N := 3) (cs := #[.bool a1_0, .int .i64 a1_1, .int .i64 a1_2, .int .i64 a1_3]) (t := 62) ?_; intro gb332 hg w6 hbox hb; have n0_ := Aside0.mk (zbb BK331.out hb); have n1_ := Aside0.mk (below_step (zw1 HB.out GE331.out) hb); have BK332 := Aside0.mk (hbox); have GW332 := Aside0.mk (zg hg (below_size (zw1 HB.out GE331.out))); have GE332 := GW332; have NB331_332 := Aside0.mk (zlt hg BK331.out); have NB332_331 := Aside0.mk (zgt hg BK331.out); clear BK331 HB; have BK331 := n0_; have HB := n1_; clear n0_ n1_; clear hb hbox hg; have hnb7 := NB331_332.out; have hnc7 := NB332_331.out; have hcz8_0 := zc BK331.out 0; have hcz8_1 := zc BK331.out 1; have hcz8_2 := zc BK331.out 2; have hcz8_3 := zc BK331.out 3; have hfz8_0 := blk_frozen BK331.out 0; have hfz8_1 := blk_frozen BK331.out 1; have hfz8_2 := blk_frozen BK331.out 2; have hfz8_3 := blk_frozen BK331.out 3; have hcz9_0 := zc BK332.out 0; have hcz9_1 := zc BK332.out 1; have hcz9_2 := zc BK332.out 2; have hcz9_3 := zc BK332.out 3; have hfz9_0 := blk_frozen BK332.out 0; have hfz9_1 := blk_frozen BK332.out 1; have hfz9_2 := blk_frozen BK332.out 2; have hfz9_3 := blk_frozen BK332.out 3) | ((with_reducible refine gate_callee (f := 83) rfl ?_); refine zgo (some 16) Try.func83 #[.int .i64 (wrap64 (a0_3 - a1_3)), .int .i64 32] ?_; (with_reducible refine (cellarref1_Wrap.calls (wrap64 (a0_3 - a1_3)) 32 t333 _ A4.out).mono ?_); rintro e w' ⟨rfl, ⟨nd, rfl⟩⟩; refine ⟨_, rfl, ?_⟩))
  go_ret2
  exact ⟨ze, zw2 HB.out GE331.out GE332.out⟩
 ·rw [if_neg c3] at H
  have c3b0 : (a0_2 == a1_2) = false := beq_eq_false_iff_ne.mpr c3
  have c3b1 : (a0_2 != a1_2) = true := bne_iff_ne.mpr c3
  simp only [Option.some.injEq, Prod.mk.injEq] at H
  obtain ⟨rfl, rfl⟩ := H
  go_enter Try.func49, Try.ntmps49
  go_wp2_with (first | ((with_reducible refine gate_dst (N := 2) rfl ?_); refine zbox (N := 2) (cs := #[.bool a0_0, .int .i64 a0_1, .int .i64 a0_2, .int .i64 a0_3]) (t := 62) ?_; intro gb331 hg w10 hbox hb; have n0_ := Aside0.mk (below_step (zw0 HB.out) hb); have BK331 := Aside0.mk (hbox); have GW331 := Aside0.mk (zg hg (below_size (zw0 HB.out))); have GE331 := GW331; clear HB; have HB := n0_; clear n0_; clear hb hbox hg) | ((with_reducible refine gate_dst (N := 3) rfl ?_); refine zbox (N := 3) (cs := #[.bool a1_0, .int .i64 a1_1, .int .i64 a1_2, .int .i64 a1_3]) (t := 62) ?_; intro gb332 hg w11 hbox hb; have n0_ := Aside0.mk (zbb BK331.out hb); have n1_ := Aside0.mk (below_step (zw1 HB.out GE331.out) hb); have BK332 := Aside0.mk (hbox); have GW332 := Aside0.mk (zg hg (below_size (zw1 HB.out GE331.out))); have GE332 := GW332; have NB331_332 := Aside0.mk (zlt hg BK331.out); have NB332_331 := Aside0.mk (zgt hg BK331.out); clear BK331 HB; have BK331 := n0_; have HB := n1_; clear n0_ n1_; clear hb hbox hg; have hnb12 := NB331_332.out; have hnc12 := NB332_331.out; have hcz13_0 := zc BK331.out 0; have hcz13_1 := zc BK331.out 1; have hcz13_2 := zc BK331.out 2; have hcz13_3 := zc BK331.out 3; have hfz13_0 := blk_frozen BK331.out 0; have hfz13_1 := blk_frozen BK331.out 1; have hfz13_2 := blk_frozen BK331.out 2; have hfz13_3 := blk_frozen BK331.out 3; have hcz14_0 := zc BK332.out 0; have hcz14_1 := zc BK332.out 1; have hcz14_2 := zc BK332.out 2; have hcz14_3 := zc BK332.out 3; have hfz14_0 := blk_frozen BK332.out 0; have hfz14_1 := blk_frozen BK332.out 1; have hfz14_2 := blk_frozen BK332.out 2; have hfz14_3 := blk_frozen BK332.out 3))
  go_ret2
  exact ⟨ze, zw2 HB.out GE331.out GE332.out⟩

/-! cellarref7_Same -/
def cellarref7_Same.f (a0_0 : Bool) (a0_1 : Int) (a0_2 : Int) (a0_3 : Int) (a1_0 : Bool) (a1_1 : Int) (a1_2 : Int) (a1_3 : Int) : Option (Int) := if (a0_0 == a1_0 && (a0_1 == a1_1 && (a0_2 == a1_2 && (a0_3 == a1_3)))) = true then (some 1) else (some 0)
set_option maxHeartbeats 8000000 in
set_option maxRecDepth 100000 in
theorem cellarref7_Same.calls (a0_0 : Bool) (a0_1 : Int) (a0_2 : Int) (a0_3 : Int) (a1_0 : Bool) (a1_1 : Int) (a1_2 : Int) (a1_3 : Int) (r : Int) (w : World) (h : cellarref7_Same.f a0_0 a0_1 a0_2 a0_3 a1_0 a1_1 a1_2 a1_3 = some r) :
  Calls Try.prog 50 #[.agg #[.bool a0_0, .int .i64 a0_1, .int .i64 a0_2, .int .i64 a0_3], .agg #[.bool a1_0, .int .i64 a1_1, .int .i64 a1_2, .int .i64 a1_3]] w fun e w' => e = .returned (.int .i64 r) ∧ Below w.heap.size w w' := by
 have hu62 := Try.underlying62
 have HB := Aside0.mk (Below.refl w.heap.size w)
 have H : (if (a0_0 == a1_0 && (a0_1 == a1_1 && (a0_2 == a1_2 && (a0_3 == a1_3)))) = true then (some 1) else (some 0)) = some r := h
 clear h
 by_cases c3 : (a0_0 == a1_0 && (a0_1 == a1_1 && (a0_2 == a1_2 && (a0_3 == a1_3)))) = true
 ·rw [if_pos c3] at H
  have c3b0 : (a0_0 == a1_0 && (a0_1 == a1_1 && (a0_2 == a1_2 && (a0_3 == a1_3)))) = true := c3
  (try (have c3b1 : decide (a0_0 = a1_0 && (a0_1 == a1_1 && (a0_2 == a1_2 && (a0_3 == a1_3)))) = true := by simpa using c3))
  (try (have c3b2 : (a0_0 == a1_0 && (a0_1 == a1_1 && (a0_2 == a1_2 && (a0_3 == a1_3)))) = true := by simpa using c3))
  clear c3
  obtain rfl := Option.some.inj H
  go_enter Try.func50, Try.ntmps50
  go_wp2_with (first | ((with_reducible refine gate_dst (N := 2) rfl ?_); refine zbox (N := 2) (cs := #[.bool a0_0, .int .i64 a0_1, .int .i64 a0_2, .int .i64 a0_3]) (t := 62) ?_; intro gb334 hg w4 hbox hb; have n0_ := Aside0.mk (below_step (zw0 HB.out) hb); have BK334 := Aside0.mk (hbox); have GW334 := Aside0.mk (zg hg (below_size (zw0 HB.out))); have GE334 := GW334; clear HB; have HB := n0_; clear n0_; clear hb hbox hg) | ((with_reducible refine gate_dst (N := 3) rfl ?_); refine zbox (N := 3) (cs := #[.bool a1_0, .int .i64 a1_1, .int .i64 a1_2, .int .i64 a1_3]) (t := 62) ?_; intro gb335 hg w5 hbox hb; have n0_ := Aside0.mk (zbb BK334.out hb); have n1_ := Aside0.mk (below_step (zw1 HB.out GE334.out) hb); have BK335 := Aside0.mk (hbox); have GW335 := Aside0.mk (zg hg (below_size (zw1 HB.out GE334.out))); have GE335 := GW335; have NB334_335 := Aside0.mk (zlt hg BK334.out); have NB335_334 := Aside0.mk (zgt hg BK334.out); clear BK334 HB; have BK334 := n0_; have HB := n1_; clear n0_ n1_; clear hb hbox hg; have hnb6 := NB334_335.out; have hnc6 := NB335_334.out; have hcz7_0 := zc BK334.out 0; have hcz7_1 := zc BK334.out 1; have hcz7_2 := zc BK334.out 2; have hcz7_3 := zc BK334.out 3; have hfz7_0 := blk_frozen BK334.out 0; have hfz7_1 := blk_frozen BK334.out 1; have hfz7_2 := blk_frozen BK334.out 2; have hfz7_3 := blk_frozen BK334.out 3; have hcz8_0 := zc BK335.out 0; have hcz8_1 := zc BK335.out 1; have hcz8_2 := zc BK335.out 2; have hcz8_3 := zc BK335.out 3; have hfz8_0 := blk_frozen BK335.out 0; have hfz8_1 := blk_frozen BK335.out 1; have hfz8_2 := blk_frozen BK335.out 2; have hfz8_3 := blk_frozen BK335.out 3))
  go_ret
  exact ⟨ze, zw2 HB.out GE334.out GE335.out⟩
 ·rw [if_neg c3] at H
  have c3b0 : (a0_0 == a1_0 && (a0_1 == a1_1 && (a0_2 == a1_2 && (a0_3 == a1_3)))) = false := by simpa using c3
  (try (have c3b1 : decide (a0_0 = a1_0 && (a0_1 == a1_1 && (a0_2 == a1_2 && (a0_3 == a1_3)))) = false := by simpa using c3))
  (try (have c3b2 : (a0_0 == a1_0 && (a0_1 == a1_1 && (a0_2 == a1_2 && (a0_3 == a1_3)))) = false := by simpa using c3))
  (try (have c3b3 : ¬ (a0_0 = a1_0 && (a0_1 == a1_1 && (a0_2 == a1_2 && (a0_3 == a1_3)))) := by simpa using c3))
  clear c3
  obtain rfl := Option.some.inj H
  go_enter Try.func50, Try.ntmps50
  go_wp2_with (first | ((with_reducible refine gate_dst (N := 2) rfl ?_); refine zbox (N := 2) (cs := #[.bool a0_0, .int .i64 a0_1, .int .i64 a0_2, .int .i64 a0_3]) (t := 62) ?_; intro gb334 hg w9 hbox hb; have n0_ := Aside0.mk (below_step (zw0 HB.out) hb); have BK334 := Aside0.mk (hbox); have GW334 := Aside0.mk (zg hg (below_size (zw0 HB.out))); have GE334 := GW334; clear HB; have HB := n0_; clear n0_; clear hb hbox hg) | ((with_reducible refine gate_dst (N := 3) rfl ?_); refine zbox (N := 3) (cs := #[.bool a1_0, .int .i64 a1_1, .int .i64 a1_2, .int .i64 a1_3]) (t := 62) ?_; intro gb335 hg w10 hbox hb; have n0_ := Aside0.mk (zbb BK334.out hb); have n1_ := Aside0.mk (below_step (zw1 HB.out GE334.out) hb); have BK335 := Aside0.mk (hbox); have GW335 := Aside0.mk (zg hg (below_size (zw1 HB.out GE334.out))); have GE335 := GW335; have NB334_335 := Aside0.mk (zlt hg BK334.out); have NB335_334 := Aside0.mk (zgt hg BK334.out); clear BK334 HB; have BK334 := n0_; have HB := n1_; clear n0_ n1_; clear hb hbox hg; have hnb11 := NB334_335.out; have hnc11 := NB335_334.out; have hcz12_0 := zc BK334.out 0; have hcz12_1 := zc BK334.out 1; have hcz12_2 := zc BK334.out 2; have hcz12_3 := zc BK334.out 3; have hfz12_0 := blk_frozen BK334.out 0; have hfz12_1 := blk_frozen BK334.out 1; have hfz12_2 := blk_frozen BK334.out 2; have hfz12_3 := blk_frozen BK334.out 3; have hcz13_0 := zc BK335.out 0; have hcz13_1 := zc BK335.out 1; have hcz13_2 := zc BK335.out 2; have hcz13_3 := zc BK335.out 3; have hfz13_0 := blk_frozen BK335.out 0; have hfz13_1 := blk_frozen BK335.out 1; have hfz13_2 := blk_frozen BK335.out 2; have hfz13_3 := blk_frozen BK335.out 3))
  go_ret
  exact ⟨ze, zw2 HB.out GE334.out GE335.out⟩

end Go.Proofs.Ytjoplkillkhiaaa.M
