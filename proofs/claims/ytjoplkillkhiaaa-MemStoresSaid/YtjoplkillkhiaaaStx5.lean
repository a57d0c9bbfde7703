-- Written by this session's own edition of the print.
import Derived.Test.YtjoplkillkhiaaaStx0
import Derived.Test.YtjoplkillkhiaaaStx4
import Derived.Test.YtjoplkillkhiaaaZSq
import Derived.Test.YtjoplkillkhiaaaZSq2
namespace Go.Proofs.Ytjoplkillkhiaaa.St
open Go.RowKit Go.Proofs.Ytjoplkillkhiaaa.Fn Go.Proofs.YtjoplkillkhiaaaW.PrintWords Go.Proofs.YtjoplkillkhiaaaW.PrintLast Go.Proofs.YtjoplkillkhiaaaW.PrintMore
attribute [local go_sem] max2_int min2_int max_two min_two max_three min_three max_four min_four   -- for this text's walks alone
set_option linter.unusedVariables false
set_option linter.unusedSimpArgs false

/-! mem_May_1 -/
def mem_May_1.f (a0_0 : Int) (l0_1 : List (S74)) : Option (Bool) := (mem_block.f a0_0 l0_1).bind fun t177 => (some (!t177))
set_option maxHeartbeats 8000000 in
set_option maxRecDepth 100000 in
theorem mem_May_1.calls (a0_0 : Int) (A0_1 : Option Addr) (c0_1 : Nat) (l0_1 : List (S74)) (r : Bool) (w : World) (hr0_1 : Kd.C k74 w A0_1 l0_1.length l0_1) (hc0_1 : l0_1.length ≤ c0_1) (h : mem_May_1.f a0_0 l0_1 = some r) :
  Calls Try.prog 108 #[.agg #[.int .i64 a0_0, .slice A0_1 l0_1.length c0_1]] w fun e w' => e = .returned (.bool r) ∧ Below w.heap.size w w' := by
 have hu76 := Try.underlying76
 have HR0_1 := Aside0.mk hr0_1
 have HC0_1 := Aside0.mk hc0_1
 clear hr0_1 hc0_1
 have HB := Aside0.mk (Below.refl w.heap.size w)
 have H : ((mem_block.f a0_0 l0_1).bind fun t177 => (some (!t177))) = some r := h
 clear h
 replace H := Option.bind_eq_some_iff.mp H
 obtain ⟨t177, A20, H⟩ := H
 replace H : (some (!t177)) = some r := H
 have A2 := Aside0.mk A20
 clear A20
 obtain rfl := Option.some.inj H
 go_enter Try.func108, Try.ntmps108
 go_wp2_with (first | ((with_reducible refine gate_dst (N := 1) rfl ?_); refine zbox (N := 1) (cs := #[.int .i64 a0_0, .slice A0_1 l0_1.length c0_1]) (t := 76) ?_; intro gb176 hg w3 hbox hb; have n0_ := Aside0.mk (below_step (zw0 HB.out) hb); have BK176 := Aside0.mk (hbox); have GW176 := Aside0.mk (zg hg (below_size (zw0 HB.out))); have GE176 := GW176; clear HB; have HB := n0_; clear n0_; clear hb hbox hg; have hcz4_0 := zc BK176.out 0; have hcz4_1 := zc BK176.out 1; have hfz4_0 := blk_frozen BK176.out 0; have hfz4_1 := blk_frozen BK176.out 1) | ((with_reducible refine gate_callee (f := 109) rfl ?_); refine zgo (some 4) Try.func109 #[.agg #[.int .i64 a0_0, .slice A0_1 l0_1.length c0_1]] ?_; (with_reducible refine (mem_block.calls a0_0 _ _ l0_1 t177 _ ?side1 ?side2 A2.out).mono ?_); (case side1 => repeat (first | exact (Kd.C_below HR0_1.out HB.out) | (with_reducible refine Kd.C_alloc ?_ _) | (with_reducible refine Kd.C_drewN ?_ _) | (with_reducible refine Kd.C_drew ?_))); (case side2 => exact HC0_1.out); rintro e w5 ⟨rfl, hb⟩; refine ⟨_, rfl, ?_⟩; have n0_ := Aside0.mk (zbb BK176.out hb); have n1_ := Aside0.mk (below_step (zw1 HB.out GE176.out) hb); clear BK176 HB; have BK176 := n0_; have HB := n1_; clear n0_ n1_; (try clear hb); (try clear hb2); (try clear hk); (try clear hi)))
 go_ret
 exact ⟨ze, zw1 HB.out GE176.out⟩

/-! slices.IndexFunc[[]cellar/api.Block,cellar/api.Block] -/
set_option maxHeartbeats 4000000 in
set_option maxRecDepth 100000 in
theorem IndexFunc_T76 (p : S76 → Option Bool) (g : Nat) (lb : Array Value) (eg : ∀ args w, (callFunc g args).run Try.prog w = .ok (.enter g args) w) (A : Option Addr) (c : Nat) (l : List S76) (r : Int) (w : World)
    (hr : Kd.C k76 w A l.length l) (hp : PredK Try.prog k76 g lb (fun cs => .agg cs.toArray) p w) (h : idxO p 0 l = some r) :
    Calls Try.prog 121 #[.slice A l.length c, .func (.func g) #[] lb] w fun e w' => e = .returned (.int .i64 r) ∧ Below w.heap.size w w' := by
  have hbig := hr.2.1
  have HR := Aside0.mk hr
  have HP := Aside0.mk hp
  have H0 := Aside0.mk h
  have hu := Try.underlying76
  clear hr hp h
  go_enter Try.func121, Try.ntmps121
  go_wp2
  go_loopg [5, 8] l.length (fun gg _ s8 wr => ∃ kk : Nat, kk ≤ l.length ∧ l.length - kk ≤ gg ∧ s8 = .int .i64 kk ∧ Aside0 (Below w.heap.size w wr) ∧ Aside0 (idxO p kk (l.drop kk) = some r))
  case atStart => exact ⟨0, Nat.zero_le _, by omega, rfl, ⟨Below.refl _ w⟩, H0⟩
  case round =>
    obtain ⟨kk, hkk, hg, rfl, BW, A0_⟩ := hrel
    clear H0
    by_cases hlt : kk < l.length
    · have hltz : (kk : Int) < (l.length : Int) := by omega
      obtain ⟨ad, A1, c1, e0, hx0, hx1, hl1, hi1⟩ := at_T76 (Kd.C_below HR.out BW.out) (kk : Int) (by omega) (by omega)
      cases e0
      rw [Int.toNat_natCast] at hx0 hx1
      have hA := A0_.out
      have hd : l.drop kk = rd_T76 l (kk : Int) :: l.drop (kk + 1) := by
        show l.drop kk = l.getD kk z76 :: l.drop (kk + 1)
        rw [List.drop_eq_getElem_cons hlt, List.getD_eq_getElem?_getD, List.getElem?_eq_getElem hlt]
        rfl
      rw [hd] at hA
      simp only [idxO] at hA
      obtain ⟨b, hb, hA⟩ := Option.bind_eq_some_iff.1 hA
      have hcall := HP.out wr (rd_T76 l (kk : Int)) _ b BW.out (k76_mk wr _ hl1 hi1) hb
      clear hd hb A0_
      cases b with
      | true =>
        rw [if_pos rfl] at hA
        injection hA with hA
        subst hA
        go_wp2_with (go_at_fn g; refine hcall.mono ?_; rintro e w' ⟨rfl, hb'⟩)
        go_ret
        exact ⟨by first | rfl | (simp; done), below_step BW.out hb'⟩
      | false =>
        rw [if_neg (by decide)] at hA
        have HA := Aside0.mk hA
        clear hA
        go_wp2_with (go_at_fn g; refine hcall.mono ?_; rintro e w' ⟨rfl, hb'⟩)
        go_roundg (l.length - (kk + 1))
        case measure => omega
        case rel => exact ⟨kk + 1, by omega, by omega, by go_num, ⟨below_step BW.out hb'⟩, ⟨by have := HA.out; simpa using this⟩⟩
    · have hltz : ¬ (kk : Int) < (l.length : Int) := by omega
      have hA := A0_.out
      rw [List.drop_eq_nil_of_le (by omega)] at hA
      simp only [idxO, Option.some.injEq] at hA
      subst hA
      clear A0_
      go_wp2
      go_ret
      exact ⟨by first | rfl | (simp; done), BW.out⟩

/-! slices.ContainsFunc[[]cellar/api.Block,cellar/api.Block] -/
set_option maxHeartbeats 4000000 in
theorem ContainsFunc_T76 (p : S76 → Option Bool) (g : Nat) (lb : Array Value) (eg : ∀ args w, (callFunc g args).run Try.prog w = .ok (.enter g args) w) (A : Option Addr) (c : Nat) (l : List S76) (r : Bool) (w : World)
    (hr : Kd.C k76 w A l.length l) (hp : PredK Try.prog k76 g lb (fun cs => .agg cs.toArray) p w) (h : anyO p l = some r) :
    Calls Try.prog 107 #[.slice A l.length c, .func (.func g) #[] lb] w fun e w' => e = .returned (.bool r) ∧ Below w.heap.size w w' := by
  obtain ⟨j, hj, hd⟩ := idx_any p l 0 r (Int.le_refl 0) h
  have HI := Aside0.mk (IndexFunc_T76 p g lb eg A c l j w hr hp hj)
  subst hd
  clear hr hp h hj
  go_enter Try.func107, Try.ntmps107
  go_wp2_with (go_at_call 121; refine HI.out.mono ?_; rintro e w' ⟨rfl, hb'⟩)
  go_ret
  exact ⟨by first | rfl | (simp; done), hb'⟩
def api_Block_107.f (l : List S76) (g : Nat) : Option Bool := if g = 108 then anyO (fun x => mem_May_1.f x.f0 x.f1) l else (none)
theorem api_Block_107.calls (A0 : Option Addr) (c0 : Nat) (l : List S76) (g : Nat) (r : Bool) (w : World) (hr0 : Kd.C k76 w A0 l.length l) (hc0 : l.length ≤ c0) (h : api_Block_107.f l g = some r) :
    Calls Try.prog 107 #[.slice A0 l.length c0, .func (.func g) #[] #[]] w fun e w' => e = .returned (.bool r) ∧ Below w.heap.size w w' := by
  unfold api_Block_107.f at h
  by_cases e108 : g = 108
  · subst e108
    rw [if_pos rfl] at h
    exact ContainsFunc_T76 _ 108 #[] (enters_of Try.func108 (by kernel_rfl) rfl) A0 c0 l r w hr0 (fun W x cs b hb hK hx => by
      obtain ⟨A1, c1, rfl, hl1, hg1⟩ := k76_open hK
      exact (mem_May_1.calls x.f0 _ _ x.f1 b W hg1 hl1 hx).mono fun e w' ⟨he, hd⟩ => ⟨he, hd⟩) h
  rw [if_neg e108] at h
  exact absurd h (by simp)

/-! mem_May -/
def mem_May.f (l0 : List (S76)) : Option (Bool) := if (l0.length : Int) < 1 then (some false) else (if (l0.length : Int) > 33 then (some false) else (if 0 < (l0.length : Int) then (if ((rd_T76 l0 0).f0) = 0 then ((api_Block_107.f l0 108).bind fun t179 => (some (!t179))) else (some false)) else (none)))
set_option maxHeartbeats 8000000 in
set_option maxRecDepth 100000 in
theorem mem_May.calls (A0 : Option Addr) (c0 : Nat) (l0 : List (S76)) (r : Bool) (w : World) (hr0 : Kd.C k76 w A0 l0.length l0) (hc0 : l0.length ≤ c0) (h : mem_May.f l0 = some r) :
  Calls Try.prog 77 #[.slice A0 l0.length c0] w fun e w' => e = .returned (.bool r) ∧ Below w.heap.size w w' := by
 have HR0 := Aside0.mk hr0
 have HC0 := Aside0.mk hc0
 clear hr0 hc0
 have HB := Aside0.mk (Below.refl w.heap.size w)
 have H : (if (l0.length : Int) < 1 then (some false) else (if (l0.length : Int) > 33 then (some false) else (if 0 < (l0.length : Int) then (if ((rd_T76 l0 0).f0) = 0 then ((api_Block_107.f l0 108).bind fun t179 => (some (!t179))) else (some false)) else (none)))) = some r := h
 clear h
 by_cases c2 : (l0.length : Int) < 1
 ·rw [if_pos c2] at H
  have c2b0 : decide ((l0.length : Int) < 1) = true := decide_eq_true c2
  have c2b1 : decide (l0.length < 1) = true := decide_eq_true (by omega)
  clear c2
  obtain rfl := Option.some.inj H
  go_enter Try.func77, Try.ntmps77
  go_wp2
  go_ret
  exact ⟨ze, zw0 HB.out⟩
 ·rw [if_neg c2] at H
  have c2b0 : decide ((l0.length : Int) < 1) = false := decide_eq_false c2
  have c2b1 : decide (l0.length < 1) = false := decide_eq_false (by omega)
  clear c2
  by_cases c3 : (l0.length : Int) > 33
  ·rw [if_pos c3] at H
   have c3b0 : decide (33 < (l0.length : Int)) = true := decide_eq_true c3
   have c3b1 : decide (33 < l0.length) = true := decide_eq_true (by omega)
   clear c3
   obtain rfl := Option.some.inj H
   go_enter Try.func77, Try.ntmps77
   go_wp2
   go_ret
   exact ⟨ze, zw0 HB.out⟩
  ·rw [if_neg c3] at H
   have c3b0 : decide (33 < (l0.length : Int)) = false := decide_eq_false c3
   have c3b1 : decide (33 < l0.length) = false := decide_eq_false (by omega)
   clear c3
   by_cases c4 : 0 < (l0.length : Int)
   ·rw [if_pos c4] at H
    have c4b0 : decide (0 < (l0.length : Int)) = true := decide_eq_true c4
    have c4b1 : decide (0 < l0.length) = true := decide_eq_true (by omega)
    clear c4
    by_cases c5 : ((rd_T76 l0 0).f0) = 0
    rotate_left
    ·rw [if_neg c5] at H
     have c5b0 : (((rd_T76 l0 0).f0) == 0) = false := beq_eq_false_iff_ne.mpr c5
     have c5b1 : (((rd_T76 l0 0).f0) != 0) = true := bne_iff_ne.mpr c5
     obtain rfl := Option.some.inj H
     have p178 : 0 ≤ (0 : Int) := (by omega)
     have q178 : 0 < (l0.length : Int) := zdec
     obtain ⟨ad178, A178_1, c178_1, e178, hx178_0, hx178_1, hl178_1, hi178_1⟩ := at_T76 HR0.out 0 p178 q178
     cases e178
     have qi178 : (0 < l0.length) = True := eq_true (by omega)
     (try rw [show ((0 : Int)).toNat = 0 from rfl] at hx178_0)
     (try rw [show 0 * 2 = 0 from rfl] at hx178_0)
     (try rw [Addr.add_zero'] at hx178_0)
     (try rw [show ((0 : Int)).toNat = 0 from rfl] at hx178_1)
     (try rw [show 0 * 2 = 0 from rfl] at hx178_1)
     (try rw [Addr.add_zero'] at hx178_1)
     have HR178_1 := Aside0.mk hi178_1
     have HC178_1 := Aside0.mk hl178_1
     clear hi178_1 hl178_1
     replace p178 := eq_true p178
     replace q178 := eq_true q178
     go_enter Try.func77, Try.ntmps77
     go_wp2
     go_ret
     exact ⟨ze, zw0 HB.out⟩
    rw [if_pos c5] at H
    have c5b0 : (((rd_T76 l0 0).f0) == 0) = true := beq_iff_eq.mpr c5
    have c5b1 : (((rd_T76 l0 0).f0) != 0) = false := bne_eq_false_iff_eq.mpr c5
    clear c5
    replace H := Option.bind_eq_some_iff.mp H
    obtain ⟨t179, A60, H⟩ := H
    replace H : (some (!t179)) = some r := H
    have A6 := Aside0.mk A60
    clear A60
    obtain rfl := Option.some.inj H
    have p178 : 0 ≤ (0 : Int) := (by omega)
    have q178 : 0 < (l0.length : Int) := zdec
    obtain ⟨ad178, A178_1, c178_1, e178, hx178_0, hx178_1, hl178_1, hi178_1⟩ := at_T76 HR0.out 0 p178 q178
    cases e178
    have qi178 : (0 < l0.length) = True := eq_true (by omega)
    (try rw [show ((0 : Int)).toNat = 0 from rfl] at hx178_0)
    (try rw [show 0 * 2 = 0 from rfl] at hx178_0)
    (try rw [Addr.add_zero'] at hx178_0)
    (try rw [show ((0 : Int)).toNat = 0 from rfl] at hx178_1)
    (try rw [show 0 * 2 = 0 from rfl] at hx178_1)
    (try rw [Addr.add_zero'] at hx178_1)
    have HR178_1 := Aside0.mk hi178_1
    have HC178_1 := Aside0.mk hl178_1
    clear hi178_1 hl178_1
    replace p178 := eq_true p178
    replace q178 := eq_true q178
    go_enter Try.func77, Try.ntmps77
    go_wp2_with (first | ((with_reducible refine gate_callee (f := 107) rfl ?_); refine zgo (some 19) Try.func107 #[.slice (some ad178) l0.length c0, .func (.func 108) #[] #[]] ?_; (with_reducible refine (api_Block_107.calls _ _ l0 108 t179 _ ?side1 ?side2 A6.out).mono ?_); (case side1 => repeat (first | exact HR0.out | (with_reducible refine Kd.C_alloc ?_ _) | (with_reducible refine Kd.C_drewN ?_ _) | (with_reducible refine Kd.C_drew ?_))); (case side2 => exact HC0.out); rintro e w7 ⟨rfl, hb⟩; refine ⟨_, rfl, ?_⟩; have n0_ := Aside0.mk (below_step (zw0 HB.out) hb); clear HB; have HB := n0_; clear n0_; (try clear hb); (try clear hb2); (try clear hk); (try clear hi)))
    go_ret
    exact ⟨ze, zw0 HB.out⟩
   ·rw [if_neg c4] at H
    exact absurd H (by simp)

/-! word_Most -/
def word_Most.f (a0 : Int) : Option (Int) := if 0 ≤ a0 then (some (wrap64 ((shl .i64 1 a0) - 1))) else (none)
set_option maxHeartbeats 8000000 in
set_option maxRecDepth 100000 in
theorem word_Most.calls (a0 : Int) (r : Int) (w : World) (h : word_Most.f a0 = some r) :
  Calls Try.prog 110 #[.int .i64 a0] w fun e w' => e = .returned (.int .i64 r) ∧ Drawn0 w w' := by
 have H : (if 0 ≤ a0 then (some (wrap64 ((shl .i64 1 a0) - 1))) else (none)) = some r := h
 clear h
 by_cases c2 : 0 ≤ a0
 ·rw [if_pos c2] at H
  have c2b0 := eq_true c2
  have c2b1 : decide (0 ≤ a0) = true := decide_eq_true c2
  clear c2
  obtain ⟨ji3, hji3⟩ : ∃ j_ : Int, (shl .i64 1 a0) = j_ := ⟨_, rfl⟩
  replace H : (some (wrap64 ((ji3) - 1))) = some r := by first | (rw [hji3] at H; exact H) | (simp only [hji3] at H ⊢; exact H)
  have hji3_ : (IntKind.i64.wrap (1 * 2 ^ min a0.toNat 64)) = ji3 := hji3
  have hji3z : a0 ≤ 64 → (IntKind.i64.wrap (1 * 2 ^ a0.toNat)) = ji3 := shl_small hji3
  have hji3u : (IntKind.i64.wrap (2 ^ min a0.toNat 64)) = ji3 := by have h_ := hji3_; rw [Int.one_mul] at h_; exact h_
  have hji3v : a0 ≤ 64 → (IntKind.i64.wrap (2 ^ a0.toNat)) = ji3 := fun hle_ => by have h_ := hji3z hle_; rw [Int.one_mul] at h_; exact h_
  have hji3y : (wrap64 (1 * 2 ^ min a0.toNat 64)) = ji3 := (i64_w _).symm.trans hji3_
  have hji3x : a0 ≤ 64 → (wrap64 (1 * 2 ^ a0.toNat)) = ji3 := fun h_ => (i64_w _).symm.trans (hji3z h_)
  obtain rfl := Option.some.inj H
  go_enter Try.func110, Try.ntmps110
  go_wp2
  go_ret
  exact ⟨by first | rfl | (simp; done) | (simp only [← hji3] <;> (first | rfl | simp)) | (simp [*]; done), by repeat (first | exact Drawn0.refl _ | apply Drawn0.step)⟩
 ·rw [if_neg c2] at H
  exact absurd H (by simp)

/-! word_Is -/
def word_Is.f (a0 : Int) (a1 : Int) : Option (Bool) := if a0 ≥ 0 then ((word_Most.f a1).bind fun t180 => (some (decide (a0 ≤ t180)))) else (some false)
set_option maxHeartbeats 8000000 in
set_option maxRecDepth 100000 in
theorem word_Is.calls (a0 : Int) (a1 : Int) (r : Bool) (w : World) (h : word_Is.f a0 a1 = some r) :
  Calls Try.prog 79 #[.int .i64 a0, .int .i64 a1] w fun e w' => e = .returned (.bool r) ∧ Drawn0 w w' := by
 have H : (if a0 ≥ 0 then ((word_Most.f a1).bind fun t180 => (some (decide (a0 ≤ t180)))) else (some false)) = some r := h
 clear h
 by_cases c3 : a0 ≥ 0
 ·rw [if_pos c3] at H
  have c3b0 : decide (0 ≤ a0) = true := decide_eq_true c3
  clear c3
  replace H := Option.bind_eq_some_iff.mp H
  obtain ⟨t180, A40, H⟩ := H
  replace H : (some (decide (a0 ≤ t180))) = some r := H
  have A4 := Aside0.mk A40
  clear A40
  obtain rfl := Option.some.inj H
  go_enter Try.func79, Try.ntmps79
  go_wp2_with (first | (go_at_call 110; (with_reducible refine (word_Most.calls a1 t180 _ A4.out).mono ?_); rintro e w' ⟨rfl, ⟨nd, rfl⟩⟩))
  go_ret
  exact ⟨zr, by repeat (first | exact Drawn0.refl _ | apply Drawn0.step)⟩
 ·rw [if_neg c3] at H
  have c3b0 : decide (0 ≤ a0) = false := decide_eq_false c3
  clear c3
  obtain rfl := Option.some.inj H
  go_enter Try.func79, Try.ntmps79
  go_wp2
  go_ret
  exact ⟨zr, by repeat (first | exact Drawn0.refl _ | apply Drawn0.step)⟩

/-! word_IsKind -/
def word_IsKind.f (a0 : Int) : Option (Bool) := if a0 ≥ 1 then (some (decide (a0 ≤ 6))) else (some false)
set_option maxHeartbeats 8000000 in
set_option maxRecDepth 100000 in
theorem word_IsKind.calls (a0 : Int) (r : Bool) (w : World) (h : word_IsKind.f a0 = some r) :
  Calls Try.prog 98 #[.int .i64 a0] w fun e w' => e = .returned (.bool r) ∧ Drawn0 w w' := by
 have H : (if a0 ≥ 1 then (some (decide (a0 ≤ 6))) else (some false)) = some r := h
 clear h
 by_cases c2 : a0 ≥ 1
 ·rw [if_pos c2] at H
  have c2b0 : decide (1 ≤ a0) = true := decide_eq_true c2
  clear c2
  obtain rfl := Option.some.inj H
  go_enter Try.func98, Try.ntmps98
  go_wp2
  go_ret
  exact ⟨zr, by repeat (first | exact Drawn0.refl _ | apply Drawn0.step)⟩
 ·rw [if_neg c2] at H
  have c2b0 : decide (1 ≤ a0) = false := decide_eq_false c2
  clear c2
  obtain rfl := Option.some.inj H
  go_enter Try.func98, Try.ntmps98
  go_wp2
  go_ret
  exact ⟨zr, by repeat (first | exact Drawn0.refl _ | apply Drawn0.step)⟩

/-! word_Of -/
def word_Of.f (a0 : Int) : Option (Int) := if 0 ≤ (wrap64 (Int.tdiv (wrap64 (a0 - 1)) 2)) then (some (shl .i64 8 (wrap64 (Int.tdiv (wrap64 (a0 - 1)) 2)))) else (none)
set_option maxHeartbeats 8000000 in
set_option maxRecDepth 100000 in
theorem word_Of.calls (a0 : Int) (r : Int) (w : World) (h : word_Of.f a0 = some r) :
  Calls Try.prog 99 #[.int .i64 a0] w fun e w' => e = .returned (.int .i64 r) ∧ Drawn0 w w' := by
 have H : (if 0 ≤ (wrap64 (Int.tdiv (wrap64 (a0 - 1)) 2)) then (some (shl .i64 8 (wrap64 (Int.tdiv (wrap64 (a0 - 1)) 2)))) else (none)) = some r := h
 clear h
 obtain ⟨ji2, hji2⟩ : ∃ j_ : Int, (wrap64 (Int.tdiv (wrap64 (a0 - 1)) 2)) = j_ := ⟨_, rfl⟩
 replace H : (if 0 ≤ (ji2) then (some (shl .i64 8 (ji2))) else (none)) = some r := by first | (rw [hji2] at H; exact H) | (simp only [hji2] at H ⊢; exact H)
 have hji2w : (IntKind.i64.wrap (Int.tdiv (wrap64 (a0 - 1)) 2)) = ji2 := (i64_w _).trans hji2
 by_cases c3 : 0 ≤ (ji2)
 ·rw [if_pos c3] at H
  have c3b0 := eq_true c3
  have c3b1 : decide (0 ≤ (ji2)) = true := decide_eq_true c3
  clear c3
  obtain ⟨ji4, hji4⟩ : ∃ j_ : Int, (shl .i64 8 (ji2)) = j_ := ⟨_, rfl⟩
  replace H : (some ji4) = some r := by first | (rw [hji4] at H; exact H) | (simp only [hji4] at H ⊢; exact H)
  have hji4_ : (IntKind.i64.wrap (8 * 2 ^ min (ji2).toNat 64)) = ji4 := hji4
  have hji4z : (ji2) ≤ 64 → (IntKind.i64.wrap (8 * 2 ^ (ji2).toNat)) = ji4 := shl_small hji4
  have hji4y : (wrap64 (8 * 2 ^ min (ji2).toNat 64)) = ji4 := (i64_w _).symm.trans hji4_
  have hji4x : (ji2) ≤ 64 → (wrap64 (8 * 2 ^ (ji2).toNat)) = ji4 := fun h_ => (i64_w _).symm.trans (hji4z h_)
  obtain rfl := Option.some.inj H
  go_enter Try.func99, Try.ntmps99
  go_wp2
  go_ret
  exact ⟨by first | rfl | (simp; done) | (simp only [← hji2, ← hji4] <;> (first | rfl | simp)) | (simp [*]; done), by repeat (first | exact Drawn0.refl _ | apply Drawn0.step)⟩
 ·rw [if_neg c3] at H
  exact absurd H (by simp)

/-! bytes_May -/
def bytes_May.f (a0 : Int) (a1_0 : Bool) (a1_1 : Int) (a1_2 : Int) (a1_3 : Int) : Option (Bool) := (word_IsKind.f a0).bind fun t182 => (if t182 = true then (if a1_0 = true then (some false) else ((word_Of.f a0).bind fun t183 => ((word_Is.f a1_1 t183).bind fun t184 => (if t184 = true then (if a1_2 = 0 then (some (a1_3 == 0)) else (some false)) else (some false))))) else (if a0 = 7 then (if a1_0 = true then (if a1_1 = 0 then ((bytes_up.f a1_2 32).bind fun t185 => (if t185 = true then ((bytes_up.f a1_3 32).bind fun t186 => (if t186 = true then (if a1_2 > 0 then (some true) else (some (a1_3 == 0))) else (some false))) else (some false))) else (some false)) else (some false)) else (some false)))
set_option maxHeartbeats 8000000 in
set_option maxRecDepth 100000 in
theorem bytes_May.calls (a0 : Int) (a1_0 : Bool) (a1_1 : Int) (a1_2 : Int) (a1_3 : Int) (r : Bool) (w : World) (h : bytes_May.f a0 a1_0 a1_1 a1_2 a1_3 = some r) :
  Calls Try.prog 67 #[.int .i64 a0, .agg #[.bool a1_0, .int .i64 a1_1, .int .i64 a1_2, .int .i64 a1_3]] w fun e w' => e = .returned (.bool r) ∧ Below w.heap.size w w' := by
 have hu62 := Try.underlying62
 have HB := Aside0.mk (Below.refl w.heap.size w)
 have H : ((word_IsKind.f a0).bind fun t182 => (if t182 = true then (if a1_0 = true then (some false) else ((word_Of.f a0).bind fun t183 => ((word_Is.f a1_1 t183).bind fun t184 => (if t184 = true then (if a1_2 = 0 then (some (a1_3 == 0)) else (some false)) else (some false))))) else (if a0 = 7 then (if a1_0 = true then (if a1_1 = 0 then ((bytes_up.f a1_2 32).bind fun t185 => (if t185 = true then ((bytes_up.f a1_3 32).bind fun t186 => (if t186 = true then (if a1_2 > 0 then (some true) else (some (a1_3 == 0))) else (some false))) else (some false))) else (some false)) else (some false)) else (some false)))) = some r := h
 clear h
 replace H := Option.bind_eq_some_iff.mp H
 obtain ⟨t182, A30, H⟩ := H
 replace H : (if t182 = true then (if a1_0 = true then (some false) else ((word_Of.f a0).bind fun t183 => ((word_Is.f a1_1 t183).bind fun t184 => (if t184 = true then (if a1_2 = 0 then (some (a1_3 == 0)) else (some false)) else (some false))))) else (if a0 = 7 then (if a1_0 = true then (if a1_1 = 0 then ((bytes_up.f a1_2 32).bind fun t185 => (if t185 = true then ((bytes_up.f a1_3 32).bind fun t186 => (if t186 = true then (if a1_2 > 0 then (some true) else (some (a1_3 == 0))) else (some false))) else (some false))) else (some false)) else (some false)) else (some false))) = some r := H
 have A3 := Aside0.mk A30
 clear A30
 by_cases c4 : t182 = true
 ·subst c4
  have H1 : (if a1_0 = true then (some false) else ((word_Of.f a0).bind fun t183 => ((word_Is.f a1_1 t183).bind fun t184 => (if t184 = true then (if a1_2 = 0 then (some (a1_3 == 0)) else (some false)) else (some false))))) = some r := by rw [if_pos rfl] at H; exact H
  clear H
  have H := H1
  clear H1
  by_cases c5 : a1_0 = true
  ·subst c5
   have H1 : (some false) = some r := by rw [if_pos rfl] at H; exact H
   clear H
   have H := H1
   clear H1
   obtain rfl := Option.some.inj H
   go_enter Try.func67, Try.ntmps67
   go_wp2_with (first | ((with_reducible refine gate_dst (N := 3) rfl ?_); refine zbox (N := 3) (cs := #[.bool true, .int .i64 a1_1, .int .i64 a1_2, .int .i64 a1_3]) (t := 62) ?_; intro gb181 hg w6 hbox hb; have n0_ := Aside0.mk (below_step (zw0 HB.out) hb); have BK181 := Aside0.mk (hbox); have GW181 := Aside0.mk (zg hg (below_size (zw0 HB.out))); have GE181 := GW181; clear HB; have HB := n0_; clear n0_; clear hb hbox hg) | (go_at_call 98; (with_reducible refine (word_IsKind.calls a0 true _ A3.out).mono ?_); rintro e w' ⟨rfl, ⟨nd, rfl⟩⟩; (try first | exact ⟨rfl, _, World.drewN_drewN _ _ _⟩ | exact ⟨rfl, _, Eq.trans (World.drewN_drewN _ _ _) (congrArg (World.drewN _) (Nat.add_assoc _ _ _))⟩); have hcz7_0 := zc BK181.out 0; have hcz7_1 := zc BK181.out 1; have hcz7_2 := zc BK181.out 2; have hcz7_3 := zc BK181.out 3; have hfz7_0 := blk_frozen BK181.out 0; have hfz7_1 := blk_frozen BK181.out 1; have hfz7_2 := blk_frozen BK181.out 2; have hfz7_3 := blk_frozen BK181.out 3))
   repeat (go_quiet (first | ((with_reducible refine gate_dst (N := 3) rfl ?_); refine zbox (N := 3) (cs := #[.bool true, .int .i64 a1_1, .int .i64 a1_2, .int .i64 a1_3]) (t := 62) ?_; intro gb181 hg w6 hbox hb; have n0_ := Aside0.mk (below_step (zw0 HB.out) hb); have BK181 := Aside0.mk (hbox); have GW181 := Aside0.mk (zg hg (below_size (zw0 HB.out))); have GE181 := GW181; clear HB; have HB := n0_; clear n0_; clear hb hbox hg) | (go_at_call 98; (with_reducible refine (word_IsKind.calls a0 true _ A3.out).mono ?_); rintro e w' ⟨rfl, ⟨nd, rfl⟩⟩; (try first | exact ⟨rfl, _, World.drewN_drewN _ _ _⟩ | exact ⟨rfl, _, Eq.trans (World.drewN_drewN _ _ _) (congrArg (World.drewN _) (Nat.add_assoc _ _ _))⟩); have hcz7_0 := zc BK181.out 0; have hcz7_1 := zc BK181.out 1; have hcz7_2 := zc BK181.out 2; have hcz7_3 := zc BK181.out 3; have hfz7_0 := blk_frozen BK181.out 0; have hfz7_1 := blk_frozen BK181.out 1; have hfz7_2 := blk_frozen BK181.out 2; have hfz7_3 := blk_frozen BK181.out 3)); try go_wp2_with (first | ((with_reducible refine gate_dst (N := 3) rfl ?_); refine zbox (N := 3) (cs := #[.bool true, .int .i64 a1_1, .int .i64 a1_2, .int .i64 a1_3]) (t := 62) ?_; intro gb181 hg w6 hbox hb; have n0_ := Aside0.mk (below_step (zw0 HB.out) hb); have BK181 := Aside0.mk (hbox); have GW181 := Aside0.mk (zg hg (below_size (zw0 HB.out))); have GE181 := GW181; clear HB; have HB := n0_; clear n0_; clear hb hbox hg) | (go_at_call 98; (with_reducible refine (word_IsKind.calls a0 true _ A3.out).mono ?_); rintro e w' ⟨rfl, ⟨nd, rfl⟩⟩; (try first | exact ⟨rfl, _, World.drewN_drewN _ _ _⟩ | exact ⟨rfl, _, Eq.trans (World.drewN_drewN _ _ _) (congrArg (World.drewN _) (Nat.add_assoc _ _ _))⟩); have hcz7_0 := zc BK181.out 0; have hcz7_1 := zc BK181.out 1; have hcz7_2 := zc BK181.out 2; have hcz7_3 := zc BK181.out 3; have hfz7_0 := blk_frozen BK181.out 0; have hfz7_1 := blk_frozen BK181.out 1; have hfz7_2 := blk_frozen BK181.out 2; have hfz7_3 := blk_frozen BK181.out 3)))
   go_ret
   exact ⟨ze, zw1 HB.out GE181.out⟩
  replace c5 := Bool.eq_false_iff.mpr c5
  subst c5
  have H1 : ((word_Of.f a0).bind fun t183 => ((word_Is.f a1_1 t183).bind fun t184 => (if t184 = true then (if a1_2 = 0 then (some (a1_3 == 0)) else (some false)) else (some false)))) = some r := by rw [if_neg (show ¬ (false = true) by decide)] at H; exact H
  clear H
  have H := H1
  clear H1
  replace H := Option.bind_eq_some_iff.mp H
  obtain ⟨t183, A80, H⟩ := H
  replace H : ((word_Is.f a1_1 t183).bind fun t184 => (if t184 = true then (if a1_2 = 0 then (some (a1_3 == 0)) else (some false)) else (some false))) = some r := H
  have A8 := Aside0.mk A80
  clear A80
  replace H := Option.bind_eq_some_iff.mp H
  obtain ⟨t184, A90, H⟩ := H
  replace H : (if t184 = true then (if a1_2 = 0 then (some (a1_3 == 0)) else (some false)) else (some false)) = some r := H
  have A9 := Aside0.mk A90
  clear A90
  by_cases c10 : t184 = true
  rotate_left
  ·replace c10 := Bool.eq_false_iff.mpr c10
   subst c10
   have H1 : (some false) = some r := by rw [if_neg (show ¬ (false = true) by decide)] at H; exact H
   clear H
   have H := H1
   clear H1
   obtain rfl := Option.some.inj H
   go_enter Try.func67, Try.ntmps67
   go_wp2_with (first | ((with_reducible refine gate_dst (N := 3) rfl ?_); refine zbox (N := 3) (cs := #[.bool false, .int .i64 a1_1, .int .i64 a1_2, .int .i64 a1_3]) (t := 62) ?_; intro gb181 hg w16 hbox hb; have n0_ := Aside0.mk (below_step (zw0 HB.out) hb); have BK181 := Aside0.mk (hbox); have GW181 := Aside0.mk (zg hg (below_size (zw0 HB.out))); have GE181 := GW181; clear HB; have HB := n0_; clear n0_; clear hb hbox hg) | (go_at_call 98; (with_reducible refine (word_IsKind.calls a0 true _ A3.out).mono ?_); rintro e w' ⟨rfl, ⟨nd, rfl⟩⟩; (try first | exact ⟨rfl, _, World.drewN_drewN _ _ _⟩ | exact ⟨rfl, _, Eq.trans (World.drewN_drewN _ _ _) (congrArg (World.drewN _) (Nat.add_assoc _ _ _))⟩); have hcz17_0 := zc BK181.out 0; have hcz17_1 := zc BK181.out 1; have hcz17_2 := zc BK181.out 2; have hcz17_3 := zc BK181.out 3; have hfz17_0 := blk_frozen BK181.out 0; have hfz17_1 := blk_frozen BK181.out 1; have hfz17_2 := blk_frozen BK181.out 2; have hfz17_3 := blk_frozen BK181.out 3) | (go_at_call 99; (with_reducible refine (word_Of.calls a0 t183 _ A8.out).mono ?_); rintro e w' ⟨rfl, ⟨nd, rfl⟩⟩; (try first | exact ⟨rfl, _, World.drewN_drewN _ _ _⟩ | exact ⟨rfl, _, Eq.trans (World.drewN_drewN _ _ _) (congrArg (World.drewN _) (Nat.add_assoc _ _ _))⟩)) | (go_at_call 79; (with_reducible refine (word_Is.calls a1_1 t183 false _ A9.out).mono ?_); rintro e w' ⟨rfl, ⟨nd, rfl⟩⟩; (try first | exact ⟨rfl, _, World.drewN_drewN _ _ _⟩ | exact ⟨rfl, _, Eq.trans (World.drewN_drewN _ _ _) (congrArg (World.drewN _) (Nat.add_assoc _ _ _))⟩)))
   repeat (go_quiet (first | ((with_reducible refine gate_dst (N := 3) rfl ?_); refine zbox (N := 3) (cs := #[.bool false, .int .i64 a1_1, .int .i64 a1_2, .int .i64 a1_3]) (t := 62) ?_; intro gb181 hg w16 hbox hb; have n0_ := Aside0.mk (below_step (zw0 HB.out) hb); have BK181 := Aside0.mk (hbox); have GW181 := Aside0.mk (zg hg (below_size (zw0 HB.out))); have GE181 := GW181; clear HB; have HB := n0_; clear n0_; clear hb hbox hg) | (go_at_call 98; (with_reducible refine (word_IsKind.calls a0 true _ A3.out).mono ?_); rintro e w' ⟨rfl, ⟨nd, rfl⟩⟩; (try first | exact ⟨rfl, _, World.drewN_drewN _ _ _⟩ | exact ⟨rfl, _, Eq.trans (World.drewN_drewN _ _ _) (congrArg (World.drewN _) (Nat.add_assoc _ _ _))⟩); have hcz17_0 := zc BK181.out 0; have hcz17_1 := zc BK181.out 1; have hcz17_2 := zc BK181.out 2; have hcz17_3 := zc BK181.out 3; have hfz17_0 := blk_frozen BK181.out 0; have hfz17_1 := blk_frozen BK181.out 1; have hfz17_2 := blk_frozen BK181.out 2; have hfz17_3 := blk_frozen BK181.out 3) | (go_at_call 99; (with_reducible refine (word_Of.calls a0 t183 _ A8.out).mono ?_); rintro e w' ⟨rfl, ⟨nd, rfl⟩⟩; (try first | exact ⟨rfl, _, World.drewN_drewN _ _ _⟩ | exact ⟨rfl, _, Eq.trans (World.drewN_drewN _ _ _) (congrArg (World.drewN _) (Nat.add_assoc _ _ _))⟩)) | (go_at_call 79; (with_reducible refine (word_Is.calls a1_1 t183 false _ A9.out).mono ?_); rintro e w' ⟨rfl, ⟨nd, rfl⟩⟩; (try first | exact ⟨rfl, _, World.drewN_drewN _ _ _⟩ | exact ⟨rfl, _, Eq.trans (World.drewN_drewN _ _ _) (congrArg (World.drewN _) (Nat.add_assoc _ _ _))⟩))); try go_wp2_with (first | ((with_reducible refine gate_dst (N := 3) rfl ?_); refine zbox (N := 3) (cs := #[.bool false, .int .i64 a1_1, .int .i64 a1_2, .int .i64 a1_3]) (t := 62) ?_; intro gb181 hg w16 hbox hb; have n0_ := Aside0.mk (below_step (zw0 HB.out) hb); have BK181 := Aside0.mk (hbox); have GW181 := Aside0.mk (zg hg (below_size (zw0 HB.out))); have GE181 := GW181; clear HB; have HB := n0_; clear n0_; clear hb hbox hg) | (go_at_call 98; (with_reducible refine (word_IsKind.calls a0 true _ A3.out).mono ?_); rintro e w' ⟨rfl, ⟨nd, rfl⟩⟩; (try first | exact ⟨rfl, _, World.drewN_drewN _ _ _⟩ | exact ⟨rfl, _, Eq.trans (World.drewN_drewN _ _ _) (congrArg (World.drewN _) (Nat.add_assoc _ _ _))⟩); have hcz17_0 := zc BK181.out 0; have hcz17_1 := zc BK181.out 1; have hcz17_2 := zc BK181.out 2; have hcz17_3 := zc BK181.out 3; have hfz17_0 := blk_frozen BK181.out 0; have hfz17_1 := blk_frozen BK181.out 1; have hfz17_2 := blk_frozen BK181.out 2; have hfz17_3 := blk_frozen BK181.out 3) | (go_at_call 99; (with_reducible refine (word_Of.calls a0 t183 _ A8.out).mono ?_); rintro e w' ⟨rfl, ⟨nd, rfl⟩⟩; (try first | exact ⟨rfl, _, World.drewN_drewN _ _ _⟩ | exact ⟨rfl, _, Eq.trans (World.drewN_drewN _ _ _) (congrArg (World.drewN _) (Nat.add_assoc _ _ _))⟩)) | (go_at_call 79; (with_reducible refine (word_Is.calls a1_1 t183 false _ A9.out).mono ?_); rintro e w' ⟨rfl, ⟨nd, rfl⟩⟩; (try first | exact ⟨rfl, _, World.drewN_drewN _ _ _⟩ | exact ⟨rfl, _, Eq.trans (World.drewN_drewN _ _ _) (congrArg (World.drewN _) (Nat.add_assoc _ _ _))⟩))))
   go_ret
   exact ⟨ze, zw1 HB.out GE181.out⟩
  subst c10
  have H1 : (if a1_2 = 0 then (some (a1_3 == 0)) else (some false)) = some r := by rw [if_pos rfl] at H; exact H
  clear H
  have H := H1
  clear H1
  by_cases c11 : a1_2 = 0
  rotate_left
  ·rw [if_neg c11] at H
   have c11b0 : (a1_2 == 0) = false := beq_eq_false_iff_ne.mpr c11
   have c11b1 : (a1_2 != 0) = true := bne_iff_ne.mpr c11
   obtain rfl := Option.some.inj H
   go_enter Try.func67, Try.ntmps67
   go_wp2_with (first | ((with_reducible refine gate_dst (N := 3) rfl ?_); refine zbox (N := 3) (cs := #[.bool false, .int .i64 a1_1, .int .i64 a1_2, .int .i64 a1_3]) (t := 62) ?_; intro gb181 hg w14 hbox hb; have n0_ := Aside0.mk (below_step (zw0 HB.out) hb); have BK181 := Aside0.mk (hbox); have GW181 := Aside0.mk (zg hg (below_size (zw0 HB.out))); have GE181 := GW181; clear HB; have HB := n0_; clear n0_; clear hb hbox hg) | (go_at_call 98; (with_reducible refine (word_IsKind.calls a0 true _ A3.out).mono ?_); rintro e w' ⟨rfl, ⟨nd, rfl⟩⟩; (try first | exact ⟨rfl, _, World.drewN_drewN _ _ _⟩ | exact ⟨rfl, _, Eq.trans (World.drewN_drewN _ _ _) (congrArg (World.drewN _) (Nat.add_assoc _ _ _))⟩); have hcz15_0 := zc BK181.out 0; have hcz15_1 := zc BK181.out 1; have hcz15_2 := zc BK181.out 2; have hcz15_3 := zc BK181.out 3; have hfz15_0 := blk_frozen BK181.out 0; have hfz15_1 := blk_frozen BK181.out 1; have hfz15_2 := blk_frozen BK181.out 2; have hfz15_3 := blk_frozen BK181.out 3) | (go_at_call 99; (with_reducible refine (word_Of.calls a0 t183 _ A8.out).mono ?_); rintro e w' ⟨rfl, ⟨nd, rfl⟩⟩; (try first | exact ⟨rfl, _, World.drewN_drewN _ _ _⟩ | exact ⟨rfl, _, Eq.trans (World.drewN_drewN _ _ _) (congrArg (World.drewN _) (Nat.add_assoc _ _ _))⟩)) | (go_at_call 79; (with_reducible refine (word_Is.calls a1_1 t183 true _ A9.out).mono ?_); rintro e w' ⟨rfl, ⟨nd, rfl⟩⟩; (try first | exact ⟨rfl, _, World.drewN_drewN _ _ _⟩ | exact ⟨rfl, _, Eq.trans (World.drewN_drewN _ _ _) (congrArg (World.drewN _) (Nat.add_assoc _ _ _))⟩)))
   repeat (go_quiet (first | ((with_reducible refine gate_dst (N := 3) rfl ?_); refine zbox (N := 3) (cs := #[.bool false, .int .i64 a1_1, .int .i64 a1_2, .int .i64 a1_3]) (t := 62) ?_; intro gb181 hg w14 hbox hb; have n0_ := Aside0.mk (below_step (zw0 HB.out) hb); have BK181 := Aside0.mk (hbox); have GW181 := Aside0.mk (zg hg (below_size (zw0 HB.out))); have GE181 := GW181; clear HB; have HB := n0_; clear n0_; clear hb hbox hg) | (go_at_call 98; (with_reducible refine (word_IsKind.calls a0 true _ A3.out).mono ?_); rintro e w' ⟨rfl, ⟨nd, rfl⟩⟩; (try first | exact ⟨rfl, _, World.drewN_drewN _ _ _⟩ | exact ⟨rfl, _, Eq.trans (World.drewN_drewN _ _ _) (congrArg (World.drewN _) (Nat.add_assoc _ _ _))⟩); have hcz15_0 := zc BK181.out 0; have hcz15_1 := zc BK181.out 1; have hcz15_2 := zc BK181.out 2; have hcz15_3 := zc BK181.out 3; have hfz15_0 := blk_frozen BK181.out 0; have hfz15_1 := blk_frozen BK181.out 1; have hfz15_2 := blk_frozen BK181.out 2; have hfz15_3 := blk_frozen BK181.out 3) | (go_at_call 99; (with_reducible refine (word_Of.calls a0 t183 _ A8.out).mono ?_); rintro e w' ⟨rfl, ⟨nd, rfl⟩⟩; (try first | exact ⟨rfl, _, World.drewN_drewN _ _ _⟩ | exact ⟨rfl, _, Eq.trans (World.drewN_drewN _ _ _) (congrArg (World.drewN _) (Nat.add_assoc _ _ _))⟩)) | (go_at_call 79; (with_reducible refine (word_Is.calls a1_1 t183 true _ A9.out).mono ?_); rintro e w' ⟨rfl, ⟨nd, rfl⟩⟩; (try first | exact ⟨rfl, _, World.drewN_drewN _ _ _⟩ | exact ⟨rfl, _, Eq.trans (World.drewN_drewN _ _ _) (congrArg (World.drewN _) (Nat.add_assoc _ _ _))⟩))); try go_wp2_with (first | ((with_reducible refine gate_dst (N := 3) rfl ?_); refine zbox (N := 3) (cs := #[.bool false, .int .i64 a1_1, .int .i64 a1_2, .int .i64 a1_3]) (t := 62) ?_; intro gb181 hg w14 hbox hb; have n0_ := Aside0.mk (below_step (zw0 HB.out) hb); have BK181 := Aside0.mk (hbox); have GW181 := Aside0.mk (zg hg (below_size (zw0 HB.out))); have GE181 := GW181; clear HB; have HB := n0_; clear n0_; clear hb hbox hg) | (go_at_call 98; (with_reducible refine (word_IsKind.calls a0 true _ A3.out).mono ?_); rintro e w' ⟨rfl, ⟨nd, rfl⟩⟩; (try first | exact ⟨rfl, _, World.drewN_drewN _ _ _⟩ | exact ⟨rfl, _, Eq.trans (World.drewN_drewN _ _ _) (congrArg (World.drewN _) (Nat.add_assoc _ _ _))⟩); have hcz15_0 := zc BK181.out 0; have hcz15_1 := zc BK181.out 1; have hcz15_2 := zc BK181.out 2; have hcz15_3 := zc BK181.out 3; have hfz15_0 := blk_frozen BK181.out 0; have hfz15_1 := blk_frozen BK181.out 1; have hfz15_2 := blk_frozen BK181.out 2; have hfz15_3 := blk_frozen BK181.out 3) | (go_at_call 99; (with_reducible refine (word_Of.calls a0 t183 _ A8.out).mono ?_); rintro e w' ⟨rfl, ⟨nd, rfl⟩⟩; (try first | exact ⟨rfl, _, World.drewN_drewN _ _ _⟩ | exact ⟨rfl, _, Eq.trans (World.drewN_drewN _ _ _) (congrArg (World.drewN _) (Nat.add_assoc _ _ _))⟩)) | (go_at_call 79; (with_reducible refine (word_Is.calls a1_1 t183 true _ A9.out).mono ?_); rintro e w' ⟨rfl, ⟨nd, rfl⟩⟩; (try first | exact ⟨rfl, _, World.drewN_drewN _ _ _⟩ | exact ⟨rfl, _, Eq.trans (World.drewN_drewN _ _ _) (congrArg (World.drewN _) (Nat.add_assoc _ _ _))⟩))))
   go_ret
   exact ⟨ze, zw1 HB.out GE181.out⟩
  rw [if_pos c11] at H
  have c11b0 : (a1_2 == 0) = true := beq_iff_eq.mpr c11
  have c11b1 : (a1_2 != 0) = false := bne_eq_false_iff_eq.mpr c11
  clear c11
  obtain rfl := Option.some.inj H
  go_enter Try.func67, Try.ntmps67
  go_wp2_with (first | ((with_reducible refine gate_dst (N := 3) rfl ?_); refine zbox (N := 3) (cs := #[.bool false, .int .i64 a1_1, .int .i64 a1_2, .int .i64 a1_3]) (t := 62) ?_; intro gb181 hg w12 hbox hb; have n0_ := Aside0.mk (below_step (zw0 HB.out) hb); have BK181 := Aside0.mk (hbox); have GW181 := Aside0.mk (zg hg (below_size (zw0 HB.out))); have GE181 := GW181; clear HB; have HB := n0_; clear n0_; clear hb hbox hg) | (go_at_call 98; (with_reducible refine (word_IsKind.calls a0 true _ A3.out).mono ?_); rintro e w' ⟨rfl, ⟨nd, rfl⟩⟩; (try first | exact ⟨rfl, _, World.drewN_drewN _ _ _⟩ | exact ⟨rfl, _, Eq.trans (World.drewN_drewN _ _ _) (congrArg (World.drewN _) (Nat.add_assoc _ _ _))⟩); have hcz13_0 := zc BK181.out 0; have hcz13_1 := zc BK181.out 1; have hcz13_2 := zc BK181.out 2; have hcz13_3 := zc BK181.out 3; have hfz13_0 := blk_frozen BK181.out 0; have hfz13_1 := blk_frozen BK181.out 1; have hfz13_2 := blk_frozen BK181.out 2; have hfz13_3 := blk_frozen BK181.out 3) | (go_at_call 99; (with_reducible refine (word_Of.calls a0 t183 _ A8.out).mono ?_); rintro e w' ⟨rfl, ⟨nd, rfl⟩⟩; (try first | exact ⟨rfl, _, World.drewN_drewN _ _ _⟩ | exact ⟨rfl, _, Eq.trans (World.drewN_drewN _ _ _) (congrArg (World.drewN _) (Nat.add_assoc _ _ _))⟩)) | (go_at_call 79; (with_reducible refine (word_Is.calls a1_1 t183 true _ A9.out).mono ?_); rintro e w' ⟨rfl, ⟨nd, rfl⟩⟩; (try first | exact ⟨rfl, _, World.drewN_drewN _ _ _⟩ | exact ⟨rfl, _, Eq.trans (World.drewN_drewN _ _ _) (congrArg (World.drewN _) (Nat.add_assoc _ _ _))⟩)))
  repeat (go_quiet (first | ((with_reducible refine gate_dst (N := 3) rfl ?_); refine zbox (N := 3) (cs := #[.bool false, .int .i64 a1_1, .int .i64 a1_2, .int .i64 a1_3]) (t := 62) ?_; intro gb181 hg w12 hbox hb; have n0_ := Aside0.mk (below_step (zw0 HB.out) hb); have BK181 := Aside0.mk (hbox); have GW181 := Aside0.mk (zg hg (below_size (zw0 HB.out))); have GE181 := GW181; clear HB; have HB := n0_; clear n0_; clear hb hbox hg) | (go_at_call 98; (with_reducible refine (word_IsKind.calls a0 true _ A3.out).mono ?_); rintro e w' ⟨rfl, ⟨nd, rfl⟩⟩; (try first | exact ⟨rfl, _, World.drewN_drewN _ _ _⟩ | exact ⟨rfl, _, Eq.trans (World.drewN_drewN _ _ _) (congrArg (World.drewN _) (Nat.add_assoc _ _ _))⟩); have hcz13_0 := zc BK181.out 0; have hcz13_1 := zc BK181.out 1; have hcz13_2 := zc BK181.out 2; have hcz13_3 := zc BK181.out 3; have hfz13_0 := blk_frozen BK181.out 0; have hfz13_1 := blk_frozen BK181.out 1; have hfz13_2 := blk_frozen BK181.out 2; have hfz13_3 := blk_frozen BK181.out 3) | (go_at_call 99; (with_reducible refine (word_Of.calls a0 t183 _ A8.out).mono ?_); rintro e w' ⟨rfl, ⟨nd, rfl⟩⟩; (try first | exact ⟨rfl, _, World.drewN_drewN _ _ _⟩ | exact ⟨rfl, _, Eq.trans (World.drewN_drewN _ _ _) (congrArg (World.drewN _) (Nat.add_assoc _ _ _))⟩)) | (go_at_call 79; (with_reducible refine (word_Is.calls a1_1 t183 true _ A9.out).mono ?_); rintro e w' ⟨rfl, ⟨nd, rfl⟩⟩; (try first | exact ⟨rfl, _, World.drewN_drewN _ _ _⟩ | exact ⟨rfl, _, Eq.trans (World.drewN_drewN _ _ _) (congrArg (World.drewN _) (Nat.add_assoc _ _ _))⟩))); try go_wp2_with (first | ((with_reducible refine gate_dst (N := 3) rfl ?_); refine zbox (N := 3) (cs := #[.bool false, .int .i64 a1_1, .int .i64 a1_2, .int .i64 a1_3]) (t := 62) ?_; intro gb181 hg w12 hbox hb; have n0_ := Aside0.mk (below_step (zw0 HB.out) hb); have BK181 := Aside0.mk (hbox); have GW181 := Aside0.mk (zg hg (below_size (zw0 HB.out))); have GE181 := GW181; clear HB; have HB := n0_; clear n0_; clear hb hbox hg) | (go_at_call 98; (with_reducible refine (word_IsKind.calls a0 true _ A3.out).mono ?_); rintro e w' ⟨rfl, ⟨nd, rfl⟩⟩; (try first | exact ⟨rfl, _, World.drewN_drewN _ _ _⟩ | exact ⟨rfl, _, Eq.trans (World.drewN_drewN _ _ _) (congrArg (World.drewN _) (Nat.add_assoc _ _ _))⟩); have hcz13_0 := zc BK181.out 0; have hcz13_1 := zc BK181.out 1; have hcz13_2 := zc BK181.out 2; have hcz13_3 := zc BK181.out 3; have hfz13_0 := blk_frozen BK181.out 0; have hfz13_1 := blk_frozen BK181.out 1; have hfz13_2 := blk_frozen BK181.out 2; have hfz13_3 := blk_frozen BK181.out 3) | (go_at_call 99; (with_reducible refine (word_Of.calls a0 t183 _ A8.out).mono ?_); rintro e w' ⟨rfl, ⟨nd, rfl⟩⟩; (try first | exact ⟨rfl, _, World.drewN_drewN _ _ _⟩ | exact ⟨rfl, _, Eq.trans (World.drewN_drewN _ _ _) (congrArg (World.drewN _) (Nat.add_assoc _ _ _))⟩)) | (go_at_call 79; (with_reducible refine (word_Is.calls a1_1 t183 true _ A9.out).mono ?_); rintro e w' ⟨rfl, ⟨nd, rfl⟩⟩; (try first | exact ⟨rfl, _, World.drewN_drewN _ _ _⟩ | exact ⟨rfl, _, Eq.trans (World.drewN_drewN _ _ _) (congrArg (World.drewN _) (Nat.add_assoc _ _ _))⟩))))
  go_ret
  exact ⟨ze, zw1 HB.out GE181.out⟩
 ·replace c4 := Bool.eq_false_iff.mpr c4
  subst c4
  have H1 : (if a0 = 7 then (if a1_0 = true then (if a1_1 = 0 then ((bytes_up.f a1_2 32).bind fun t185 => (if t185 = true then ((bytes_up.f a1_3 32).bind fun t186 => (if t186 = true then (if a1_2 > 0 then (some true) else (some (a1_3 == 0))) else (some false))) else (some false))) else (some false)) else (some false)) else (some false)) = some r := by rw [if_neg (show ¬ (false = true) by decide)] at H; exact H
  clear H
  have H := H1
  clear H1
  by_cases c18 : a0 = 7
  ·rw [if_pos c18] at H
   have c18b0 : (a0 == 7) = true := beq_iff_eq.mpr c18
   have c18b1 : (a0 != 7) = false := bne_eq_false_iff_eq.mpr c18
   clear c18
   by_cases c19 : a1_0 = true
   rotate_left
   ·replace c19 := Bool.eq_false_iff.mpr c19
    subst c19
    have H1 : (some false) = some r := by rw [if_neg (show ¬ (false = true) by decide)] at H; exact H
    clear H
    have H := H1
    clear H1
    obtain rfl := Option.some.inj H
    go_enter Try.func67, Try.ntmps67
    go_wp2_with (first | ((with_reducible refine gate_dst (N := 3) rfl ?_); refine zbox (N := 3) (cs := #[.bool false, .int .i64 a1_1, .int .i64 a1_2, .int .i64 a1_3]) (t := 62) ?_; intro gb181 hg w36 hbox hb; have n0_ := Aside0.mk (below_step (zw0 HB.out) hb); have BK181 := Aside0.mk (hbox); have GW181 := Aside0.mk (zg hg (below_size (zw0 HB.out))); have GE181 := GW181; clear HB; have HB := n0_; clear n0_; clear hb hbox hg) | (go_at_call 98; (with_reducible refine (word_IsKind.calls a0 false _ A3.out).mono ?_); rintro e w' ⟨rfl, ⟨nd, rfl⟩⟩; (try first | exact ⟨rfl, _, World.drewN_drewN _ _ _⟩ | exact ⟨rfl, _, Eq.trans (World.drewN_drewN _ _ _) (congrArg (World.drewN _) (Nat.add_assoc _ _ _))⟩); have hcz37_0 := zc BK181.out 0; have hcz37_1 := zc BK181.out 1; have hcz37_2 := zc BK181.out 2; have hcz37_3 := zc BK181.out 3; have hfz37_0 := blk_frozen BK181.out 0; have hfz37_1 := blk_frozen BK181.out 1; have hfz37_2 := blk_frozen BK181.out 2; have hfz37_3 := blk_frozen BK181.out 3))
    repeat (go_quiet (first | ((with_reducible refine gate_dst (N := 3) rfl ?_); refine zbox (N := 3) (cs := #[.bool false, .int .i64 a1_1, .int .i64 a1_2, .int .i64 a1_3]) (t := 62) ?_; intro gb181 hg w36 hbox hb; have n0_ := Aside0.mk (below_step (zw0 HB.out) hb); have BK181 := Aside0.mk (hbox); have GW181 := Aside0.mk (zg hg (below_size (zw0 HB.out))); have GE181 := GW181; clear HB; have HB := n0_; clear n0_; clear hb hbox hg) | (go_at_call 98; (with_reducible refine (word_IsKind.calls a0 false _ A3.out).mono ?_); rintro e w' ⟨rfl, ⟨nd, rfl⟩⟩; (try first | exact ⟨rfl, _, World.drewN_drewN _ _ _⟩ | exact ⟨rfl, _, Eq.trans (World.drewN_drewN _ _ _) (congrArg (World.drewN _) (Nat.add_assoc _ _ _))⟩); have hcz37_0 := zc BK181.out 0; have hcz37_1 := zc BK181.out 1; have hcz37_2 := zc BK181.out 2; have hcz37_3 := zc BK181.out 3; have hfz37_0 := blk_frozen BK181.out 0; have hfz37_1 := blk_frozen BK181.out 1; have hfz37_2 := blk_frozen BK181.out 2; have hfz37_3 := blk_frozen BK181.out 3)); try go_wp2_with (first | ((with_reducible refine gate_dst (N := 3) rfl ?_); refine zbox (N := 3) (cs := #[.bool false, .int .i64 a1_1, .int .i64 a1_2, .int .i64 a1_3]) (t := 62) ?_; intro gb181 hg w36 hbox hb; have n0_ := Aside0.mk (below_step (zw0 HB.out) hb); have BK181 := Aside0.mk (hbox); have GW181 := Aside0.mk (zg hg (below_size (zw0 HB.out))); have GE181 := GW181; clear HB; have HB := n0_; clear n0_; clear hb hbox hg) | (go_at_call 98; (with_reducible refine (word_IsKind.calls a0 false _ A3.out).mono ?_); rintro e w' ⟨rfl, ⟨nd, rfl⟩⟩; (try first | exact ⟨rfl, _, World.drewN_drewN _ _ _⟩ | exact ⟨rfl, _, Eq.trans (World.drewN_drewN _ _ _) (congrArg (World.drewN _) (Nat.add_assoc _ _ _))⟩); have hcz37_0 := zc BK181.out 0; have hcz37_1 := zc BK181.out 1; have hcz37_2 := zc BK181.out 2; have hcz37_3 := zc BK181.out 3; have hfz37_0 := blk_frozen BK181.out 0; have hfz37_1 := blk_frozen BK181.out 1; have hfz37_2 := blk_frozen BK181.out 2; have hfz37_3 := blk_frozen BK181.out 3)))
    go_ret
    exact ⟨ze, zw1 HB.out GE181.out⟩
   subst c19
   have H1 : (if a1_1 = 0 then ((bytes_up.f a1_2 32).bind fun t185 => (if t185 = true then ((bytes_up.f a1_3 32).bind fun t186 => (if t186 = true then (if a1_2 > 0 then (some true) else (some (a1_3 == 0))) else (some false))) else (some false))) else (some false)) = some r := by rw [if_pos rfl] at H; exact H
   clear H
   have H := H1
   clear H1
   by_cases c20 : a1_1 = 0
   rotate_left
   ·rw [if_neg c20] at H
    have c20b0 : (a1_1 == 0) = false := beq_eq_false_iff_ne.mpr c20
    have c20b1 : (a1_1 != 0) = true := bne_iff_ne.mpr c20
    obtain rfl := Option.some.inj H
    go_enter Try.func67, Try.ntmps67
    go_wp2_with (first | ((with_reducible refine gate_dst (N := 3) rfl ?_); refine zbox (N := 3) (cs := #[.bool true, .int .i64 a1_1, .int .i64 a1_2, .int .i64 a1_3]) (t := 62) ?_; intro gb181 hg w34 hbox hb; have n0_ := Aside0.mk (below_step (zw0 HB.out) hb); have BK181 := Aside0.mk (hbox); have GW181 := Aside0.mk (zg hg (below_size (zw0 HB.out))); have GE181 := GW181; clear HB; have HB := n0_; clear n0_; clear hb hbox hg) | (go_at_call 98; (with_reducible refine (word_IsKind.calls a0 false _ A3.out).mono ?_); rintro e w' ⟨rfl, ⟨nd, rfl⟩⟩; (try first | exact ⟨rfl, _, World.drewN_drewN _ _ _⟩ | exact ⟨rfl, _, Eq.trans (World.drewN_drewN _ _ _) (congrArg (World.drewN _) (Nat.add_assoc _ _ _))⟩); have hcz35_0 := zc BK181.out 0; have hcz35_1 := zc BK181.out 1; have hcz35_2 := zc BK181.out 2; have hcz35_3 := zc BK181.out 3; have hfz35_0 := blk_frozen BK181.out 0; have hfz35_1 := blk_frozen BK181.out 1; have hfz35_2 := blk_frozen BK181.out 2; have hfz35_3 := blk_frozen BK181.out 3))
    repeat (go_quiet (first | ((with_reducible refine gate_dst (N := 3) rfl ?_); refine zbox (N := 3) (cs := #[.bool true, .int .i64 a1_1, .int .i64 a1_2, .int .i64 a1_3]) (t := 62) ?_; intro gb181 hg w34 hbox hb; have n0_ := Aside0.mk (below_step (zw0 HB.out) hb); have BK181 := Aside0.mk (hbox); have GW181 := Aside0.mk (zg hg (below_size (zw0 HB.out))); have GE181 := GW181; clear HB; have HB := n0_; clear n0_; clear hb hbox hg) | (go_at_call 98; (with_reducible refine (word_IsKind.calls a0 false _ A3.out).mono ?_); rintro e w' ⟨rfl, ⟨nd, rfl⟩⟩; (try first | exact ⟨rfl, _, World.drewN_drewN _ _ _⟩ | exact ⟨rfl, _, Eq.trans (World.drewN_drewN _ _ _) (congrArg (World.drewN _) (Nat.add_assoc _ _ _))⟩); have hcz35_0 := zc BK181.out 0; have hcz35_1 := zc BK181.out 1; have hcz35_2 := zc BK181.out 2; have hcz35_3 := zc BK181.out 3; have hfz35_0 := blk_frozen BK181.out 0; have hfz35_1 := blk_frozen BK181.out 1; have hfz35_2 := blk_frozen BK181.out 2; have hfz35_3 := blk_frozen BK181.out 3)); try go_wp2_with (first | ((with_reducible refine gate_dst (N := 3) rfl ?_); refine zbox (N := 3) (cs := #[.bool true, .int .i64 a1_1, .int .i64 a1_2, .int .i64 a1_3]) (t := 62) ?_; intro gb181 hg w34 hbox hb; have n0_ := Aside0.mk (below_step (zw0 HB.out) hb); have BK181 := Aside0.mk (hbox); have GW181 := Aside0.mk (zg hg (below_size (zw0 HB.out))); have GE181 := GW181; clear HB; have HB := n0_; clear n0_; clear hb hbox hg) | (go_at_call 98; (with_reducible refine (word_IsKind.calls a0 false _ A3.out).mono ?_); rintro e w' ⟨rfl, ⟨nd, rfl⟩⟩; (try first | exact ⟨rfl, _, World.drewN_drewN _ _ _⟩ | exact ⟨rfl, _, Eq.trans (World.drewN_drewN _ _ _) (congrArg (World.drewN _) (Nat.add_assoc _ _ _))⟩); have hcz35_0 := zc BK181.out 0; have hcz35_1 := zc BK181.out 1; have hcz35_2 := zc BK181.out 2; have hcz35_3 := zc BK181.out 3; have hfz35_0 := blk_frozen BK181.out 0; have hfz35_1 := blk_frozen BK181.out 1; have hfz35_2 := blk_frozen BK181.out 2; have hfz35_3 := blk_frozen BK181.out 3)))
    go_ret
    exact ⟨ze, zw1 HB.out GE181.out⟩
   rw [if_pos c20] at H
   have c20b0 : (a1_1 == 0) = true := beq_iff_eq.mpr c20
   have c20b1 : (a1_1 != 0) = false := bne_eq_false_iff_eq.mpr c20
   clear c20
   replace H := Option.bind_eq_some_iff.mp H
   obtain ⟨t185, A210, H⟩ := H
   replace H : (if t185 = true then ((bytes_up.f a1_3 32).bind fun t186 => (if t186 = true then (if a1_2 > 0 then (some true) else (some (a1_3 == 0))) else (some false))) else (some false)) = some r := H
   have A21 := Aside0.mk A210
   clear A210
   by_cases c22 : t185 = true
   rotate_left
   ·replace c22 := Bool.eq_false_iff.mpr c22
    subst c22
    have H1 : (some false) = some r := by rw [if_neg (show ¬ (false = true) by decide)] at H; exact H
    clear H
    have H := H1
    clear H1
    obtain rfl := Option.some.inj H
    go_enter Try.func67, Try.ntmps67
    go_wp2_with (first | ((with_reducible refine gate_dst (N := 3) rfl ?_); refine zbox (N := 3) (cs := #[.bool true, .int .i64 a1_1, .int .i64 a1_2, .int .i64 a1_3]) (t := 62) ?_; intro gb181 hg w32 hbox hb; have n0_ := Aside0.mk (below_step (zw0 HB.out) hb); have BK181 := Aside0.mk (hbox); have GW181 := Aside0.mk (zg hg (below_size (zw0 HB.out))); have GE181 := GW181; clear HB; have HB := n0_; clear n0_; clear hb hbox hg) | (go_at_call 98; (with_reducible refine (word_IsKind.calls a0 false _ A3.out).mono ?_); rintro e w' ⟨rfl, ⟨nd, rfl⟩⟩; (try first | exact ⟨rfl, _, World.drewN_drewN _ _ _⟩ | exact ⟨rfl, _, Eq.trans (World.drewN_drewN _ _ _) (congrArg (World.drewN _) (Nat.add_assoc _ _ _))⟩); have hcz33_0 := zc BK181.out 0; have hcz33_1 := zc BK181.out 1; have hcz33_2 := zc BK181.out 2; have hcz33_3 := zc BK181.out 3; have hfz33_0 := blk_frozen BK181.out 0; have hfz33_1 := blk_frozen BK181.out 1; have hfz33_2 := blk_frozen BK181.out 2; have hfz33_3 := blk_frozen BK181.out 3) | (go_at_call 100; (with_reducible refine (bytes_up.calls a1_2 32 false _ A21.out).mono ?_); rintro e w' ⟨rfl, ⟨nd, rfl⟩⟩; (try first | exact ⟨rfl, _, World.drewN_drewN _ _ _⟩ | exact ⟨rfl, _, Eq.trans (World.drewN_drewN _ _ _) (congrArg (World.drewN _) (Nat.add_assoc _ _ _))⟩)))
    repeat (go_quiet (first | ((with_reducible refine gate_dst (N := 3) rfl ?_); refine zbox (N := 3) (cs := #[.bool true, .int .i64 a1_1, .int .i64 a1_2, .int .i64 a1_3]) (t := 62) ?_; intro gb181 hg w32 hbox hb; have n0_ := Aside0.mk (below_step (zw0 HB.out) hb); have BK181 := Aside0.mk (hbox); have GW181 := Aside0.mk (zg hg (below_size (zw0 HB.out))); have GE181 := GW181; clear HB; have HB := n0_; clear n0_; clear hb hbox hg) | (go_at_call 98; (with_reducible refine (word_IsKind.calls a0 false _ A3.out).mono ?_); rintro e w' ⟨rfl, ⟨nd, rfl⟩⟩; (try first | exact ⟨rfl, _, World.drewN_drewN _ _ _⟩ | exact ⟨rfl, _, Eq.trans (World.drewN_drewN _ _ _) (congrArg (World.drewN _) (Nat.add_assoc _ _ _))⟩); have hcz33_0 := zc BK181.out 0; have hcz33_1 := zc BK181.out 1; have hcz33_2 := zc BK181.out 2; have hcz33_3 := zc BK181.out 3; have hfz33_0 := blk_frozen BK181.out 0; have hfz33_1 := blk_frozen BK181.out 1; have hfz33_2 := blk_frozen BK181.out 2; have hfz33_3 := blk_frozen BK181.out 3) | (go_at_call 100; (with_reducible refine (bytes_up.calls a1_2 32 false _ A21.out).mono ?_); rintro e w' ⟨rfl, ⟨nd, rfl⟩⟩; (try first | exact ⟨rfl, _, World.drewN_drewN _ _ _⟩ | exact ⟨rfl, _, Eq.trans (World.drewN_drewN _ _ _) (congrArg (World.drewN _) (Nat.add_assoc _ _ _))⟩))); try go_wp2_with (first | ((with_reducible refine gate_dst (N := 3) rfl ?_); refine zbox (N := 3) (cs := #[.bool true, .int .i64 a1_1, .int .i64 a1_2, .int .i64 a1_3]) (t := 62) ?_; intro gb181 hg w32 hbox hb; have n0_ := Aside0.mk (below_step (zw0 HB.out) hb); have BK181 := Aside0.mk (hbox); have GW181 := Aside0.mk (zg hg (below_size (zw0 HB.out))); have GE181 := GW181; clear HB; have HB := n0_; clear n0_; clear hb hbox hg) | (go_at_call 98; (with_reducible refine (word_IsKind.calls a0 false _ A3.out).mono ?_); rintro e w' ⟨rfl, ⟨nd, rfl⟩⟩; (try first | exact ⟨rfl, _, World.drewN_drewN _ _ _⟩ | exact ⟨rfl, _, Eq.trans (World.drewN_drewN _ _ _) (congrArg (World.drewN _) (Nat.add_assoc _ _ _))⟩); have hcz33_0 := zc BK181.out 0; have hcz33_1 := zc BK181.out 1; have hcz33_2 := zc BK181.out 2; have hcz33_3 := zc BK181.out 3; have hfz33_0 := blk_frozen BK181.out 0; have hfz33_1 := blk_frozen BK181.out 1; have hfz33_2 := blk_frozen BK181.out 2; have hfz33_3 := blk_frozen BK181.out 3) | (go_at_call 100; (with_reducible refine (bytes_up.calls a1_2 32 false _ A21.out).mono ?_); rintro e w' ⟨rfl, ⟨nd, rfl⟩⟩; (try first | exact ⟨rfl, _, World.drewN_drewN _ _ _⟩ | exact ⟨rfl, _, Eq.trans (World.drewN_drewN _ _ _) (congrArg (World.drewN _) (Nat.add_assoc _ _ _))⟩))))
    go_ret
    exact ⟨ze, zw1 HB.out GE181.out⟩
   subst c22
   have H1 : ((bytes_up.f a1_3 32).bind fun t186 => (if t186 = true then (if a1_2 > 0 then (some true) else (some (a1_3 == 0))) else (some false))) = some r := by rw [if_pos rfl] at H; exact H
   clear H
   have H := H1
   clear H1
   replace H := Option.bind_eq_some_iff.mp H
   obtain ⟨t186, A230, H⟩ := H
   replace H : (if t186 = true then (if a1_2 > 0 then (some true) else (some (a1_3 == 0))) else (some false)) = some r := H
   have A23 := Aside0.mk A230
   clear A230
   by_cases c24 : t186 = true
   rotate_left
   ·replace c24 := Bool.eq_false_iff.mpr c24
    subst c24
    have H1 : (some false) = some r := by rw [if_neg (show ¬ (false = true) by decide)] at H; exact H
    clear H
    have H := H1
    clear H1
    obtain rfl := Option.some.inj H
    go_enter Try.func67, Try.ntmps67
    go_wp2_with (first | ((with_reducible refine gate_dst (N := 3) rfl ?_); refine zbox (N := 3) (cs := #[.bool true, .int .i64 a1_1, .int .i64 a1_2, .int .i64 a1_3]) (t := 62) ?_; intro gb181 hg w30 hbox hb; have n0_ := Aside0.mk (below_step (zw0 HB.out) hb); have BK181 := Aside0.mk (hbox); have GW181 := Aside0.mk (zg hg (below_size (zw0 HB.out))); have GE181 := GW181; clear HB; have HB := n0_; clear n0_; clear hb hbox hg) | (go_at_call 98; (with_reducible refine (word_IsKind.calls a0 false _ A3.out).mono ?_); rintro e w' ⟨rfl, ⟨nd, rfl⟩⟩; (try first | exact ⟨rfl, _, World.drewN_drewN _ _ _⟩ | exact ⟨rfl, _, Eq.trans (World.drewN_drewN _ _ _) (congrArg (World.drewN _) (Nat.add_assoc _ _ _))⟩); have hcz31_0 := zc BK181.out 0; have hcz31_1 := zc BK181.out 1; have hcz31_2 := zc BK181.out 2; have hcz31_3 := zc BK181.out 3; have hfz31_0 := blk_frozen BK181.out 0; have hfz31_1 := blk_frozen BK181.out 1; have hfz31_2 := blk_frozen BK181.out 2; have hfz31_3 := blk_frozen BK181.out 3) | (go_at_call 100; (with_reducible refine (bytes_up.calls a1_2 32 true _ A21.out).mono ?_); rintro e w' ⟨rfl, ⟨nd, rfl⟩⟩; (try first | exact ⟨rfl, _, World.drewN_drewN _ _ _⟩ | exact ⟨rfl, _, Eq.trans (World.drewN_drewN _ _ _) (congrArg (World.drewN _) (Nat.add_assoc _ _ _))⟩)) | (go_at_call 100; (with_reducible refine (bytes_up.calls a1_3 32 false _ A23.out).mono ?_); rintro e w' ⟨rfl, ⟨nd, rfl⟩⟩; (try first | exact ⟨rfl, _, World.drewN_drewN _ _ _⟩ | exact ⟨rfl, _, Eq.trans (World.drewN_drewN _ _ _) (congrArg (World.drewN _) (Nat.add_assoc _ _ _))⟩)))
    repeat (go_quiet (first | ((with_reducible refine gate_dst (N := 3) rfl ?_); refine zbox (N := 3) (cs := #[.bool true, .int .i64 a1_1, .int .i64 a1_2, .int .i64 a1_3]) (t := 62) ?_; intro gb181 hg w30 hbox hb; have n0_ := Aside0.mk (below_step (zw0 HB.out) hb); have BK181 := Aside0.mk (hbox); have GW181 := Aside0.mk (zg hg (below_size (zw0 HB.out))); have GE181 := GW181; clear HB; have HB := n0_; clear n0_; clear hb hbox hg) | (go_at_call 98; (with_reducible refine (word_IsKind.calls a0 false _ A3.out).mono ?_); rintro e w' ⟨rfl, ⟨nd, rfl⟩⟩; (try first | exact ⟨rfl, _, World.drewN_drewN _ _ _⟩ | exact ⟨rfl, _, Eq.trans (World.drewN_drewN _ _ _) (congrArg (World.drewN _) (Nat.add_assoc _ _ _))⟩); have hcz31_0 := zc BK181.out 0; have hcz31_1 := zc BK181.out 1; have hcz31_2 := zc BK181.out 2; have hcz31_3 := zc BK181.out 3; have hfz31_0 := blk_frozen BK181.out 0; have hfz31_1 := blk_frozen BK181.out 1; have hfz31_2 := blk_frozen BK181.out 2; have hfz31_3 := blk_frozen BK181.out 3) | (go_at_call 100; (with_reducible refine (bytes_up.calls a1_2 32 true _ A21.out).mono ?_); rintro e w' ⟨rfl, ⟨nd, rfl⟩⟩; (try first | exact ⟨rfl, _, World.drewN_drewN _ _ _⟩ | exact ⟨rfl, _, Eq.trans (World.drewN_drewN _ _ _) (congrArg (World.drewN _) (Nat.add_assoc _ _ _))⟩)) | (go_at_call 100; (with_reducible refine (bytes_up.calls a1_3 32 false _ A23.out).mono ?_); rintro e w' ⟨rfl, ⟨nd, rfl⟩⟩; (try first | exact ⟨rfl, _, World.drewN_drewN _ _ _⟩ | exact ⟨rfl, _, Eq.trans (World.drewN_drewN _ _ _) (congrArg (World.drewN _) (Nat.add_assoc _ _ _))⟩))); try go_wp2_with (first | ((with_reducible refine gate_dst (N := 3) rfl ?_); refine zbox (N := 3) (cs := #[.bool true, .int .i64 a1_1, .int .i64 a1_2, .int .i64 a1_3]) (t := 62) ?_; intro gb181 hg w30 hbox hb; have n0_ := Aside0.mk (below_step (zw0 HB.out) hb); have BK181 := Aside0.mk (hbox); have GW181 := Aside0.mk (zg hg (below_size (zw0 HB.out))); have GE181 := GW181; clear HB; have HB := n0_; clear n0_; clear hb hbox hg) | (go_at_call 98; (with_reducible refine (word_IsKind.calls a0 false _ A3.out).mono ?_); rintro e w' ⟨rfl, ⟨nd, rfl⟩⟩; (try first | exact ⟨rfl, _, World.drewN_drewN _ _ _⟩ | exact ⟨rfl, _, Eq.trans (World.drewN_drewN _ _ _) (congrArg (World.drewN _) (Nat.add_assoc _ _ _))⟩); have hcz31_0 := zc BK181.out 0; have hcz31_1 := zc BK181.out 1; have hcz31_2 := zc BK181.out 2; have hcz31_3 := zc BK181.out 3; have hfz31_0 := blk_frozen BK181.out 0; have hfz31_1 := blk_frozen BK181.out 1; have hfz31_2 := blk_frozen BK181.out 2; have hfz31_3 := blk_frozen BK181.out 3) | (go_at_call 100; (with_reducible refine (bytes_up.calls a1_2 32 true _ A21.out).mono ?_); rintro e w' ⟨rfl, ⟨nd, rfl⟩⟩; (try first | exact ⟨rfl, _, World.drewN_drewN _ _ _⟩ | exact ⟨rfl, _, Eq.trans (World.drewN_drewN _ _ _) (congrArg (World.drewN _) (Nat.add_assoc _ _ _))⟩)) | (go_at_call 100; (with_reducible refine (bytes_up.calls a1_3 32 false _ A23.out).mono ?_); rintro e w' ⟨rfl, ⟨nd, rfl⟩⟩; (try first | exact ⟨rfl, _, World.drewN_drewN _ _ _⟩ | exact ⟨rfl, _, Eq.trans (World.drewN_drewN _ _ _) (congrArg (World.drewN _) (Nat.add_assoc _ _ _))⟩))))
    go_ret
    exact ⟨ze, zw1 HB.out GE181.out⟩
   subst c24
   have H1 : (if a1_2 > 0 then (some true) else (some (a1_3 == 0))) = some r := by rw [if_pos rfl] at H; exact H
   clear H
   have H := H1
   clear H1
   by_cases c25 : a1_2 > 0
   ·rw [if_pos c25] at H
    have c25b0 : decide (0 < a1_2) = true := decide_eq_true c25
    clear c25
    obtain rfl := Option.some.inj H
    go_enter Try.func67, Try.ntmps67
    go_wp2_with (first | ((with_reducible refine gate_dst (N := 3) rfl ?_); refine zbox (N := 3) (cs := #[.bool true, .int .i64 a1_1, .int .i64 a1_2, .int .i64 a1_3]) (t := 62) ?_; intro gb181 hg w26 hbox hb; have n0_ := Aside0.mk (below_step (zw0 HB.out) hb); have BK181 := Aside0.mk (hbox); have GW181 := Aside0.mk (zg hg (below_size (zw0 HB.out))); have GE181 := GW181; clear HB; have HB := n0_; clear n0_; clear hb hbox hg) | (go_at_call 98; (with_reducible refine (word_IsKind.calls a0 false _ A3.out).mono ?_); rintro e w' ⟨rfl, ⟨nd, rfl⟩⟩; (try first | exact ⟨rfl, _, World.drewN_drewN _ _ _⟩ | exact ⟨rfl, _, Eq.trans (World.drewN_drewN _ _ _) (congrArg (World.drewN _) (Nat.add_assoc _ _ _))⟩); have hcz27_0 := zc BK181.out 0; have hcz27_1 := zc BK181.out 1; have hcz27_2 := zc BK181.out 2; have hcz27_3 := zc BK181.out 3; have hfz27_0 := blk_frozen BK181.out 0; have hfz27_1 := blk_frozen BK181.out 1; have hfz27_2 := blk_frozen BK181.out 2; have hfz27_3 := blk_frozen BK181.out 3) | (go_at_call 100; (with_reducible refine (bytes_up.calls a1_2 32 true _ A21.out).mono ?_); rintro e w' ⟨rfl, ⟨nd, rfl⟩⟩; (try first | exact ⟨rfl, _, World.drewN_drewN _ _ _⟩ | exact ⟨rfl, _, Eq.trans (World.drewN_drewN _ _ _) (congrArg (World.drewN _) (Nat.add_assoc _ _ _))⟩)) | (go_at_call 100; (with_reducible refine (bytes_up.calls a1_3 32 true _ A23.out).mono ?_); rintro e w' ⟨rfl, ⟨nd, rfl⟩⟩; (try first | exact ⟨rfl, _, World.drewN_drewN _ _ _⟩ | exact ⟨rfl, _, Eq.trans (World.drewN_drewN _ _ _) (congrArg (World.drewN _) (Nat.add_assoc _ _ _))⟩)))
    repeat (go_quiet (first | ((with_reducible refine gate_dst (N := 3) rfl ?_); refine zbox (N := 3) (cs := #[.bool true, .int .i64 a1_1, .int .i64 a1_2, .int .i64 a1_3]) (t := 62) ?_; intro gb181 hg w26 hbox hb; have n0_ := Aside0.mk (below_step (zw0 HB.out) hb); have BK181 := Aside0.mk (hbox); have GW181 := Aside0.mk (zg hg (below_size (zw0 HB.out))); have GE181 := GW181; clear HB; have HB := n0_; clear n0_; clear hb hbox hg) | (go_at_call 98; (with_reducible refine (word_IsKind.calls a0 false _ A3.out).mono ?_); rintro e w' ⟨rfl, ⟨nd, rfl⟩⟩; (try first | exact ⟨rfl, _, World.drewN_drewN _ _ _⟩ | exact ⟨rfl, _, Eq.trans (World.drewN_drewN _ _ _) (congrArg (World.drewN _) (Nat.add_assoc _ _ _))⟩); have hcz27_0 := zc BK181.out 0; have hcz27_1 := zc BK181.out 1; have hcz27_2 := zc BK181.out 2; have hcz27_3 := zc BK181.out 3; have hfz27_0 := blk_frozen BK181.out 0; have hfz27_1 := blk_frozen BK181.out 1; have hfz27_2 := blk_frozen BK181.out 2; have hfz27_3 := blk_frozen BK181.out 3) | (go_at_call 100; (with_reducible refine (bytes_up.calls a1_2 32 true _ A21.out).mono ?_); rintro e w' ⟨rfl, ⟨nd, rfl⟩⟩; (try first | exact ⟨rfl, _, World.drewN_drewN _ _ _⟩ | exact ⟨rfl, _, Eq.trans (World.drewN_drewN _ _ _) (congrArg (World.drewN _) (Nat.add_assoc _ _ _))⟩)) | (go_at_call 100; (with_reducible refine (bytes_up.calls a1_3 32 true _ A23.out).mono ?_); rintro e w' ⟨rfl, ⟨nd, rfl⟩⟩; (try first | exact ⟨rfl, _, World.drewN_drewN _ _ _⟩ | exact ⟨rfl, _, Eq.trans (World.drewN_drewN _ _ _) (congrArg (World.drewN _) (Nat.add_assoc _ _ _))⟩))); try go_wp2_with (first | ((with_reducible refine gate_dst (N := 3) rfl ?_); refine zbox (N := 3) (cs := #[.bool true, .int .i64 a1_1, .int .i64 a1_2, .int .i64 a1_3]) (t := 62) ?_; intro gb181 hg w26 hbox hb; have n0_ := Aside0.mk (below_step (zw0 HB.out) hb); have BK181 := Aside0.mk (hbox); have GW181 := Aside0.mk (zg hg (below_size (zw0 HB.out))); have GE181 := GW181; clear HB; have HB := n0_; clear n0_; clear hb hbox hg) | (go_at_call 98; (with_reducible refine (word_IsKind.calls a0 false _ A3.out).mono ?_); rintro e w' ⟨rfl, ⟨nd, rfl⟩⟩; (try first | exact ⟨rfl, _, World.drewN_drewN _ _ _⟩ | exact ⟨rfl, _, Eq.trans (World.drewN_drewN _ _ _) (congrArg (World.drewN _) (Nat.add_assoc _ _ _))⟩); have hcz27_0 := zc BK181.out 0; have hcz27_1 := zc BK181.out 1; have hcz27_2 := zc BK181.out 2; have hcz27_3 := zc BK181.out 3; have hfz27_0 := blk_frozen BK181.out 0; have hfz27_1 := blk_frozen BK181.out 1; have hfz27_2 := blk_frozen BK181.out 2; have hfz27_3 := blk_frozen BK181.out 3) | (go_at_call 100; (with_reducible refine (bytes_up.calls a1_2 32 true _ A21.out).mono ?_); rintro e w' ⟨rfl, ⟨nd, rfl⟩⟩; (try first | exact ⟨rfl, _, World.drewN_drewN _ _ _⟩ | exact ⟨rfl, _, Eq.trans (World.drewN_drewN _ _ _) (congrArg (World.drewN _) (Nat.add_assoc _ _ _))⟩)) | (go_at_call 100; (with_reducible refine (bytes_up.calls a1_3 32 true _ A23.out).mono ?_); rintro e w' ⟨rfl, ⟨nd, rfl⟩⟩; (try first | exact ⟨rfl, _, World.drewN_drewN _ _ _⟩ | exact ⟨rfl, _, Eq.trans (World.drewN_drewN _ _ _) (congrArg (World.drewN _) (Nat.add_assoc _ _ _))⟩))))
    go_ret
    exact ⟨ze, zw1 HB.out GE181.out⟩
   rw [if_neg c25] at H
   have c25b0 : decide (0 < a1_2) = false := decide_eq_false c25
   clear c25
   obtain rfl := Option.some.inj H
   go_enter Try.func67, Try.ntmps67
   go_wp2_with (first | ((with_reducible refine gate_dst (N := 3) rfl ?_); refine zbox (N := 3) (cs := #[.bool true, .int .i64 a1_1, .int .i64 a1_2, .int .i64 a1_3]) (t := 62) ?_; intro gb181 hg w28 hbox hb; have n0_ := Aside0.mk (below_step (zw0 HB.out) hb); have BK181 := Aside0.mk (hbox); have GW181 := Aside0.mk (zg hg (below_size (zw0 HB.out))); have GE181 := GW181; clear HB; have HB := n0_; clear n0_; clear hb hbox hg) | (go_at_call 98; (with_reducible refine (word_IsKind.calls a0 false _ A3.out).mono ?_); rintro e w' ⟨rfl, ⟨nd, rfl⟩⟩; (try first | exact ⟨rfl, _, World.drewN_drewN _ _ _⟩ | exact ⟨rfl, _, Eq.trans (World.drewN_drewN _ _ _) (congrArg (World.drewN _) (Nat.add_assoc _ _ _))⟩); have hcz29_0 := zc BK181.out 0; have hcz29_1 := zc BK181.out 1; have hcz29_2 := zc BK181.out 2; have hcz29_3 := zc BK181.out 3; have hfz29_0 := blk_frozen BK181.out 0; have hfz29_1 := blk_frozen BK181.out 1; have hfz29_2 := blk_frozen BK181.out 2; have hfz29_3 := blk_frozen BK181.out 3) | (go_at_call 100; (with_reducible refine (bytes_up.calls a1_2 32 true _ A21.out).mono ?_); rintro e w' ⟨rfl, ⟨nd, rfl⟩⟩; (try first | exact ⟨rfl, _, World.drewN_drewN _ _ _⟩ | exact ⟨rfl, _, Eq.trans (World.drewN_drewN _ _ _) (congrArg (World.drewN _) (Nat.add_assoc _ _ _))⟩)) | (go_at_call 100; (with_reducible refine (bytes_up.calls a1_3 32 true _ A23.out).mono ?_); rintro e w' ⟨rfl, ⟨nd, rfl⟩⟩; (try first | exact ⟨rfl, _, World.drewN_drewN _ _ _⟩ | exact ⟨rfl, _, Eq.trans (World.drewN_drewN _ _ _) (congrArg (World.drewN _) (Nat.add_assoc _ _ _))⟩)))
   repeat (go_quiet (first | ((with_reducible refine gate_dst (N := 3) rfl ?_); refine zbox (N := 3) (cs := #[.bool true, .int .i64 a1_1, .int .i64 a1_2, .int .i64 a1_3]) (t := 62) ?_; intro gb181 hg w28 hbox hb; have n0_ := Aside0.mk (below_step (zw0 HB.out) hb); have BK181 := Aside0.mk (hbox); have GW181 := Aside0.mk (zg hg (below_size (zw0 HB.out))); have GE181 := GW181; clear HB; have HB := n0_; clear n0_; clear hb hbox hg) | (go_at_call 98; (with_reducible refine (word_IsKind.calls a0 false _ A3.out).mono ?_); rintro e w' ⟨rfl, ⟨nd, rfl⟩⟩; (try first | exact ⟨rfl, _, World.drewN_drewN _ _ _⟩ | exact ⟨rfl, _, Eq.trans (World.drewN_drewN _ _ _) (congrArg (World.drewN _) (Nat.add_assoc _ _ _))⟩); have hcz29_0 := zc BK181.out 0; have hcz29_1 := zc BK181.out 1; have hcz29_2 := zc BK181.out 2; have hcz29_3 := zc BK181.out 3; have hfz29_0 := blk_frozen BK181.out 0; have hfz29_1 := blk_frozen BK181.out 1; have hfz29_2 := blk_frozen BK181.out 2; have hfz29_3 := blk_frozen BK181.out 3) | (go_at_call 100; (with_reducible refine (bytes_up.calls a1_2 32 true _ A21.out).mono ?_); rintro e w' ⟨rfl, ⟨nd, rfl⟩⟩; (try first | exact ⟨rfl, _, World.drewN_drewN _ _ _⟩ | exact ⟨rfl, _, Eq.trans (World.drewN_drewN _ _ _) (congrArg (World.drewN _) (Nat.add_assoc _ _ _))⟩)) | (go_at_call 100; (with_reducible refine (bytes_up.calls a1_3 32 true _ A23.out).mono ?_); rintro e w' ⟨rfl, ⟨nd, rfl⟩⟩; (try first | exact ⟨rfl, _, World.drewN_drewN _ _ _⟩ | exact ⟨rfl, _, Eq.trans (World.drewN_drewN _ _ _) (congrArg (World.drewN _) (Nat.add_assoc _ _ _))⟩))); try go_wp2_with (first | ((with_reducible refine gate_dst (N := 3) rfl ?_); refine zbox (N := 3) (cs := #[.bool true, .int .i64 a1_1, .int .i64 a1_2, .int .i64 a1_3]) (t := 62) ?_; intro gb181 hg w28 hbox hb; have n0_ := Aside0.mk (below_step (zw0 HB.out) hb); have BK181 := Aside0.mk (hbox); have GW181 := Aside0.mk (zg hg (below_size (zw0 HB.out))); have GE181 := GW181; clear HB; have HB := n0_; clear n0_; clear hb hbox hg) | (go_at_call 98; (with_reducible refine (word_IsKind.calls a0 false _ A3.out).mono ?_); rintro e w' ⟨rfl, ⟨nd, rfl⟩⟩; (try first | exact ⟨rfl, _, World.drewN_drewN _ _ _⟩ | exact ⟨rfl, _, Eq.trans (World.drewN_drewN _ _ _) (congrArg (World.drewN _) (Nat.add_assoc _ _ _))⟩); have hcz29_0 := zc BK181.out 0; have hcz29_1 := zc BK181.out 1; have hcz29_2 := zc BK181.out 2; have hcz29_3 := zc BK181.out 3; have hfz29_0 := blk_frozen BK181.out 0; have hfz29_1 := blk_frozen BK181.out 1; have hfz29_2 := blk_frozen BK181.out 2; have hfz29_3 := blk_frozen BK181.out 3) | (go_at_call 100; (with_reducible refine (bytes_up.calls a1_2 32 true _ A21.out).mono ?_); rintro e w' ⟨rfl, ⟨nd, rfl⟩⟩; (try first | exact ⟨rfl, _, World.drewN_drewN _ _ _⟩ | exact ⟨rfl, _, Eq.trans (World.drewN_drewN _ _ _) (congrArg (World.drewN _) (Nat.add_assoc _ _ _))⟩)) | (go_at_call 100; (with_reducible refine (bytes_up.calls a1_3 32 true _ A23.out).mono ?_); rintro e w' ⟨rfl, ⟨nd, rfl⟩⟩; (try first | exact ⟨rfl, _, World.drewN_drewN _ _ _⟩ | exact ⟨rfl, _, Eq.trans (World.drewN_drewN _ _ _) (congrArg (World.drewN _) (Nat.add_assoc _ _ _))⟩))))
   go_ret
   exact ⟨ze, zw1 HB.out GE181.out⟩
  ·rw [if_neg c18] at H
   have c18b0 : (a0 == 7) = false := beq_eq_false_iff_ne.mpr c18
   have c18b1 : (a0 != 7) = true := bne_iff_ne.mpr c18
   obtain rfl := Option.some.inj H
   go_enter Try.func67, Try.ntmps67
   go_wp2_with (first | ((with_reducible refine gate_dst (N := 3) rfl ?_); refine zbox (N := 3) (cs := #[.bool a1_0, .int .i64 a1_1, .int .i64 a1_2, .int .i64 a1_3]) (t := 62) ?_; intro gb181 hg w38 hbox hb; have n0_ := Aside0.mk (below_step (zw0 HB.out) hb); have BK181 := Aside0.mk (hbox); have GW181 := Aside0.mk (zg hg (below_size (zw0 HB.out))); have GE181 := GW181; clear HB; have HB := n0_; clear n0_; clear hb hbox hg) | (go_at_call 98; (with_reducible refine (word_IsKind.calls a0 false _ A3.out).mono ?_); rintro e w' ⟨rfl, ⟨nd, rfl⟩⟩; (try first | exact ⟨rfl, _, World.drewN_drewN _ _ _⟩ | exact ⟨rfl, _, Eq.trans (World.drewN_drewN _ _ _) (congrArg (World.drewN _) (Nat.add_assoc _ _ _))⟩)))
   repeat (go_quiet (first | ((with_reducible refine gate_dst (N := 3) rfl ?_); refine zbox (N := 3) (cs := #[.bool a1_0, .int .i64 a1_1, .int .i64 a1_2, .int .i64 a1_3]) (t := 62) ?_; intro gb181 hg w38 hbox hb; have n0_ := Aside0.mk (below_step (zw0 HB.out) hb); have BK181 := Aside0.mk (hbox); have GW181 := Aside0.mk (zg hg (below_size (zw0 HB.out))); have GE181 := GW181; clear HB; have HB := n0_; clear n0_; clear hb hbox hg) | (go_at_call 98; (with_reducible refine (word_IsKind.calls a0 false _ A3.out).mono ?_); rintro e w' ⟨rfl, ⟨nd, rfl⟩⟩; (try first | exact ⟨rfl, _, World.drewN_drewN _ _ _⟩ | exact ⟨rfl, _, Eq.trans (World.drewN_drewN _ _ _) (congrArg (World.drewN _) (Nat.add_assoc _ _ _))⟩))); try go_wp2_with (first | ((with_reducible refine gate_dst (N := 3) rfl ?_); refine zbox (N := 3) (cs := #[.bool a1_0, .int .i64 a1_1, .int .i64 a1_2, .int .i64 a1_3]) (t := 62) ?_; intro gb181 hg w38 hbox hb; have n0_ := Aside0.mk (below_step (zw0 HB.out) hb); have BK181 := Aside0.mk (hbox); have GW181 := Aside0.mk (zg hg (below_size (zw0 HB.out))); have GE181 := GW181; clear HB; have HB := n0_; clear n0_; clear hb hbox hg) | (go_at_call 98; (with_reducible refine (word_IsKind.calls a0 false _ A3.out).mono ?_); rintro e w' ⟨rfl, ⟨nd, rfl⟩⟩; (try first | exact ⟨rfl, _, World.drewN_drewN _ _ _⟩ | exact ⟨rfl, _, Eq.trans (World.drewN_drewN _ _ _) (congrArg (World.drewN _) (Nat.add_assoc _ _ _))⟩))))
   go_ret
   exact ⟨ze, zw1 HB.out GE181.out⟩

/-! mem_there -/
def mem_there.f (l0 : List (S76)) (a1_0 : Bool) (a1_1 : Int) (a1_2 : Int) (a1_3 : Int) : Option (Bool) := (bytes_May.f 7 a1_0 a1_1 a1_2 a1_3).bind fun t188 => (if t188 = true then (some (decide (a1_2 < (l0.length : Int)))) else (some false))
set_option maxHeartbeats 8000000 in
set_option maxRecDepth 100000 in
theorem mem_there.calls (A0 : Option Addr) (c0 : Nat) (l0 : List (S76)) (a1_0 : Bool) (a1_1 : Int) (a1_2 : Int) (a1_3 : Int) (r : Bool) (w : World) (hr0 : Kd.C k76 w A0 l0.length l0) (hc0 : l0.length ≤ c0) (h : mem_there.f l0 a1_0 a1_1 a1_2 a1_3 = some r) :
  Calls Try.prog 78 #[.slice A0 l0.length c0, .agg #[.bool a1_0, .int .i64 a1_1, .int .i64 a1_2, .int .i64 a1_3]] w fun e w' => e = .returned (.bool r) ∧ Below w.heap.size w w' := by
 have hu62 := Try.underlying62
 have HR0 := Aside0.mk hr0
 have HC0 := Aside0.mk hc0
 clear hr0 hc0
 have HB := Aside0.mk (Below.refl w.heap.size w)
 have H : ((bytes_May.f 7 a1_0 a1_1 a1_2 a1_3).bind fun t188 => (if t188 = true then (some (decide (a1_2 < (l0.length : Int)))) else (some false))) = some r := h
 clear h
 replace H := Option.bind_eq_some_iff.mp H
 obtain ⟨t188, A30, H⟩ := H
 replace H : (if t188 = true then (some (decide (a1_2 < (l0.length : Int)))) else (some false)) = some r := H
 have A3 := Aside0.mk A30
 clear A30
 by_cases c4 : t188 = true
 ·subst c4
  have H1 : (some (decide (a1_2 < (l0.length : Int)))) = some r := by rw [if_pos rfl] at H; exact H
  clear H
  have H := H1
  clear H1
  obtain rfl := Option.some.inj H
  go_enter Try.func78, Try.ntmps78
  go_wp2_with (first | ((with_reducible refine gate_dst (N := 3) rfl ?_); (try (refine gate_guard (by rfl) ?_; dsimp only)); refine zbox (N := 3) (cs := #[.bool a1_0, .int .i64 a1_1, .int .i64 a1_2, .int .i64 a1_3]) (t := 62) ?_; intro gb187 hg w5 hbox hb; have n0_ := Aside0.mk (below_step (zw0 HB.out) hb); have BK187 := Aside0.mk (hbox); have GW187 := Aside0.mk (zg hg (below_size (zw0 HB.out))); have GE187 := GW187; clear HB; have HB := n0_; clear n0_; clear hb hbox hg; have hcz6_0 := zc BK187.out 0; have hcz6_1 := zc BK187.out 1; have hcz6_2 := zc BK187.out 2; have hcz6_3 := zc BK187.out 3; have hfz6_0 := blk_frozen BK187.out 0; have hfz6_1 := blk_frozen BK187.out 1; have hfz6_2 := blk_frozen BK187.out 2; have hfz6_3 := blk_frozen BK187.out 3) | ((with_reducible refine gate_callee (f := 67) rfl ?_); refine zgo (some 6) Try.func67 #[.int .i64 7, .agg #[.bool a1_0, .int .i64 a1_1, .int .i64 a1_2, .int .i64 a1_3]] ?_; (with_reducible refine (bytes_May.calls 7 a1_0 a1_1 a1_2 a1_3 true _ A3.out).mono ?_); rintro e w7 ⟨rfl, hb⟩; refine ⟨_, rfl, ?_⟩; have n0_ := Aside0.mk (zbb BK187.out hb); have n1_ := Aside0.mk (below_step (zw1 HB.out GE187.out) hb); clear BK187 HB; have BK187 := n0_; have HB := n1_; clear n0_ n1_; (try clear hb); (try clear hb2); (try clear hk); (try clear hi); have hcz8_0 := zc BK187.out 0; have hcz8_1 := zc BK187.out 1; have hcz8_2 := zc BK187.out 2; have hcz8_3 := zc BK187.out 3; have hfz8_0 := blk_frozen BK187.out 0; have hfz8_1 := blk_frozen BK187.out 1; have hfz8_2 := blk_frozen BK187.out 2; have hfz8_3 := blk_frozen BK187.out 3))
  go_ret
  exact ⟨ze, zw1 HB.out GE187.out⟩
 ·replace c4 := Bool.eq_false_iff.mpr c4
  subst c4
  have H1 : (some false) = some r := by rw [if_neg (show ¬ (false = true) by decide)] at H; exact H
  clear H
  have H := H1
  clear H1
  obtain rfl := Option.some.inj H
  go_enter Try.func78, Try.ntmps78
  go_wp2_with (first | ((with_reducible refine gate_dst (N := 3) rfl ?_); (try (refine gate_guard (by rfl) ?_; dsimp only)); refine zbox (N := 3) (cs := #[.bool a1_0, .int .i64 a1_1, .int .i64 a1_2, .int .i64 a1_3]) (t := 62) ?_; intro gb187 hg w9 hbox hb; have n0_ := Aside0.mk (below_step (zw0 HB.out) hb); have BK187 := Aside0.mk (hbox); have GW187 := Aside0.mk (zg hg (below_size (zw0 HB.out))); have GE187 := GW187; clear HB; have HB := n0_; clear n0_; clear hb hbox hg; have hcz10_0 := zc BK187.out 0; have hcz10_1 := zc BK187.out 1; have hcz10_2 := zc BK187.out 2; have hcz10_3 := zc BK187.out 3; have hfz10_0 := blk_frozen BK187.out 0; have hfz10_1 := blk_frozen BK187.out 1; have hfz10_2 := blk_frozen BK187.out 2; have hfz10_3 := blk_frozen BK187.out 3) | ((with_reducible refine gate_callee (f := 67) rfl ?_); refine zgo (some 6) Try.func67 #[.int .i64 7, .agg #[.bool a1_0, .int .i64 a1_1, .int .i64 a1_2, .int .i64 a1_3]] ?_; (with_reducible refine (bytes_May.calls 7 a1_0 a1_1 a1_2 a1_3 false _ A3.out).mono ?_); rintro e w11 ⟨rfl, hb⟩; refine ⟨_, rfl, ?_⟩; have n0_ := Aside0.mk (zbb BK187.out hb); have n1_ := Aside0.mk (below_step (zw1 HB.out GE187.out) hb); clear BK187 HB; have BK187 := n0_; have HB := n1_; clear n0_ n1_; (try clear hb); (try clear hb2); (try clear hk); (try clear hi)))
  go_ret
  exact ⟨ze, zw1 HB.out GE187.out⟩

/-! word_May -/
def word_May.f (a0_0 : Bool) (a0_1 : Int) : Option (Bool) := if a0_1 = 2 then (some true) else (some (a0_1 == 4))
set_option maxHeartbeats 8000000 in
set_option maxRecDepth 100000 in
theorem word_May.calls (a0_0 : Bool) (a0_1 : Int) (r : Bool) (w : World) (h : word_May.f a0_0 a0_1 = some r) :
  Calls Try.prog 84 #[.agg #[.bool a0_0, .int .i64 a0_1]] w fun e w' => e = .returned (.bool r) ∧ Below w.heap.size w w' := by
 have hu29 := Try.underlying29
 have HB := Aside0.mk (Below.refl w.heap.size w)
 have H : (if a0_1 = 2 then (some true) else (some (a0_1 == 4))) = some r := h
 clear h
 by_cases c2 : a0_1 = 2
 ·rw [if_pos c2] at H
  have c2b0 : (a0_1 == 2) = true := beq_iff_eq.mpr c2
  have c2b1 : (a0_1 != 2) = false := bne_eq_false_iff_eq.mpr c2
  clear c2
  obtain rfl := Option.some.inj H
  go_enter Try.func84, Try.ntmps84
  go_wp2_with (first | ((with_reducible refine gate_dst (N := 1) rfl ?_); refine zbox (N := 1) (cs := #[.bool a0_0, .int .i64 a0_1]) (t := 29) ?_; intro gb189 hg w3 hbox hb; have n0_ := Aside0.mk (below_step (zw0 HB.out) hb); have BK189 := Aside0.mk (hbox); have GW189 := Aside0.mk (zg hg (below_size (zw0 HB.out))); have GE189 := GW189; clear HB; have HB := n0_; clear n0_; clear hb hbox hg; have hcz4_0 := zc BK189.out 0; have hcz4_1 := zc BK189.out 1; have hfz4_0 := blk_frozen BK189.out 0; have hfz4_1 := blk_frozen BK189.out 1))
  go_ret
  exact ⟨ze, zw1 HB.out GE189.out⟩
 ·rw [if_neg c2] at H
  have c2b0 : (a0_1 == 2) = false := beq_eq_false_iff_ne.mpr c2
  have c2b1 : (a0_1 != 2) = true := bne_iff_ne.mpr c2
  obtain rfl := Option.some.inj H
  go_enter Try.func84, Try.ntmps84
  go_wp2_with (first | ((with_reducible refine gate_dst (N := 1) rfl ?_); refine zbox (N := 1) (cs := #[.bool a0_0, .int .i64 a0_1]) (t := 29) ?_; intro gb189 hg w5 hbox hb; have n0_ := Aside0.mk (below_step (zw0 HB.out) hb); have BK189 := Aside0.mk (hbox); have GW189 := Aside0.mk (zg hg (below_size (zw0 HB.out))); have GE189 := GW189; clear HB; have HB := n0_; clear n0_; clear hb hbox hg; have hcz6_0 := zc BK189.out 0; have hcz6_1 := zc BK189.out 1; have hfz6_0 := blk_frozen BK189.out 0; have hfz6_1 := blk_frozen BK189.out 1))
  go_ret
  exact ⟨ze, zw1 HB.out GE189.out⟩

/-! word_IsScalar -/
def word_IsScalar.f (a0 : Int) : Option (Bool) := if a0 ≥ 1 then (some (decide (a0 ≤ 7))) else (some false)
set_option maxHeartbeats 8000000 in
set_option maxRecDepth 100000 in
theorem word_IsScalar.calls (a0 : Int) (r : Bool) (w : World) (h : word_IsScalar.f a0 = some r) :
  Calls Try.prog 97 #[.int .i64 a0] w fun e w' => e = .returned (.bool r) ∧ Drawn0 w w' := by
 have H : (if a0 ≥ 1 then (some (decide (a0 ≤ 7))) else (some false)) = some r := h
 clear h
 by_cases c2 : a0 ≥ 1
 ·rw [if_pos c2] at H
  have c2b0 : decide (1 ≤ a0) = true := decide_eq_true c2
  clear c2
  obtain rfl := Option.some.inj H
  go_enter Try.func97, Try.ntmps97
  go_wp2
  go_ret
  exact ⟨zr, by repeat (first | exact Drawn0.refl _ | apply Drawn0.step)⟩
 ·rw [if_neg c2] at H
  have c2b0 : decide (1 ≤ a0) = false := decide_eq_false c2
  clear c2
  obtain rfl := Option.some.inj H
  go_enter Try.func97, Try.ntmps97
  go_wp2
  go_ret
  exact ⟨zr, by repeat (first | exact Drawn0.refl _ | apply Drawn0.step)⟩

/-! mem_asked -/
def mem_asked.f (a0_0 : Bool) (a0_1 : Int) (l1 : List (S76)) (a2_0 : Bool) (a2_1 : Int) (a2_2 : Int) (a2_3 : Int) (a3 : Int) : Option (Bool) := (word_May.f a0_0 a0_1).bind fun t192 => (if t192 = true then ((mem_May.f l1).bind fun t193 => (if t193 = true then ((mem_there.f l1 a2_0 a2_1 a2_2 a2_3).bind fun t194 => (if t194 = true then ((word_IsScalar.f a3).bind fun t195 => (some t195)) else (some false))) else (some false))) else (some false))
set_option maxHeartbeats 8000000 in
set_option maxRecDepth 100000 in
theorem mem_asked.calls (a0_0 : Bool) (a0_1 : Int) (A1 : Option Addr) (c1 : Nat) (l1 : List (S76)) (a2_0 : Bool) (a2_1 : Int) (a2_2 : Int) (a2_3 : Int) (a3 : Int) (r : Bool) (w : World) (hr1 : Kd.C k76 w A1 l1.length l1) (hc1 : l1.length ≤ c1) (h : mem_asked.f a0_0 a0_1 l1 a2_0 a2_1 a2_2 a2_3 a3 = some r) :
  Calls Try.prog 66 #[.agg #[.bool a0_0, .int .i64 a0_1], .slice A1 l1.length c1, .agg #[.bool a2_0, .int .i64 a2_1, .int .i64 a2_2, .int .i64 a2_3], .int .i64 a3] w fun e w' => e = .returned (.bool r) ∧ Below w.heap.size w w' := by
 have hu29 := Try.underlying29
 have hu62 := Try.underlying62
 have HR1 := Aside0.mk hr1
 have HC1 := Aside0.mk hc1
 clear hr1 hc1
 have HB := Aside0.mk (Below.refl w.heap.size w)
 have H : ((word_May.f a0_0 a0_1).bind fun t192 => (if t192 = true then ((mem_May.f l1).bind fun t193 => (if t193 = true then ((mem_there.f l1 a2_0 a2_1 a2_2 a2_3).bind fun t194 => (if t194 = true then ((word_IsScalar.f a3).bind fun t195 => (some t195)) else (some false))) else (some false))) else (some false))) = some r := h
 clear h
 replace H := Option.bind_eq_some_iff.mp H
 obtain ⟨t192, A50, H⟩ := H
 replace H : (if t192 = true then ((mem_May.f l1).bind fun t193 => (if t193 = true then ((mem_there.f l1 a2_0 a2_1 a2_2 a2_3).bind fun t194 => (if t194 = true then ((word_IsScalar.f a3).bind fun t195 => (some t195)) else (some false))) else (some false))) else (some false)) = some r := H
 have A5 := Aside0.mk A50
 clear A50
 by_cases c6 : t192 = true
 ·subst c6
  have H1 : ((mem_May.f l1).bind fun t193 => (if t193 = true then ((mem_there.f l1 a2_0 a2_1 a2_2 a2_3).bind fun t194 => (if t194 = true then ((word_IsScalar.f a3).bind fun t195 => (some t195)) else (some false))) else (some false))) = some r := by rw [if_pos rfl] at H; exact H
  clear H
  have H := H1
  clear H1
  replace H := Option.bind_eq_some_iff.mp H
  obtain ⟨t193, A70, H⟩ := H
  replace H : (if t193 = true then ((mem_there.f l1 a2_0 a2_1 a2_2 a2_3).bind fun t194 => (if t194 = true then ((word_IsScalar.f a3).bind fun t195 => (some t195)) else (some false))) else (some false)) = some r := H
  have A7 := Aside0.mk A70
  clear A70
  by_cases c8 : t193 = true
  rotate_left
  ·replace c8 := Bool.eq_false_iff.mpr c8
   subst c8
   have H1 : (some false) = some r := by rw [if_neg (show ¬ (false = true) by decide)] at H; exact H
   clear H
   have H := H1
   clear H1
   obtain rfl := Option.some.inj H
   go_enter Try.func66, Try.ntmps66
   go_wp2_with (first | ((with_reducible refine gate_dst (N := 4) rfl ?_); refine zbox (N := 4) (cs := #[.bool a0_0, .int .i64 a0_1]) (t := 29) ?_; intro gb190 hg w28 hbox hb; have n0_ := Aside0.mk (below_step (zw0 HB.out) hb); have BK190 := Aside0.mk (hbox); have GW190 := Aside0.mk (zg hg (below_size (zw0 HB.out))); have GE190 := GW190; clear HB; have HB := n0_; clear n0_; clear hb hbox hg) | ((with_reducible refine gate_dst (N := 6) rfl ?_); refine zbox (N := 6) (cs := #[.bool a2_0, .int .i64 a2_1, .int .i64 a2_2, .int .i64 a2_3]) (t := 62) ?_; intro gb191 hg w29 hbox hb; have n0_ := Aside0.mk (zbb BK190.out hb); have n1_ := Aside0.mk (below_step (zw1 HB.out GE190.out) hb); have BK191 := Aside0.mk (hbox); have GW191 := Aside0.mk (zg hg (below_size (zw1 HB.out GE190.out))); have GE191 := GW191; have NB190_191 := Aside0.mk (zlt hg BK190.out); have NB191_190 := Aside0.mk (zgt hg BK190.out); clear BK190 HB; have BK190 := n0_; have HB := n1_; clear n0_ n1_; clear hb hbox hg; have hnb30 := NB190_191.out; have hnc30 := NB191_190.out; have hcz31_0 := zc BK190.out 0; have hcz31_1 := zc BK190.out 1; have hfz31_0 := blk_frozen BK190.out 0; have hfz31_1 := blk_frozen BK190.out 1) | ((with_reducible refine gate_callee (f := 84) rfl ?_); refine zgo (some 10) Try.func84 #[.agg #[.bool a0_0, .int .i64 a0_1]] ?_; (with_reducible refine (word_May.calls a0_0 a0_1 true _ A5.out).mono ?_); rintro e w32 ⟨rfl, hb⟩; refine ⟨_, rfl, ?_⟩; have n0_ := Aside0.mk (zbb BK190.out hb); have n1_ := Aside0.mk (zbb BK191.out hb); have n2_ := Aside0.mk (below_step (zw2 HB.out GE190.out GE191.out) hb); clear BK190 BK191 HB; have BK190 := n0_; have BK191 := n1_; have HB := n2_; clear n0_ n1_ n2_; (try clear hb); (try clear hb2); (try clear hk); (try clear hi)) | (go_at_call 77; (with_reducible refine (mem_May.calls _ _ l1 false _ ?side1 ?side2 A7.out).mono ?_); (case side1 => repeat (first | exact (Kd.C_below HR1.out HB.out) | (with_reducible refine Kd.C_alloc ?_ _) | (with_reducible refine Kd.C_drewN ?_ _) | (with_reducible refine Kd.C_drew ?_))); (case side2 => exact HC1.out); rintro e w33 ⟨rfl, hb⟩; have n0_ := Aside0.mk (zbb BK190.out hb); have n1_ := Aside0.mk (zbb BK191.out hb); have n2_ := Aside0.mk (below_step (zw2 HB.out GE190.out GE191.out) hb); clear BK190 BK191 HB; have BK190 := n0_; have BK191 := n1_; have HB := n2_; clear n0_ n1_ n2_; (try clear hb); (try clear hb2); (try clear hk); (try clear hi)))
   go_ret
   exact ⟨ze, zw2 HB.out GE190.out GE191.out⟩
  subst c8
  have H1 : ((mem_there.f l1 a2_0 a2_1 a2_2 a2_3).bind fun t194 => (if t194 = true then ((word_IsScalar.f a3).bind fun t195 => (some t195)) else (some false))) = some r := by rw [if_pos rfl] at H; exact H
  clear H
  have H := H1
  clear H1
  replace H := Option.bind_eq_some_iff.mp H
  obtain ⟨t194, A90, H⟩ := H
  replace H : (if t194 = true then ((word_IsScalar.f a3).bind fun t195 => (some t195)) else (some false)) = some r := H
  have A9 := Aside0.mk A90
  clear A90
  by_cases c10 : t194 = true
  rotate_left
  ·replace c10 := Bool.eq_false_iff.mpr c10
   subst c10
   have H1 : (some false) = some r := by rw [if_neg (show ¬ (false = true) by decide)] at H; exact H
   clear H
   have H := H1
   clear H1
   obtain rfl := Option.some.inj H
   go_enter Try.func66, Try.ntmps66
   go_wp2_with (first | ((with_reducible refine gate_dst (N := 4) rfl ?_); refine zbox (N := 4) (cs := #[.bool a0_0, .int .i64 a0_1]) (t := 29) ?_; intro gb190 hg w20 hbox hb; have n0_ := Aside0.mk (below_step (zw0 HB.out) hb); have BK190 := Aside0.mk (hbox); have GW190 := Aside0.mk (zg hg (below_size (zw0 HB.out))); have GE190 := GW190; clear HB; have HB := n0_; clear n0_; clear hb hbox hg) | ((with_reducible refine gate_dst (N := 6) rfl ?_); refine zbox (N := 6) (cs := #[.bool a2_0, .int .i64 a2_1, .int .i64 a2_2, .int .i64 a2_3]) (t := 62) ?_; intro gb191 hg w21 hbox hb; have n0_ := Aside0.mk (zbb BK190.out hb); have n1_ := Aside0.mk (below_step (zw1 HB.out GE190.out) hb); have BK191 := Aside0.mk (hbox); have GW191 := Aside0.mk (zg hg (below_size (zw1 HB.out GE190.out))); have GE191 := GW191; have NB190_191 := Aside0.mk (zlt hg BK190.out); have NB191_190 := Aside0.mk (zgt hg BK190.out); clear BK190 HB; have BK190 := n0_; have HB := n1_; clear n0_ n1_; clear hb hbox hg; have hnb22 := NB190_191.out; have hnc22 := NB191_190.out; have hcz23_0 := zc BK190.out 0; have hcz23_1 := zc BK190.out 1; have hfz23_0 := blk_frozen BK190.out 0; have hfz23_1 := blk_frozen BK190.out 1) | ((with_reducible refine gate_callee (f := 84) rfl ?_); refine zgo (some 10) Try.func84 #[.agg #[.bool a0_0, .int .i64 a0_1]] ?_; (with_reducible refine (word_May.calls a0_0 a0_1 true _ A5.out).mono ?_); rintro e w24 ⟨rfl, hb⟩; refine ⟨_, rfl, ?_⟩; have n0_ := Aside0.mk (zbb BK190.out hb); have n1_ := Aside0.mk (zbb BK191.out hb); have n2_ := Aside0.mk (below_step (zw2 HB.out GE190.out GE191.out) hb); clear BK190 BK191 HB; have BK190 := n0_; have BK191 := n1_; have HB := n2_; clear n0_ n1_ n2_; (try clear hb); (try clear hb2); (try clear hk); (try clear hi)) | (go_at_call 77; (with_reducible refine (mem_May.calls _ _ l1 true _ ?side1 ?side2 A7.out).mono ?_); (case side1 => repeat (first | exact (Kd.C_below HR1.out HB.out) | (with_reducible refine Kd.C_alloc ?_ _) | (with_reducible refine Kd.C_drewN ?_ _) | (with_reducible refine Kd.C_drew ?_))); (case side2 => exact HC1.out); rintro e w25 ⟨rfl, hb⟩; have n0_ := Aside0.mk (zbb BK190.out hb); have n1_ := Aside0.mk (zbb BK191.out hb); have n2_ := Aside0.mk (below_step (zw2 HB.out GE190.out GE191.out) hb); clear BK190 BK191 HB; have BK190 := n0_; have BK191 := n1_; have HB := n2_; clear n0_ n1_ n2_; (try clear hb); (try clear hb2); (try clear hk); (try clear hi); have hcz26_0 := zc BK191.out 0; have hcz26_1 := zc BK191.out 1; have hcz26_2 := zc BK191.out 2; have hcz26_3 := zc BK191.out 3; have hfz26_0 := blk_frozen BK191.out 0; have hfz26_1 := blk_frozen BK191.out 1; have hfz26_2 := blk_frozen BK191.out 2; have hfz26_3 := blk_frozen BK191.out 3) | (go_at_call 78; (with_reducible refine (mem_there.calls _ _ l1 a2_0 a2_1 a2_2 a2_3 false _ ?side1 ?side2 A9.out).mono ?_); (case side1 => repeat (first | exact (Kd.C_below HR1.out HB.out) | (with_reducible refine Kd.C_alloc ?_ _) | (with_reducible refine Kd.C_drewN ?_ _) | (with_reducible refine Kd.C_drew ?_))); (case side2 => exact HC1.out); rintro e w27 ⟨rfl, hb⟩; have n0_ := Aside0.mk (zbb BK190.out hb); have n1_ := Aside0.mk (zbb BK191.out hb); have n2_ := Aside0.mk (below_step (zw2 HB.out GE190.out GE191.out) hb); clear BK190 BK191 HB; have BK190 := n0_; have BK191 := n1_; have HB := n2_; clear n0_ n1_ n2_; (try clear hb); (try clear hb2); (try clear hk); (try clear hi)))
   go_ret
   exact ⟨ze, zw2 HB.out GE190.out GE191.out⟩
  subst c10
  have H1 : ((word_IsScalar.f a3).bind fun t195 => (some t195)) = some r := by rw [if_pos rfl] at H; exact H
  clear H
  have H := H1
  clear H1
  replace H := Option.bind_eq_some_iff.mp H
  obtain ⟨t195, A110, H⟩ := H
  replace H : (some t195) = some r := H
  have A11 := Aside0.mk A110
  clear A110
  obtain rfl := Option.some.inj H
  go_enter Try.func66, Try.ntmps66
  go_wp2_with (first | ((with_reducible refine gate_dst (N := 4) rfl ?_); refine zbox (N := 4) (cs := #[.bool a0_0, .int .i64 a0_1]) (t := 29) ?_; intro gb190 hg w12 hbox hb; have n0_ := Aside0.mk (below_step (zw0 HB.out) hb); have BK190 := Aside0.mk (hbox); have GW190 := Aside0.mk (zg hg (below_size (zw0 HB.out))); have GE190 := GW190; clear HB; have HB := n0_; clear n0_; clear hb hbox hg) | ((with_reducible refine gate_dst (N := 6) rfl ?_); refine zbox (N := 6) (cs := #[.bool a2_0, .int .i64 a2_1, .int .i64 a2_2, .int .i64 a2_3]) (t := 62) ?_; intro gb191 hg w13 hbox hb; have n0_ := Aside0.mk (zbb BK190.out hb); have n1_ := Aside0.mk (below_step (zw1 HB.out GE190.out) hb); have BK191 := Aside0.mk (hbox); have GW191 := Aside0.mk (zg hg (below_size (zw1 HB.out GE190.out))); have GE191 := GW191; have NB190_191 := Aside0.mk (zlt hg BK190.out); have NB191_190 := Aside0.mk (zgt hg BK190.out); clear BK190 HB; have BK190 := n0_; have HB := n1_; clear n0_ n1_; clear hb hbox hg; have hnb14 := NB190_191.out; have hnc14 := NB191_190.out; have hcz15_0 := zc BK190.out 0; have hcz15_1 := zc BK190.out 1; have hfz15_0 := blk_frozen BK190.out 0; have hfz15_1 := blk_frozen BK190.out 1) | ((with_reducible refine gate_callee (f := 84) rfl ?_); refine zgo (some 10) Try.func84 #[.agg #[.bool a0_0, .int .i64 a0_1]] ?_; (with_reducible refine (word_May.calls a0_0 a0_1 true _ A5.out).mono ?_); rintro e w16 ⟨rfl, hb⟩; refine ⟨_, rfl, ?_⟩; have n0_ := Aside0.mk (zbb BK190.out hb); have n1_ := Aside0.mk (zbb BK191.out hb); have n2_ := Aside0.mk (below_step (zw2 HB.out GE190.out GE191.out) hb); clear BK190 BK191 HB; have BK190 := n0_; have BK191 := n1_; have HB := n2_; clear n0_ n1_ n2_; (try clear hb); (try clear hb2); (try clear hk); (try clear hi)) | (go_at_call 77; (with_reducible refine (mem_May.calls _ _ l1 true _ ?side1 ?side2 A7.out).mono ?_); (case side1 => repeat (first | exact (Kd.C_below HR1.out HB.out) | (with_reducible refine Kd.C_alloc ?_ _) | (with_reducible refine Kd.C_drewN ?_ _) | (with_reducible refine Kd.C_drew ?_))); (case side2 => exact HC1.out); rintro e w17 ⟨rfl, hb⟩; have n0_ := Aside0.mk (zbb BK190.out hb); have n1_ := Aside0.mk (zbb BK191.out hb); have n2_ := Aside0.mk (below_step (zw2 HB.out GE190.out GE191.out) hb); clear BK190 BK191 HB; have BK190 := n0_; have BK191 := n1_; have HB := n2_; clear n0_ n1_ n2_; (try clear hb); (try clear hb2); (try clear hk); (try clear hi); have hcz18_0 := zc BK191.out 0; have hcz18_1 := zc BK191.out 1; have hcz18_2 := zc BK191.out 2; have hcz18_3 := zc BK191.out 3; have hfz18_0 := blk_frozen BK191.out 0; have hfz18_1 := blk_frozen BK191.out 1; have hfz18_2 := blk_frozen BK191.out 2; have hfz18_3 := blk_frozen BK191.out 3) | (go_at_call 78; (with_reducible refine (mem_there.calls _ _ l1 a2_0 a2_1 a2_2 a2_3 true _ ?side1 ?side2 A9.out).mono ?_); (case side1 => repeat (first | exact (Kd.C_below HR1.out HB.out) | (with_reducible refine Kd.C_alloc ?_ _) | (with_reducible refine Kd.C_drewN ?_ _) | (with_reducible refine Kd.C_drew ?_))); (case side2 => exact HC1.out); rintro e w19 ⟨rfl, hb⟩; have n0_ := Aside0.mk (zbb BK190.out hb); have n1_ := Aside0.mk (zbb BK191.out hb); have n2_ := Aside0.mk (below_step (zw2 HB.out GE190.out GE191.out) hb); clear BK190 BK191 HB; have BK190 := n0_; have BK191 := n1_; have HB := n2_; clear n0_ n1_ n2_; (try clear hb); (try clear hb2); (try clear hk); (try clear hi)) | (go_at_call 97; (with_reducible refine (word_IsScalar.calls a3 t195 _ A11.out).mono ?_); rintro e w' ⟨rfl, ⟨nd, rfl⟩⟩))
  go_ret
  exact ⟨ze, zw2 HB.out GE190.out GE191.out⟩
 ·replace c6 := Bool.eq_false_iff.mpr c6
  subst c6
  have H1 : (some false) = some r := by rw [if_neg (show ¬ (false = true) by decide)] at H; exact H
  clear H
  have H := H1
  clear H1
  obtain rfl := Option.some.inj H
  go_enter Try.func66, Try.ntmps66
  go_wp2_with (first | ((with_reducible refine gate_dst (N := 4) rfl ?_); refine zbox (N := 4) (cs := #[.bool a0_0, .int .i64 a0_1]) (t := 29) ?_; intro gb190 hg w34 hbox hb; have n0_ := Aside0.mk (below_step (zw0 HB.out) hb); have BK190 := Aside0.mk (hbox); have GW190 := Aside0.mk (zg hg (below_size (zw0 HB.out))); have GE190 := GW190; clear HB; have HB := n0_; clear n0_; clear hb hbox hg) | ((with_reducible refine gate_dst (N := 6) rfl ?_); refine zbox (N := 6) (cs := #[.bool a2_0, .int .i64 a2_1, .int .i64 a2_2, .int .i64 a2_3]) (t := 62) ?_; intro gb191 hg w35 hbox hb; have n0_ := Aside0.mk (zbb BK190.out hb); have n1_ := Aside0.mk (below_step (zw1 HB.out GE190.out) hb); have BK191 := Aside0.mk (hbox); have GW191 := Aside0.mk (zg hg (below_size (zw1 HB.out GE190.out))); have GE191 := GW191; have NB190_191 := Aside0.mk (zlt hg BK190.out); have NB191_190 := Aside0.mk (zgt hg BK190.out); clear BK190 HB; have BK190 := n0_; have HB := n1_; clear n0_ n1_; clear hb hbox hg; have hnb36 := NB190_191.out; have hnc36 := NB191_190.out; have hcz37_0 := zc BK190.out 0; have hcz37_1 := zc BK190.out 1; have hfz37_0 := blk_frozen BK190.out 0; have hfz37_1 := blk_frozen BK190.out 1) | ((with_reducible refine gate_callee (f := 84) rfl ?_); refine zgo (some 10) Try.func84 #[.agg #[.bool a0_0, .int .i64 a0_1]] ?_; (with_reducible refine (word_May.calls a0_0 a0_1 false _ A5.out).mono ?_); rintro e w38 ⟨rfl, hb⟩; refine ⟨_, rfl, ?_⟩; have n0_ := Aside0.mk (zbb BK190.out hb); have n1_ := Aside0.mk (zbb BK191.out hb); have n2_ := Aside0.mk (below_step (zw2 HB.out GE190.out GE191.out) hb); clear BK190 BK191 HB; have BK190 := n0_; have BK191 := n1_; have HB := n2_; clear n0_ n1_ n2_; (try clear hb); (try clear hb2); (try clear hk); (try clear hi)))
  go_ret
  exact ⟨ze, zw2 HB.out GE190.out GE191.out⟩

/-! slices.Clone of rows -/
theorem row0_event {P : Program} {ops : Array Oper} {o : Oper} {a : Act} {Q : Exit → Act → World → Prop} {rest : List Oper} {α : Type} (d : Kd α) {W : World} (hgd : o.guard = none) (t : TypeId)
    (hrun : (execOp a.eval o).run P W = .ok (.value (.slice (some ⟨W.heap.size, 0, none⟩) 0 0)) (W.alloc (.cells #[] t (0, 0))))
    (h : ∀ v w1, (∃ A c, v = .slice A 0 c) → d.R t w1 W.heap.size (fun _ => True) v [] → Below W.heap.size W w1 → wpList P ops Q rest (a.put o.dst v) w1) : wpList P ops Q (o :: rest) a W :=
  Kd.event_run hgd hrun (h _ _ ⟨_, _, rfl⟩ ⟨fun _ _ => trivial, [], ⟨by simp, .inr ⟨W.heap.size, 0, #[], rfl, Nat.le_refl _, blk_new W _, Nat.le_refl _, by decide, by simp, by simp⟩⟩, Reps.none _ _⟩ (below_alloc (Below.refl _ _) _))
theorem kB_M (w W : World) (base : Nat) (ok : Nat → Prop) (x : S74) (cs : List Value) (h : k74.K w x cs) : k74.M W base ok x cs := by
  obtain rfl := k74_open h
  exact k74_mkM _ _ _ x
set_option maxHeartbeats 4000000 in
set_option maxRecDepth 100000 in
theorem cloneB_calls (A : Option Addr) (c : Nat) (l : List S74) (w : World) (hr : Kd.C k74 w A l.length l) (hlim : l.length * 40 ≤ 140737488355328) :
  Calls Try.prog 102 #[.slice A l.length c] w fun e w' => ∃ v, e = .returned v ∧ Kd.R k74 74 w' w.heap.size (fun _ => True) v l ∧ Below w.heap.size w w' := by
 have HR := Aside0.mk hr
 have q72 : ∀ (w : World) (a : Option Addr) (n c n' c' : Nat), (binOp .eql 72 (.slice a n c) (.slice none n' c')).run Try.prog w = .ok (.bool a.isNone) w := fun w a n c n' c' => Lib.run_eql_slice_nil w _ _ a n c n' c' Try.underlying72
 have HL := Aside0.mk hlim
 have HB := Aside0.mk (Below.refl w.heap.size w)
 cases A with
 | none =>
  have hl : l = [] := by
    rcases Nat.eq_zero_or_pos l.length with h0 | hp
    · exact List.eq_nil_of_length_eq_zero h0
    · obtain ⟨ad, e0, _⟩ := hr.2.2 hp
      cases e0
  subst hl
  clear hr hlim
  go_enter Try.func102, Try.ntmps102
  go_wp2
  go_ret
  exact ⟨_, by first | rfl | (simp; done), Kd.R_nil _ _ _ _ _, zw0 HB.out⟩
 | some ad =>
  clear hr hlim
  go_enter Try.func102, Try.ntmps102
  go_wp2_with (first | ((with_reducible refine gate_dst (N := 5) rfl ?_); refine row0_event k74 (by rfl) 74 ?hr ?_; (case hr => first | (go_simp; done) | (go_simp; rfl)); rintro v w1 ⟨Av, cv, rfl⟩ hv hb; have HV := Aside0.mk hv; have HB1 := Aside0.mk hb; clear hv hb) | ((with_reducible refine gate_builtin (b := .append) (xs := #[.tmp 5, .tmp 6]) rfl ?_); at_builtin; refine Kd.R_append_rows k74 (w0 := w) w.heap.size rfl (.tmp 5) (.tmp 6) 72 74 (.agg #[(.int .i64 0), (.int .i64 0), (.int .i64 0), (.int .i64 0), (.int .i64 0)]) 40 rfl Try.underlying72 info74 rfl (by decide) (by omega) _ [] l (some ad) l.length c (fun _ => True) (fun _ => False) rfl rfl HV.out (Kd.C_below HR.out HB1.out) (kB_M _ _ _ _) (fun _ h_ => h_.elim) (fun _ _ => trivial) HB1.out HB1.out.size (by have := HL.out; simpa using this) ?_; intro v2 w2 ho hb hg hat; have HO := Aside0.mk ho; have HB2 := Aside0.mk hb; clear ho hb hg hat))
  go_ret
  exact ⟨_, by first | rfl | (simp; done), by have := HO.out; simpa using this, HB2.out⟩

/-! slices.Clone of rows -/
set_option maxHeartbeats 4000000 in
set_option maxRecDepth 100000 in
theorem cloneK_calls (A : Option Addr) (c : Nat) (l : List S76) (w : World) (hr : Kd.C k76 w A l.length l) (hlim : l.length * 32 ≤ 140737488355328) :
  Calls Try.prog 101 #[.slice A l.length c] w fun e w' => ∃ (v : Value) (rows : List (List Value)), e = .returned v ∧ rows.length = l.length ∧ Kd.R (Kd.raw 2) 76 w' w.heap.size (fun _ => True) v rows ∧ (∀ (j : Nat) (x : S76) (cs : List Value), l[j]? = some x → rows[j]? = some cs → k76.K w x cs) ∧ Below w.heap.size w w' := by
 obtain ⟨news, hnl, hnr, hnf⟩ := Kd.reads_raw (sz := 2) hr (fun x c hk => ⟨k76.K_len hk, k76.K_one hk⟩)
 have HF := Aside0.mk hnf
 have HN := Aside0.mk hnl
 have HR := Aside0.mk (show Kd.C (Kd.raw 2) w A l.length news from hnr)
 have q57 : ∀ (w : World) (a : Option Addr) (n c n' c' : Nat), (binOp .eql 57 (.slice a n c) (.slice none n' c')).run Try.prog w = .ok (.bool a.isNone) w := fun w a n c n' c' => Lib.run_eql_slice_nil w _ _ a n c n' c' Try.underlying57
 have HL := Aside0.mk hlim
 have HB := Aside0.mk (Below.refl w.heap.size w)
 cases A with
 | none =>
  have hl : l = [] := by
    rcases Nat.eq_zero_or_pos l.length with h0 | hp
    · exact List.eq_nil_of_length_eq_zero h0
    · obtain ⟨ad, e0, _⟩ := hr.2.2 hp
      cases e0
  have hn : news = [] := by
    rw [hl] at hnl
    exact List.eq_nil_of_length_eq_zero hnl
  subst hl
  subst hn
  clear hr hlim hnl hnr hnf
  go_enter Try.func101, Try.ntmps101
  go_wp2
  go_ret
  exact ⟨_, [], by first | rfl | (simp; done), rfl, Kd.R_nil _ _ _ _ _, HF.out, zw0 HB.out⟩
 | some ad =>
  clear hr hlim hnl hnr hnf
  go_enter Try.func101, Try.ntmps101
  go_wp2_with (first | ((with_reducible refine gate_dst (N := 5) rfl ?_); refine row0_event (Kd.raw 2) (by rfl) 76 ?hr ?_; (case hr => first | (go_simp; done) | (go_simp; rfl)); rintro v w1 ⟨Av, cv, rfl⟩ hv hb; have HV := Aside0.mk hv; have HB1 := Aside0.mk hb; clear hv hb) | ((with_reducible refine gate_builtin (b := .append) (xs := #[.tmp 5, .tmp 6]) rfl ?_); at_builtin; refine Kd.R_append_rows (Kd.raw 2) (w0 := w) w.heap.size rfl (.tmp 5) (.tmp 6) 57 76 (.agg #[(.int .i64 0), (.slice none 0 0)]) 32 rfl Try.underlying57 info76 rfl (by decide) (by omega) _ [] news (some ad) l.length c (fun _ => True) (fun _ => False) rfl rfl HV.out (Kd.C_below HR.out HB1.out) (fun _ _ h_ => h_) (fun _ h_ => h_.elim) (fun _ _ => trivial) HB1.out HB1.out.size (by have := HL.out; simpa using this) ?_; intro v2 w2 ho hb hg hat; have HO := Aside0.mk ho; have HB2 := Aside0.mk hb; clear ho hb hg hat))
  go_ret
  exact ⟨_, news, by first | rfl | (simp; done), HN.out, by have := HO.out; simpa using this, HF.out, HB2.out⟩

/-! cellar/mem.Own -/
/-- Behind i rounds: the rows ahead of i are the call's own, and apart; the others are as they came. -/
def OwnI (w : World) (l : List S76) (i : Nat) (v : Value) (W : World) : Prop :=
  ∃ (rows : List (List Value)) (f : Nat → Nat), rows.length = l.length ∧ Kd.R (Kd.raw 2) 76 W w.heap.size (fun k => some k = v.ownBlock) v rows ∧
    ∀ (j : Nat) (x : S76) (cs : List Value), l[j]? = some x → rows[j]? = some cs →
      (j < i → ∃ u, cs = [.int .i64 x.f0, u] ∧ Kd.R k74 74 W w.heap.size (fun k => f k = j ∧ some k ≠ v.ownBlock) u x.f1) ∧ (i ≤ j → k76.K w x cs)
theorem ownI_end {w W : World} {l : List S76} {v : Value} (h : OwnI w l l.length v W) : Kd.S k76 76 W w.heap.size (fun _ => True) v l := by
  obtain ⟨rows, f, hl, ⟨_, inner, ho, hr⟩, he⟩ := h
  refine ⟨f, fun _ _ => trivial, inner, ?_, ?_, ?_⟩
  · rw [List.length_zipIdx, ← hl]
    exact ho
  · rw [List.length_zipIdx, ← hl]
    exact hr.1
  · rintro j ⟨x, q⟩ hj
    obtain ⟨hq, hx⟩ : q = j ∧ l[j]? = some x := by
      rw [List.getElem?_zipIdx] at hj
      obtain ⟨y, hy, hz⟩ := Option.map_eq_some_iff.1 hj
      simp only [Nat.zero_add, Prod.mk.injEq] at hz
      exact ⟨hz.2.symm, by rw [hy, hz.1]⟩
    subst hq
    have hlt : q < rows.length := by rw [hl]; exact (List.getElem?_eq_some_iff.1 hx).1
    have hcs := List.getElem?_eq_getElem hlt
    obtain ⟨u, hu, hR⟩ := (he q x _ hx hcs).1 (by rw [← hl]; exact hlt)
    have hM := hr.2 q _ hcs
    show k76.M W w.heap.size _ x ((inner.drop (q * 2)).take 2)
    rw [show (inner.drop (q * 2)).take 2 = [.int .i64 x.f0, u] from hM.1.trans hu]
    exact k76_mkM _ _ _ x (Kd.R_mono hR (fun k hk => ⟨⟨trivial, hk.2⟩, hk.1⟩))
theorem ownI_at {w W : World} {l : List S76} {i : Nat} {v : Value} (h : OwnI w l i v W) (hi : i < l.length) :
    ∃ (g cap : Nat) (x : S76) (A : Option Addr) (c : Nat), v = .slice (some ⟨g, 0, none⟩) l.length cap ∧ g < W.heap.size ∧ l[i]? = some x ∧ x.f1.length ≤ c ∧ Kd.C k74 w A x.f1.length x.f1 ∧
      W.cell? ⟨g, i * 2 + 1, none⟩ = some (.slice A x.f1.length c) ∧ W.frozen? ⟨g, i * 2 + 1, none⟩ = false ∧
      ∀ (W1 : World) (u : Value), Kd.R k74 74 W1 W.heap.size (fun _ => True) u x.f1 → Below W.heap.size W W1 → OwnI w l (i + 1) v (W1.setCell ⟨g, i * 2 + 1, none⟩ u) ∧ w.heap.size ≤ g := by
  obtain ⟨rows, f, hl, hR, he⟩ := h
  obtain ⟨g, cap, rfl, hbg, hgl, hcl⟩ := Kd.R_form hR (by omega)
  rw [hl] at hR ⊢
  have hx := List.getElem?_eq_getElem hi
  have hlt : i < rows.length := by omega
  have hcs := List.getElem?_eq_getElem hlt
  have hK := (he i _ _ hx hcs).2 (Nat.le_refl _)
  obtain ⟨A, c, hcc0, hlc, hC⟩ := k76_open hK
  obtain ⟨c1, hc1l, hc1M, hc1c, hc1f⟩ := Kd.R_elem hR [] (i : Int) (by omega) (by omega)
  have hc1e : c1 = [.int .i64 (l[i]).f0, .slice A (l[i]).f1.length c] := by
    rw [hc1M.1, Int.toNat_natCast, List.getD_eq_getElem?_getD, hcs]
    exact hcc0
  have hne : ∀ k, W.heap.size ≤ k → k ≠ g := fun k hk e => by omega
  refine ⟨g, cap, l[i], A, c, rfl, hgl, hx, hlc, hC, ?_, ?_, fun W1 u hu hb => ⟨?_, hbg⟩⟩
  · have := hc1c 1 (.slice A (l[i]).f1.length c) (by rw [hc1e]; rfl)
    rwa [Int.toNat_natCast] at this
  · have := hc1f 1
    rwa [Int.toNat_natCast] at this
  have hR1 := Kd.R_below hR hb
  have hcell : ∀ (j : Nat) (u : Value), c1[j]? = some u → W1.cell? ⟨g, (i : Int).toNat * 2 + j, none⟩ = some u := fun j u hj => (hb.cell (p := ⟨g, (i : Int).toNat * 2 + j, none⟩) hgl).trans (hc1c j u hj)
  obtain ⟨_, hu1⟩ := Kd.R_val hu
  have hW := (Kd.R_seg hR1 (i : Int) (by omega) (by omega) (c := c1) (seg := [u]) (j := 1) hc1l hcell (show 1 + 1 ≤ 2 from by decide) (okp := fun _ => False) (x' := [.int .i64 (l[i]).f0, u])
    (by rw [hc1e]; exact ⟨rfl, rfl, fun z hz => by
      rcases List.mem_cons.1 hz with rfl | hz
      · rfl
      · rcases List.mem_cons.1 hz with rfl | hz
        · exact hu1
        · cases hz⟩) (fun _ h_ => h_.elim)).1
  rw [Int.toNat_natCast] at hW
  refine ⟨rows.set i [.int .i64 (l[i]).f0, u], fun k => if W.heap.size ≤ k then i else f k, by rw [List.length_set, hl], hW, fun j x cs hjx hjc => ⟨fun hj => ?_, fun hj => ?_⟩⟩
  · rcases Nat.lt_or_ge j i with hji | hji
    · rw [List.getElem?_set_ne (by omega)] at hjc
      obtain ⟨u', rfl, hR'⟩ := (he j x cs hjx hjc).1 hji
      refine ⟨u', rfl, ?_⟩
      have h1 := Kd.R_bound hR'
      have h2 := Kd.R_step (w1 := W1.setCell ⟨g, i * 2 + 1, none⟩ u) h1 (fun k hk _ => (Below.heap_setCell W1 ⟨g, i * 2 + 1, none⟩ u k (by intro e_; exact hk.1.2 (by rw [e_]; rfl))).trans (hb.block k hk.2.2.1))
      exact Kd.R_mono h2 (fun k hk => ⟨by have := hk.2.2.1; show (if W.heap.size ≤ k then i else f k) = j; rw [if_neg (by omega)]; exact hk.1.1, hk.1.2⟩)
    · obtain rfl : j = i := by omega
      rw [List.getElem?_set_self hlt] at hjc
      injection hjc with hjc
      subst hjc
      obtain rfl : x = l[j] := by rw [hx] at hjx; injection hjx with hjx; exact hjx.symm
      refine ⟨u, rfl, ?_⟩
      have h1 := Kd.R_bound hu
      have h2 := Kd.R_far h1 (p := ⟨g, j * 2 + 1, none⟩) (fun k hk => hne k hk.2.1) u
      exact Kd.R_mono (Kd.R_lower h2 (by have := Kd.R_base hR; have h3 : w.heap.size ≤ W.heap.size := by omega
                                         exact h3)) (fun k hk => ⟨by show (if W.heap.size ≤ k then j else f k) = j; rw [if_pos hk.2.1], by intro e_; exact hne k hk.2.1 (by simpa [Value.ownBlock] using e_)⟩)
  · rw [List.getElem?_set_ne (by omega)] at hjc
    exact (he j x cs hjx hjc).2 (by omega)
set_option maxHeartbeats 4000000 in
set_option maxRecDepth 100000 in
theorem own_calls (A0 : Option Addr) (c0 : Nat) (l : List S76) (w : World) (hr0 : Kd.C k76 w A0 l.length l) (hlim : l.length * 32 ≤ 140737488355328) (hlimB : ∀ x ∈ l, x.f1.length * 40 ≤ 140737488355328) :
  Calls Try.prog 68 #[.slice A0 l.length c0] w fun e w' => ∃ v, e = .returned v ∧ Kd.S k76 76 w' w.heap.size (fun _ => True) v l ∧ Below w.heap.size w w' := by
 have hu76 := Try.underlying76
 have hbig := hr0.2.1
 have HLB := Aside0.mk hlimB
 have HC := Aside0.mk (cloneK_calls A0 c0 l w hr0 hlim)
 clear hr0 hlim hlimB
 go_enter Try.func68, Try.ntmps68
 go_upto_region 2 with (go_at_call 101; refine HC.out.mono ?_; rintro e w1 ⟨v, rows, rfl, hrl, hR, hF, hb⟩; obtain ⟨A1, c1, rfl⟩ := Kd.R_slice hR; rw [hrl] at hR; have HI := Aside0.mk (show OwnI w l 0 _ w1 from ⟨rows, fun _ => 0, hrl, Kd.R_tight rfl hR, fun j x cs hx hc => ⟨fun h_ => absurd h_ (Nat.not_lt_zero _), fun _ => hF j x cs hx hc⟩⟩); have HB := Aside0.mk hb; rw [hrl]; clear hR hF hb hrl HC)
 go_wp2
 go_loopg [3, 8] l.length (fun gg _ s8 wr => ∃ kk : Nat, kk ≤ l.length ∧ l.length - kk ≤ gg ∧ s8 = .int .i64 kk ∧ Aside0 (Below w.heap.size w wr) ∧ Aside0 (OwnI w l kk (.slice A1 l.length c1) wr))
 case atStart => exact ⟨0, Nat.zero_le _, by omega, rfl, HB, HI⟩
 case round =>
  obtain ⟨kk, hkk, hg, rfl, BW, HI2⟩ := hrel
  clear HI HB
  by_cases hlt : kk < l.length
  · have hltz : (kk : Int) < (l.length : Int) := by omega
    obtain ⟨g, cap, x, A, c, hv, hgl, hx, hlc, hC, hcell, hfroz, hnext⟩ := ownI_at HI2.out hlt
    injection hv with hv1 _ hv2
    subst hv1
    subst hv2
    have HN := Aside0.mk hnext
    have HCB := Aside0.mk (Kd.C_below hC BW.out)
    have HX := Aside0.mk (HLB.out x (List.mem_of_getElem? hx))
    have HGL := Aside0.mk hgl
    have HCE := Aside0.mk hcell
    have HFR := Aside0.mk hfroz
    clear hnext hC hx hlc hgl HI2
    go_wp2_with (go_at_call 102; refine (cloneB_calls A c x.f1 _ HCB.out HX.out).mono ?_; rintro e w' ⟨u, rfl, hu, hb⟩; have hcell2 : w'.cell? ⟨g, kk * 2 + 1, none⟩ = some (.slice A x.f1.length c) := (hb.cell (p := ⟨g, kk * 2 + 1, none⟩) HGL.out).trans HCE.out; have hfroz2 : w'.frozen? ⟨g, kk * 2 + 1, none⟩ = false := (by have h_ := HFR.out; simp only [World.frozen?] at h_ ⊢; rw [hb.block g HGL.out]; exact h_); obtain ⟨Au, cu, rfl⟩ := Kd.R_slice hu; obtain ⟨hn1, hn2⟩ := HN.out w' _ hu hb; have HI3 := Aside0.mk hn1; have HB3 := Aside0.mk (below_set (j := kk * 2 + 1) (v := .slice Au x.f1.length cu) (below_step BW.out hb) hn2); clear hu hb hn1 hn2)
    go_roundg (l.length - (kk + 1))
    case measure => omega
    case rel => exact ⟨kk + 1, by omega, by omega, by go_num, HB3, HI3⟩
  · have hltz : ¬ (kk : Int) < (l.length : Int) := by omega
    obtain rfl : kk = l.length := by omega
    have HS := Aside0.mk (ownI_end HI2.out)
    clear HI2
    go_wp2
    go_ret
    exact ⟨_, by first | rfl | (simp; done), HS.out, BW.out⟩

end Go.Proofs.Ytjoplkillkhiaaa.St
