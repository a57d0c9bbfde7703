-- Written by this session's own edition of the print.
import Derived.Test.YthhdmanpjeminaaHx0
import Derived.Test.YthhdmanpjeminaaHx2
import Derived.Test.YthhdmanpjeminaaSq
import Derived.Test.YthhdmanpjeminaaSq2
namespace Go.Proofs.Ythhdmanpjeminaa.H
open Go.RowKit Go.Proofs.Ythhdmanpjeminaa.Fn Go.Proofs.YthhdmanpjeminaaW.PrintWords Go.Proofs.YthhdmanpjeminaaW.PrintLast Go.Proofs.YthhdmanpjeminaaW.PrintMore
attribute [local go_sem] max2_int min2_int max_two min_two max_three min_three max_four min_four   -- for this text's walks alone
set_option linter.unusedVariables false
set_option linter.unusedSimpArgs false

attribute [local go_sem high] eqA51
/-! bytes_pointer -/
mutual
def bytes_pointer.l0 : Nat → List (S51) → Int → Int → Bool → Int → Int → Int → Option (Bool × Int × Int × Int × Int)
 | 0, _, _, _, _, _, _, _ => none
 | k + 1, x17, x18, x19, x194000, x194001, x194002, x194003 => if x19 < x18 then (if 0 ≤ x19 then (if x19 < (x17.length : Int) then (if x194002 > 0 then (bytes_pointer.j1 k x17 x18 x19 x194000 x194001 x194002 x194003 ((rd_T51 x17 x19).f0) ((rd_T51 x17 x19).f1) ((rd_T51 x17 x19).f2) ((rd_T51 x17 x19).f3) ((rd_T51 x17 x19).f4) 2 0 x194002 x194003 x19) else (bytes_pointer.j1 k x17 x18 x19 x194000 x194001 x194002 x194003 ((rd_T51 x17 x19).f0) ((rd_T51 x17 x19).f1) ((rd_T51 x17 x19).f2) ((rd_T51 x17 x19).f3) ((rd_T51 x17 x19).f4) 1 0 0 0 0)) else (none)) else (none)) else (some (x194000, x194001, x194002, x194003, 0))
def bytes_pointer.j1 : Nat → List (S51) → Int → Int → Bool → Int → Int → Int → Int → Int → Int → Int → Int → Int → Int → Int → Int → Int → Option (Bool × Int × Int × Int × Int)
 | 0, _, _, _, _, _, _, _, _, _, _, _, _, _, _, _, _, _ => none
 | k + 1, x17, x18, x19, x194000, x194001, x194002, x194003, x196000, x196001, x196002, x196003, x196004, x197000, x197001, x197002, x197003, x197004 => if (!(x196000 == x197000) || (!(x196001 == x197001) || (!(x196002 == x197002) || (!(x196003 == x197003) || (!(x196004 == x197004)))))) = true then (some (false, 0, 0, 0, 8)) else (bytes_pointer.l0 k x17 x18 (wrap64 (x19 + 1)) x194000 x194001 x194002 x194003)
end
def bytes_pointer.f (k : Nat) (l0 : List (S51)) : Option (Bool × Int × Int × Int × Int) := if 0 < (l0.length : Int) then (bytes_pointer.l0 k l0 (l0.length : Int) 0 true 0 ((rd_T51 l0 0).f2) ((rd_T51 l0 0).f3)) else (none)
theorem bytes_pointer.mono_l : ∀ k, (∀ y0 y1 y2 y3 y4 y5 y6, LeO (bytes_pointer.l0 k y0 y1 y2 y3 y4 y5 y6) (bytes_pointer.l0 (k + 1) y0 y1 y2 y3 y4 y5 y6)) ∧ (∀ y0 y1 y2 y3 y4 y5 y6 y7 y8 y9 y10 y11 y12 y13 y14 y15 y16, LeO (bytes_pointer.j1 k y0 y1 y2 y3 y4 y5 y6 y7 y8 y9 y10 y11 y12 y13 y14 y15 y16) (bytes_pointer.j1 (k + 1) y0 y1 y2 y3 y4 y5 y6 y7 y8 y9 y10 y11 y12 y13 y14 y15 y16))
 | 0 => ⟨fun _ _ _ _ _ _ _ r h => by simp [bytes_pointer.l0] at h, fun _ _ _ _ _ _ _ _ _ _ _ _ _ _ _ _ _ r h => by simp [bytes_pointer.j1] at h⟩
 | k + 1 => by
  obtain ⟨ih0, ih1⟩ := bytes_pointer.mono_l k
  refine ⟨?_, ?_⟩
  ·intro y0 y1 y2 y3 y4 y5 y6
   unfold bytes_pointer.l0
   repeat' first
   | (with_reducible apply ih0)
   | (with_reducible apply ih1)
   | (with_reducible apply LeO.refl)
   | (with_reducible apply LeO.none)
   | (with_reducible refine LeO.ite ?_ ?_)
   | (with_reducible refine LeO.bind ?_ (fun _ => ?_))
  ·intro y0 y1 y2 y3 y4 y5 y6 y7 y8 y9 y10 y11 y12 y13 y14 y15 y16
   unfold bytes_pointer.j1
   repeat' first
   | (with_reducible apply ih0)
   | (with_reducible apply ih1)
   | (with_reducible apply LeO.refl)
   | (with_reducible apply LeO.none)
   | (with_reducible refine LeO.ite ?_ ?_)
   | (with_reducible refine LeO.bind ?_ (fun _ => ?_))
theorem bytes_pointer.mono : ∀ a0 k, LeO (bytes_pointer.f k a0) (bytes_pointer.f (k + 1) a0) := by
 intro a0 k
 obtain ⟨ih0, ih1⟩ := bytes_pointer.mono_l k
 unfold bytes_pointer.f
 repeat' first
   | (with_reducible apply ih0)
   | (with_reducible apply ih1)
   | (with_reducible apply LeO.refl)
   | (with_reducible apply LeO.none)
   | (with_reducible refine LeO.ite ?_ ?_)
   | (with_reducible refine LeO.bind ?_ (fun _ => ?_))
def bytes_pointer.T1 : Bool × List (List Nat × List Nat) := (true, [([], []), ([0], [0]), ([1], [1]), ([2], [2]), ([], []), ([4], [4]), ([5], [5]), ([6], [6]), ([3, 7], [3, 7]), ([], []), ([9, 8, 0, 1, 2, 3, 4, 5, 6, 7, 8, 9], [8, 9])])
def bytes_pointer.B1 : List Nat := [0, 1, 3, 7, 0, 16, 48, 112, 255, 0, 1023]
theorem bytes_pointer.tab1 : rtab .any (opsOf Try.f52 1) = bytes_pointer.T1 := by kernel_rfl
theorem bytes_pointer.bits1 : waitsOk bytes_pointer.T1.2 bytes_pointer.B1 = true := by kernel_rfl
set_option maxHeartbeats 8000000 in
set_option maxRecDepth 100000 in
theorem bytes_pointer.calls (k : Nat) (A0 : Option Addr) (c0 : Nat) (l0 : List (S51)) (r1 : Bool) (r2 : Int) (r3 : Int) (r4 : Int) (r5 : Int) (w : World) (hr0 : Kd.C k51 w A0 l0.length l0) (hc0 : l0.length ≤ c0) (h : bytes_pointer.f k l0 = some (r1, r2, r3, r4, r5)) :
  Calls Try.prog 52 #[.slice A0 l0.length c0] w fun e w' => e = .returned (.tuple #[.agg #[.bool r1, .int .i64 r2, .int .i64 r3, .int .i64 r4], .int .i64 r5]) ∧ Below w.heap.size w w' := by
 have hu33 := Try.underlying33
 have hu51 := Try.underlying51
 have HR0 := Aside0.mk hr0
 have HC0 := Aside0.mk hc0
 clear hr0 hc0
 have HB := Aside0.mk (Below.refl w.heap.size w)
 have H : (if 0 < (l0.length : Int) then (bytes_pointer.l0 k l0 (l0.length : Int) 0 true 0 ((rd_T51 l0 0).f2) ((rd_T51 l0 0).f3)) else (none)) = some (r1, r2, r3, r4, r5) := h
 clear h
 by_cases c2 : 0 < (l0.length : Int)
 ·rw [if_pos c2] at H
  have c2b0 : decide (0 < (l0.length : Int)) = true := decide_eq_true c2
  have c2b1 : decide (0 < l0.length) = true := decide_eq_true (by omega)
  clear c2
  have H' := Aside0.mk H
  clear H
  go_enter Try.func52, Try.ntmps52
  try go_wp2_with (first | ((with_reducible refine gate_dst (N := 2) rfl ?_); refine zbox (N := 2) (cs := #[.bool false, .int .i64 0, .int .i64 0, .int .i64 0]) (t := 33) ?_; intro gb190 hg w3 hbox hb; have n0_ := Aside0.mk (below_step (zw0 HB.out) hb); have BK190 := Aside0.mk (hbox); have GW190 := Aside0.mk (zg hg (below_size (zw0 HB.out))); have GE190 := GW190; clear HB; have HB := n0_; clear n0_; clear hb hbox hg))
  have n0_ := Aside0.mk (blk_drew BK190.out)
  have n1_ := Aside0.mk (below_drew1 HB.out)
  clear BK190
  clear HB
  have BK190 := n0_
  have HB := n1_
  clear n0_ n1_
  have p191 : 0 ≤ (0 : Int) := (by omega)
  have q191 : 0 < (l0.length : Int) := zdec
  obtain ⟨ad191, e191, hx191_0, hx191_1, hx191_2, hx191_3, hx191_4⟩ := at_T51 HR0.out 0 p191 q191
  have hw191_4 := hx191_4
  (try rw [show ((0 : Int)).toNat = 0 from rfl] at hw191_4)
  (try rw [show 0 * 5 = 0 from rfl] at hw191_4)
  (try rw [Addr.add_zero'] at hw191_4)
  have hw191_3 := hx191_3
  (try rw [show ((0 : Int)).toNat = 0 from rfl] at hw191_3)
  (try rw [show 0 * 5 = 0 from rfl] at hw191_3)
  (try rw [Addr.add_zero'] at hw191_3)
  have hw191_2 := hx191_2
  (try rw [show ((0 : Int)).toNat = 0 from rfl] at hw191_2)
  (try rw [show 0 * 5 = 0 from rfl] at hw191_2)
  (try rw [Addr.add_zero'] at hw191_2)
  have hw191_1 := hx191_1
  (try rw [show ((0 : Int)).toNat = 0 from rfl] at hw191_1)
  (try rw [show 0 * 5 = 0 from rfl] at hw191_1)
  (try rw [Addr.add_zero'] at hw191_1)
  have hw191_0 := hx191_0
  (try rw [show ((0 : Int)).toNat = 0 from rfl] at hw191_0)
  (try rw [show 0 * 5 = 0 from rfl] at hw191_0)
  (try rw [Addr.add_zero'] at hw191_0)
  cases e191
  have qi191 : (0 < l0.length) = True := eq_true (by omega)
  (try rw [show ((0 : Int)).toNat = 0 from rfl] at hx191_0)
  (try rw [show 0 * 5 = 0 from rfl] at hx191_0)
  (try rw [Addr.add_zero'] at hx191_0)
  (try rw [show ((0 : Int)).toNat = 0 from rfl] at hx191_1)
  (try rw [show 0 * 5 = 0 from rfl] at hx191_1)
  (try rw [Addr.add_zero'] at hx191_1)
  (try rw [show ((0 : Int)).toNat = 0 from rfl] at hx191_2)
  (try rw [show 0 * 5 = 0 from rfl] at hx191_2)
  (try rw [Addr.add_zero'] at hx191_2)
  (try rw [show ((0 : Int)).toNat = 0 from rfl] at hx191_3)
  (try rw [show 0 * 5 = 0 from rfl] at hx191_3)
  (try rw [Addr.add_zero'] at hx191_3)
  (try rw [show ((0 : Int)).toNat = 0 from rfl] at hx191_4)
  (try rw [show 0 * 5 = 0 from rfl] at hx191_4)
  (try rw [Addr.add_zero'] at hx191_4)
  replace hx191_0 := zh HB.out hx191_0
  replace hx191_1 := zh HB.out hx191_1
  replace hx191_2 := zh HB.out hx191_2
  replace hx191_3 := zh HB.out hx191_3
  replace hx191_4 := zh HB.out hx191_4
  replace p191 := eq_true p191
  replace q191 := eq_true q191
  have p192 : 0 ≤ (0 : Int) := (by omega)
  have q192 : 0 < (l0.length : Int) := zdec
  obtain ⟨ad192, e192, hx192_0, hx192_1, hx192_2, hx192_3, hx192_4⟩ := at_T51 HR0.out 0 p192 q192
  have hw192_4 := hx192_4
  (try rw [show ((0 : Int)).toNat = 0 from rfl] at hw192_4)
  (try rw [show 0 * 5 = 0 from rfl] at hw192_4)
  (try rw [Addr.add_zero'] at hw192_4)
  have hw192_3 := hx192_3
  (try rw [show ((0 : Int)).toNat = 0 from rfl] at hw192_3)
  (try rw [show 0 * 5 = 0 from rfl] at hw192_3)
  (try rw [Addr.add_zero'] at hw192_3)
  have hw192_2 := hx192_2
  (try rw [show ((0 : Int)).toNat = 0 from rfl] at hw192_2)
  (try rw [show 0 * 5 = 0 from rfl] at hw192_2)
  (try rw [Addr.add_zero'] at hw192_2)
  have hw192_1 := hx192_1
  (try rw [show ((0 : Int)).toNat = 0 from rfl] at hw192_1)
  (try rw [show 0 * 5 = 0 from rfl] at hw192_1)
  (try rw [Addr.add_zero'] at hw192_1)
  have hw192_0 := hx192_0
  (try rw [show ((0 : Int)).toNat = 0 from rfl] at hw192_0)
  (try rw [show 0 * 5 = 0 from rfl] at hw192_0)
  (try rw [Addr.add_zero'] at hw192_0)
  obtain rfl : ad191 = ad192 := (by injection e192)
  have qi192 : (0 < l0.length) = True := eq_true (by omega)
  (try rw [show ((0 : Int)).toNat = 0 from rfl] at hx192_0)
  (try rw [show 0 * 5 = 0 from rfl] at hx192_0)
  (try rw [Addr.add_zero'] at hx192_0)
  (try rw [show ((0 : Int)).toNat = 0 from rfl] at hx192_1)
  (try rw [show 0 * 5 = 0 from rfl] at hx192_1)
  (try rw [Addr.add_zero'] at hx192_1)
  (try rw [show ((0 : Int)).toNat = 0 from rfl] at hx192_2)
  (try rw [show 0 * 5 = 0 from rfl] at hx192_2)
  (try rw [Addr.add_zero'] at hx192_2)
  (try rw [show ((0 : Int)).toNat = 0 from rfl] at hx192_3)
  (try rw [show 0 * 5 = 0 from rfl] at hx192_3)
  (try rw [Addr.add_zero'] at hx192_3)
  (try rw [show ((0 : Int)).toNat = 0 from rfl] at hx192_4)
  (try rw [show 0 * 5 = 0 from rfl] at hx192_4)
  (try rw [Addr.add_zero'] at hx192_4)
  replace hx192_0 := zh HB.out hx192_0
  replace hx192_1 := zh HB.out hx192_1
  replace hx192_2 := zh HB.out hx192_2
  replace hx192_3 := zh HB.out hx192_3
  replace hx192_4 := zh HB.out hx192_4
  replace p192 := eq_true p192
  replace q192 := eq_true q192
  refine start_ (n := 11) (S := fun w' => w'.cell? ad191 = some (.int .i64 ((rd_T51 l0 0).f0)) ∧ w'.cell? ⟨ad191.block, ad191.off + 1, none⟩ = some (.int .i64 ((rd_T51 l0 0).f1)) ∧ w'.cell? ⟨ad191.block, ad191.off + 2, none⟩ = some (.int .i64 ((rd_T51 l0 0).f2)) ∧ w'.cell? ⟨ad191.block, ad191.off + 3, none⟩ = some (.int .i64 ((rd_T51 l0 0).f3)) ∧ w'.cell? ⟨ad191.block, ad191.off + 4, none⟩ = some (.int .i64 ((rd_T51 l0 0).f4)) ∧ w'.cell? ad191 = some (.int .i64 ((rd_T51 l0 0).f0)) ∧ w'.cell? ⟨ad191.block, ad191.off + 1, none⟩ = some (.int .i64 ((rd_T51 l0 0).f1)) ∧ w'.cell? ⟨ad191.block, ad191.off + 2, none⟩ = some (.int .i64 ((rd_T51 l0 0).f2)) ∧ w'.cell? ⟨ad191.block, ad191.off + 3, none⟩ = some (.int .i64 ((rd_T51 l0 0).f3)) ∧ w'.cell? ⟨ad191.block, ad191.off + 4, none⟩ = some (.int .i64 ((rd_T51 l0 0).f4))) (ds := []) #[false,false,false,false,false,false,false,false,false,false,false] (by kernel_rfl) rfl rfl ⟨((HB.out.cell (World.block_lt_of_cell? w _ hw191_0)).trans hw191_0), ((HB.out.cell (World.block_lt_of_cell? w _ hw191_1)).trans hw191_1), ((HB.out.cell (World.block_lt_of_cell? w _ hw191_2)).trans hw191_2), ((HB.out.cell (World.block_lt_of_cell? w _ hw191_3)).trans hw191_3), ((HB.out.cell (World.block_lt_of_cell? w _ hw191_4)).trans hw191_4), ((HB.out.cell (World.block_lt_of_cell? w _ hw192_0)).trans hw192_0), ((HB.out.cell (World.block_lt_of_cell? w _ hw192_1)).trans hw192_1), ((HB.out.cell (World.block_lt_of_cell? w _ hw192_2)).trans hw192_2), ((HB.out.cell (World.block_lt_of_cell? w _ hw192_3)).trans hw192_3), ((HB.out.cell (World.block_lt_of_cell? w _ hw192_4)).trans hw192_4)⟩ (fun hHeld => ?_); refine with_tabW bytes_pointer.tab1 bytes_pointer.bits1 (fun HT_ HW_ => ?_)
  generalize w3.drew = w4 at BK190 HB hx191_0 hx191_1 hx191_2 hx191_3 hx191_4 hx192_0 hx192_1 hx192_2 hx192_3 hx192_4 hHeld ⊢
  refine zp (i := 0) (N := some 8) #[true,false,false,false,false,false,false,false,false,false,false] (any_of HT_.out (by kernel_rfl)) ?_
  refine zp (i := 1) (N := some 9) #[true,true,false,false,false,false,false,false,false,false,false] (any_of HT_.out (by kernel_rfl)) ?_
  refine zp (i := 2) (N := some 10) #[true,true,true,false,false,false,false,false,false,false,false] (any_of HT_.out (by kernel_rfl)) ?_
  refine zp (i := 4) (N := some 12) #[true,true,true,false,true,false,false,false,false,false,false] (any_of HT_.out (by kernel_rfl)) ?_
  refine zp (i := 5) (N := some 13) #[true,true,true,false,true,true,false,false,false,false,false] (any_of HT_.out (by kernel_rfl)) ?_
  refine zp (i := 6) (N := some 14) #[true,true,true,false,true,true,true,false,false,false,false] (any_of HT_.out (by kernel_rfl)) ?_
  refine take_ (i := 3) (N := some 11) (v := ?_) (a' := ?_) #[true,true,true,true,true,true,true,false,false,false,false] rfl rfl (take_ofW HT_.out HW_.out (by kernel_rfl)) (fun _ _ _ h => h) (Or.inl ⟨by rfl, ?_⟩) hHeld ?_ ?_
  rotate_left
  ·rintro w' ⟨s0, s1, s2, s3, s4, s5, s6, s7, s8, s9⟩
   go_simp
   with_reducible rfl
  rotate_left
  ·simp only [Act.put, List.setIfInBounds_toArray, List.set_cons_zero, List.set_cons_succ, i64_w, i32_w]
   rfl
  refine take_ (i := 7) (N := some 15) (v := ?_) (a' := ?_) #[true,true,true,true,true,true,true,true,false,false,false] rfl rfl (take_ofW HT_.out HW_.out (by kernel_rfl)) (fun _ _ _ h => h) (Or.inl ⟨by rfl, ?_⟩) hHeld ?_ ?_
  rotate_left
  ·rintro w' ⟨s0, s1, s2, s3, s4, s5, s6, s7, s8, s9⟩
   go_simp
   with_reducible rfl
  rotate_left
  ·simp only [Act.put, List.setIfInBounds_toArray, List.set_cons_zero, List.set_cons_succ, i64_w, i32_w]
   rfl
  refine zp (i := 8) (N := some 16) #[true,true,true,true,true,true,true,true,true,false,false] (any_of HT_.out (by kernel_rfl)) ?_
  refine one_ (i := 9) (N := some 4) #[true,true,true,true,true,true,true,true,true,true,false] rfl rfl (one_of HT_.out (by kernel_rfl)) (by decide) (fun K hK => ?_)
  refine box_step ?hg (N := 4) ?hd (cs := #[.bool false, .int .i64 0, .int .i64 0, .int .i64 0]) (t := 33) ?hr ?_; (case hd => rfl); (case hg => rfl); (case hr => first | (go_simp; done) | (go_simp; rfl))
  intro gb193 hg w5 hbox hb
  have n0_ := Aside0.mk (zbb BK190.out hb)
  have n1_ := Aside0.mk (below_step (zw1 HB.out GE190.out) hb)
  have n2_ := Aside0.mk (hbox)
  have n3_ := Aside0.mk (zg hg (below_size (zw1 HB.out GE190.out)))
  have n4_ := Aside0.mk (zg hg (below_size (zw1 HB.out GE190.out)))
  have n5_ := Aside0.mk (zlt hg BK190.out)
  have n6_ := Aside0.mk (zgt hg BK190.out)
  clear BK190
  clear HB
  have BK190 := n0_
  have HB := n1_
  have BK193 := n2_
  have GW193 := n3_
  have GE193 := n4_
  have NB190_193 := n5_
  have NB193_190 := n6_
  clear n0_ n1_ n2_ n3_ n4_ n5_ n6_
  clear hb hbox hg
  refine hK.out _ _ ⟨((HB.out.cell (World.block_lt_of_cell? w _ hw191_0)).trans hw191_0), ((HB.out.cell (World.block_lt_of_cell? w _ hw191_1)).trans hw191_1), ((HB.out.cell (World.block_lt_of_cell? w _ hw191_2)).trans hw191_2), ((HB.out.cell (World.block_lt_of_cell? w _ hw191_3)).trans hw191_3), ((HB.out.cell (World.block_lt_of_cell? w _ hw191_4)).trans hw191_4), ((HB.out.cell (World.block_lt_of_cell? w _ hw192_0)).trans hw192_0), ((HB.out.cell (World.block_lt_of_cell? w _ hw192_1)).trans hw192_1), ((HB.out.cell (World.block_lt_of_cell? w _ hw192_2)).trans hw192_2), ((HB.out.cell (World.block_lt_of_cell? w _ hw192_3)).trans hw192_3), ((HB.out.cell (World.block_lt_of_cell? w _ hw192_4)).trans hw192_4)⟩ (fun hHeld => ?_)
  clear hK K
  refine norm_ (a' := ?_) ?_ ?_
  rotate_left
  ·show Act.put _ (some 4) _ = _
   simp only [Act.put, List.setIfInBounds_toArray, List.set_cons_zero, List.set_cons_succ, i64_w, i32_w]
   rfl
  refine one_ (i := 10) (N := none) #[true,true,true,true,true,true,true,true,true,true,true] rfl rfl (one_of HT_.out (by kernel_rfl)) (by decide) (fun K hK => ?_)
  have hs6 : w5.cell? ⟨gb193, 0, none⟩ = some (.bool false) := (blk_cell BK193.out 0).trans rfl
  have hfs6 := blk_frozen BK193.out 0
  have hns6_0 := NB190_193.out
  have hms6_0 := NB193_190.out
  have hs7 : w5.cell? ⟨gb193, 1, none⟩ = some (.int .i64 0) := (blk_cell BK193.out 1).trans rfl
  have hfs7 := blk_frozen BK193.out 1
  have hns7_0 := NB190_193.out
  have hms7_0 := NB193_190.out
  have hs8 : w5.cell? ⟨gb193, 2, none⟩ = some (.int .i64 0) := (blk_cell BK193.out 2).trans rfl
  have hfs8 := blk_frozen BK193.out 2
  have hns8_0 := NB190_193.out
  have hms8_0 := NB193_190.out
  have hs9 : w5.cell? ⟨gb193, 3, none⟩ = some (.int .i64 0) := (blk_cell BK193.out 3).trans rfl
  have hfs9 := blk_frozen BK193.out 3
  have hns9_0 := NB190_193.out
  have hms9_0 := NB193_190.out
  refine skip_ (w1 := ?_) (by rfl) rfl ?_ ?_
  rotate_left
  ·go_simp
   rfl
  refine hK.out _ _ ⟨((cell_far (p := ⟨gb193, _, none⟩) (zx (zfar hw191_0 GW193.out)) _).trans (((cell_far (p := ⟨gb193, _, none⟩) (zx (zfar hw191_0 GW193.out)) _).trans (((cell_far (p := ⟨gb193, _, none⟩) (zx (zfar hw191_0 GW193.out)) _).trans (((cell_far (p := ⟨gb193, _, none⟩) (zx (zfar hw191_0 GW193.out)) _).trans (hHeld.1)))))))), ((cell_far (p := ⟨gb193, _, none⟩) (zx (zfar hw191_1 GW193.out)) _).trans (((cell_far (p := ⟨gb193, _, none⟩) (zx (zfar hw191_1 GW193.out)) _).trans (((cell_far (p := ⟨gb193, _, none⟩) (zx (zfar hw191_1 GW193.out)) _).trans (((cell_far (p := ⟨gb193, _, none⟩) (zx (zfar hw191_1 GW193.out)) _).trans (hHeld.2.1)))))))), ((cell_far (p := ⟨gb193, _, none⟩) (zx (zfar hw191_2 GW193.out)) _).trans (((cell_far (p := ⟨gb193, _, none⟩) (zx (zfar hw191_2 GW193.out)) _).trans (((cell_far (p := ⟨gb193, _, none⟩) (zx (zfar hw191_2 GW193.out)) _).trans (((cell_far (p := ⟨gb193, _, none⟩) (zx (zfar hw191_2 GW193.out)) _).trans (hHeld.2.2.1)))))))), ((cell_far (p := ⟨gb193, _, none⟩) (zx (zfar hw191_3 GW193.out)) _).trans (((cell_far (p := ⟨gb193, _, none⟩) (zx (zfar hw191_3 GW193.out)) _).trans (((cell_far (p := ⟨gb193, _, none⟩) (zx (zfar hw191_3 GW193.out)) _).trans (((cell_far (p := ⟨gb193, _, none⟩) (zx (zfar hw191_3 GW193.out)) _).trans (hHeld.2.2.2.1)))))))), ((cell_far (p := ⟨gb193, _, none⟩) (zx (zfar hw191_4 GW193.out)) _).trans (((cell_far (p := ⟨gb193, _, none⟩) (zx (zfar hw191_4 GW193.out)) _).trans (((cell_far (p := ⟨gb193, _, none⟩) (zx (zfar hw191_4 GW193.out)) _).trans (((cell_far (p := ⟨gb193, _, none⟩) (zx (zfar hw191_4 GW193.out)) _).trans (hHeld.2.2.2.2.1)))))))), ((cell_far (p := ⟨gb193, _, none⟩) (zx (zfar hw192_0 GW193.out)) _).trans (((cell_far (p := ⟨gb193, _, none⟩) (zx (zfar hw192_0 GW193.out)) _).trans (((cell_far (p := ⟨gb193, _, none⟩) (zx (zfar hw192_0 GW193.out)) _).trans (((cell_far (p := ⟨gb193, _, none⟩) (zx (zfar hw192_0 GW193.out)) _).trans (hHeld.2.2.2.2.2.1)))))))), ((cell_far (p := ⟨gb193, _, none⟩) (zx (zfar hw192_1 GW193.out)) _).trans (((cell_far (p := ⟨gb193, _, none⟩) (zx (zfar hw192_1 GW193.out)) _).trans (((cell_far (p := ⟨gb193, _, none⟩) (zx (zfar hw192_1 GW193.out)) _).trans (((cell_far (p := ⟨gb193, _, none⟩) (zx (zfar hw192_1 GW193.out)) _).trans (hHeld.2.2.2.2.2.2.1)))))))), ((cell_far (p := ⟨gb193, _, none⟩) (zx (zfar hw192_2 GW193.out)) _).trans (((cell_far (p := ⟨gb193, _, none⟩) (zx (zfar hw192_2 GW193.out)) _).trans (((cell_far (p := ⟨gb193, _, none⟩) (zx (zfar hw192_2 GW193.out)) _).trans (((cell_far (p := ⟨gb193, _, none⟩) (zx (zfar hw192_2 GW193.out)) _).trans (hHeld.2.2.2.2.2.2.2.1)))))))), ((cell_far (p := ⟨gb193, _, none⟩) (zx (zfar hw192_3 GW193.out)) _).trans (((cell_far (p := ⟨gb193, _, none⟩) (zx (zfar hw192_3 GW193.out)) _).trans (((cell_far (p := ⟨gb193, _, none⟩) (zx (zfar hw192_3 GW193.out)) _).trans (((cell_far (p := ⟨gb193, _, none⟩) (zx (zfar hw192_3 GW193.out)) _).trans (hHeld.2.2.2.2.2.2.2.2.1)))))))), ((cell_far (p := ⟨gb193, _, none⟩) (zx (zfar hw192_4 GW193.out)) _).trans (((cell_far (p := ⟨gb193, _, none⟩) (zx (zfar hw192_4 GW193.out)) _).trans (((cell_far (p := ⟨gb193, _, none⟩) (zx (zfar hw192_4 GW193.out)) _).trans (((cell_far (p := ⟨gb193, _, none⟩) (zx (zfar hw192_4 GW193.out)) _).trans (hHeld.2.2.2.2.2.2.2.2.2))))))))⟩ (fun hHeld => ?_)
  clear hK K
  refine done_ (done_of HT_.out (by kernel_rfl)) ?_
  try go_wp2
  go_loopg [19] k (fun kq v19 w' => ∃ (x19_1 : Int) (x191000_1 : Bool) (x191001_1 : Int) (x191002_1 : Int) (x191003_1 : Int), v19 = .int .i64 x19_1 ∧ Aside0 (bytes_pointer.l0 kq l0 (l0.length : Int) x19_1 true 0 ((rd_T51 l0 0).f2) ((rd_T51 l0 0).f3) = some (r1, r2, r3, r4, r5)) ∧ Aside0 (kq ≤ k) ∧ Aside0 (w'.heap[gb190]? = some (.cells #[.bool x191000_1, .int .i64 x191001_1, .int .i64 x191002_1, .int .i64 x191003_1] 33 (0, 0))) ∧ Aside0 (w'.heap[gb193]? = some (.cells #[.bool true, .int .i64 0, .int .i64 ((rd_T51 l0 0).f2), .int .i64 ((rd_T51 l0 0).f3)] 33 (0, 0))) ∧ Aside0 (Below w.heap.size w w'))
  case atStart => exact ⟨(0), (false), (0), (0), (0), (zr), H', ⟨Nat.le_refl _⟩, ⟨zf1 BK190.out NB190_193.out⟩, ⟨by (with_reducible repeat (first | refine blk_drewN ?_ _ | refine blk_drew ?_ | refine blk_alloc ?_ _)); refine blk_put (cs := #[.bool true, .int .i64 0, .int .i64 ((rd_T51 l0 0).f2), .int .i64 0]) ?_ 3 _ rfl; (with_reducible repeat (first | refine blk_drewN ?_ _ | refine blk_drew ?_ | refine blk_alloc ?_ _)); refine blk_put (cs := #[.bool true, .int .i64 0, .int .i64 0, .int .i64 0]) ?_ 2 _ rfl; (with_reducible repeat (first | refine blk_drewN ?_ _ | refine blk_drew ?_ | refine blk_alloc ?_ _)); refine blk_put (cs := #[.bool true, .int .i64 0, .int .i64 0, .int .i64 0]) ?_ 1 _ rfl; (with_reducible repeat (first | refine blk_drewN ?_ _ | refine blk_drew ?_ | refine blk_alloc ?_ _)); refine blk_put (cs := #[.bool false, .int .i64 0, .int .i64 0, .int .i64 0]) ?_ 0 _ rfl; (with_reducible repeat (first | refine blk_drewN ?_ _ | refine blk_drew ?_ | refine blk_alloc ?_ _)); exact BK193.out⟩, ⟨zw2 HB.out GE190.out GE193.out⟩⟩
  case round =>
   clear H'
   try clear p1; try clear q1; try clear qi1; try clear c2; try clear c2b0; try clear c2b1; try clear p2; try clear c5; try clear p191; try clear p192; try clear q191; try clear q192
   obtain ⟨x19_1, x191000_1, x191001_1, x191002_1, x191003_1, rfl, HA, HK1, BK190, BK193, HB⟩ := hrel
   cases gk with
   | zero => exact absurd HA.out (by simp [bytes_pointer.l0])
   | succ k1 =>
    have H := HA.out
    clear HA
    simp only [bytes_pointer.l0] at H
    by_cases c10 : x19_1 < (l0.length : Int)
    rotate_left
    ·rw [if_neg c10] at H
     have c10b0 : decide (x19_1 < (l0.length : Int)) = false := decide_eq_false c10
     clear c10
     simp only [Option.some.injEq, Prod.mk.injEq] at H
     obtain ⟨rfl, rfl, rfl, rfl, rfl⟩ := H
     have hnb50 := NB193_190.out
     have hnc50 := NB190_193.out
     have hcz51_0 := zc BK193.out 0
     have hcz51_1 := zc BK193.out 1
     have hcz51_2 := zc BK193.out 2
     have hcz51_3 := zc BK193.out 3
     have hfz51_0 := blk_frozen BK193.out 0
     have hfz51_1 := blk_frozen BK193.out 1
     have hfz51_2 := blk_frozen BK193.out 2
     have hfz51_3 := blk_frozen BK193.out 3
     have hcz52_0 := zc BK190.out 0
     have hcz52_1 := zc BK190.out 1
     have hcz52_2 := zc BK190.out 2
     have hcz52_3 := zc BK190.out 3
     have hfz52_0 := blk_frozen BK190.out 0
     have hfz52_1 := blk_frozen BK190.out 1
     have hfz52_2 := blk_frozen BK190.out 2
     have hfz52_3 := blk_frozen BK190.out 3
     go_wp2
     refine bodyPost_ret (results_ct rfl _ _ gb190 33 #[.bool true, .int .i64 0, .int .i64 ((rd_T51 l0 0).f2), .int .i64 ((rd_T51 l0 0).f3)] (0, 0) _ rfl (by (with_reducible repeat (first | refine blk_drewN ?_ _ | refine blk_drew ?_ | refine blk_alloc ?_ _)); refine blk_put (cs := #[.bool true, .int .i64 0, .int .i64 ((rd_T51 l0 0).f2), .int .i64 x191003_1]) ?_ 3 _ rfl; (with_reducible repeat (first | refine blk_drewN ?_ _ | refine blk_drew ?_ | refine blk_alloc ?_ _)); refine blk_put (cs := #[.bool true, .int .i64 0, .int .i64 x191002_1, .int .i64 x191003_1]) ?_ 2 _ rfl; (with_reducible repeat (first | refine blk_drewN ?_ _ | refine blk_drew ?_ | refine blk_alloc ?_ _)); refine blk_put (cs := #[.bool true, .int .i64 x191001_1, .int .i64 x191002_1, .int .i64 x191003_1]) ?_ 1 _ rfl; (with_reducible repeat (first | refine blk_drewN ?_ _ | refine blk_drew ?_ | refine blk_alloc ?_ _)); refine blk_put (cs := #[.bool x191000_1, .int .i64 x191001_1, .int .i64 x191002_1, .int .i64 x191003_1]) ?_ 0 _ rfl; (with_reducible repeat (first | refine blk_drewN ?_ _ | refine blk_drew ?_ | refine blk_alloc ?_ _)); exact BK190.out) Try.underlying33 rfl (by kernel_rfl)) rfl ?_
     exact ⟨ze, zw2 HB.out GE190.out GE193.out⟩
    rw [if_pos c10] at H
    have c10b0 : decide (x19_1 < (l0.length : Int)) = true := decide_eq_true c10
    clear c10
    by_cases c11 : 0 ≤ x19_1
    rotate_left
    ·rw [if_neg c11] at H
     exact absurd H (by simp)
    rw [if_pos c11] at H
    have c11b0 : decide (0 ≤ x19_1) = true := decide_eq_true c11
    clear c11
    by_cases c12 : x19_1 < (l0.length : Int)
    rotate_left
    ·rw [if_neg c12] at H
     exact absurd H (by simp)
    rw [if_pos c12] at H
    have c12b0 : decide (x19_1 < (l0.length : Int)) = true := decide_eq_true c12
    clear c12
    have HC13 := Aside0.mk H
    clear H
    have p194 : 0 ≤ (x19_1 : Int) := zdec
    have q194 : x19_1 < (l0.length : Int) := zdec
    obtain ⟨ad194, e194, hx194_0, hx194_1, hx194_2, hx194_3, hx194_4⟩ := at_T51 HR0.out x19_1 p194 q194
    obtain rfl : ad191 = ad194 := (by injection e194)
    replace hx194_0 := zh HB.out hx194_0
    replace hx194_1 := zh HB.out hx194_1
    replace hx194_2 := zh HB.out hx194_2
    replace hx194_3 := zh HB.out hx194_3
    replace hx194_4 := zh HB.out hx194_4
    replace p194 := eq_true p194
    replace q194 := eq_true q194
    go_upto_if 27 with (first | ((with_reducible refine gate_dst (N := 6) rfl ?_); refine zbox (N := 6) (cs := #[.int .i64 0, .int .i64 0, .int .i64 0, .int .i64 0, .int .i64 0]) (t := 51) ?_; intro gb195 hg w14 hbox hb; have n0_ := Aside0.mk (zbb BK190.out hb); have n1_ := Aside0.mk (zbb BK193.out hb); have n2_ := Aside0.mk (below_step (zw2 HB.out GE190.out GE193.out) hb); have BK195 := Aside0.mk (hbox); have GW195 := Aside0.mk (zg hg (below_size (zw2 HB.out GE190.out GE193.out))); have GE195 := GW195; have NB190_195 := Aside0.mk (zlt hg BK190.out); have NB195_190 := Aside0.mk (zgt hg BK190.out); have NB193_195 := Aside0.mk (zlt hg BK193.out); have NB195_193 := Aside0.mk (zgt hg BK193.out); clear BK190 BK193 HB; have BK190 := n0_; have BK193 := n1_; have HB := n2_; clear n0_ n1_ n2_; clear hb hbox hg; have hnb15 := NB195_190.out; have hnc15 := NB190_195.out; have hnb16 := NB195_193.out; have hnc16 := NB193_195.out; have hcz17_0 := zc BK195.out 0; have hcz17_1 := zc BK195.out 1; have hcz17_2 := zc BK195.out 2; have hcz17_3 := zc BK195.out 3; have hcz17_4 := zc BK195.out 4; have hfz17_0 := blk_frozen BK195.out 0; have hfz17_1 := blk_frozen BK195.out 1; have hfz17_2 := blk_frozen BK195.out 2; have hfz17_3 := blk_frozen BK195.out 3; have hfz17_4 := blk_frozen BK195.out 4) | ((with_reducible refine gate_dst (N := 7) rfl ?_); refine zbox (N := 7) (cs := #[.int .i64 0, .int .i64 0, .int .i64 0, .int .i64 0, .int .i64 0]) (t := 51) ?_; intro gb196 hg w18 hbox hb; have n0_ := Aside0.mk (blk_below (g := gb190) (o := .cells #[.bool x191000_1, .int .i64 x191001_1, .int .i64 x191002_1, .int .i64 x191003_1] 33 (0, 0)) (zf1 BK190.out NB190_195.out) hb); have n1_ := Aside0.mk (blk_below (g := gb193) (o := .cells #[.bool true, .int .i64 0, .int .i64 ((rd_T51 l0 0).f2), .int .i64 ((rd_T51 l0 0).f3)] 33 (0, 0)) (zf1 BK193.out NB193_195.out) hb); have n2_ := Aside0.mk (blk_below (g := gb195) (o := .cells #[.int .i64 ((rd_T51 l0 x19_1).f0), .int .i64 ((rd_T51 l0 x19_1).f1), .int .i64 ((rd_T51 l0 x19_1).f2), .int .i64 ((rd_T51 l0 x19_1).f3), .int .i64 ((rd_T51 l0 x19_1).f4)] 51 (0, 0)) (by (with_reducible repeat (first | refine blk_drewN ?_ _ | refine blk_drew ?_ | refine blk_alloc ?_ _)); refine blk_put (cs := #[.int .i64 ((rd_T51 l0 x19_1).f0), .int .i64 ((rd_T51 l0 x19_1).f1), .int .i64 ((rd_T51 l0 x19_1).f2), .int .i64 ((rd_T51 l0 x19_1).f3), .int .i64 0]) ?_ 4 _ rfl; (with_reducible repeat (first | refine blk_drewN ?_ _ | refine blk_drew ?_ | refine blk_alloc ?_ _)); refine blk_put (cs := #[.int .i64 ((rd_T51 l0 x19_1).f0), .int .i64 ((rd_T51 l0 x19_1).f1), .int .i64 ((rd_T51 l0 x19_1).f2), .int .i64 0, .int .i64 0]) ?_ 3 _ rfl; (with_reducible repeat (first | refine blk_drewN ?_ _ | refine blk_drew ?_ | refine blk_alloc ?_ _)); refine blk_put (cs := #[.int .i64 ((rd_T51 l0 x19_1).f0), .int .i64 ((rd_T51 l0 x19_1).f1), .int .i64 0, .int .i64 0, .int .i64 0]) ?_ 2 _ rfl; (with_reducible repeat (first | refine blk_drewN ?_ _ | refine blk_drew ?_ | refine blk_alloc ?_ _)); refine blk_put (cs := #[.int .i64 ((rd_T51 l0 x19_1).f0), .int .i64 0, .int .i64 0, .int .i64 0, .int .i64 0]) ?_ 1 _ rfl; (with_reducible repeat (first | refine blk_drewN ?_ _ | refine blk_drew ?_ | refine blk_alloc ?_ _)); refine blk_put (cs := #[.int .i64 0, .int .i64 0, .int .i64 0, .int .i64 0, .int .i64 0]) ?_ 0 _ rfl; (with_reducible repeat (first | refine blk_drewN ?_ _ | refine blk_drew ?_ | refine blk_alloc ?_ _)); exact BK195.out) hb); have n3_ := Aside0.mk (below_step (zw3 HB.out GE190.out GE193.out GE195.out) hb); have BK196 := Aside0.mk (hbox); have GW196 := Aside0.mk (zg hg (below_size (zw3 HB.out GE190.out GE193.out GE195.out))); have GE196 := GW196; have NB190_196 := Aside0.mk ((by rw [hg]; exact Nat.ne_of_lt (blk_lt (g := gb190) (o := .cells #[.bool x191000_1, .int .i64 x191001_1, .int .i64 x191002_1, .int .i64 x191003_1] 33 (0, 0)) (zf1 BK190.out NB190_195.out)) : gb190 ≠ gb196)); have NB196_190 := Aside0.mk ((by rw [hg]; exact Nat.ne_of_gt (blk_lt (g := gb190) (o := .cells #[.bool x191000_1, .int .i64 x191001_1, .int .i64 x191002_1, .int .i64 x191003_1] 33 (0, 0)) (zf1 BK190.out NB190_195.out)) : gb196 ≠ gb190)); have NB193_196 := Aside0.mk ((by rw [hg]; exact Nat.ne_of_lt (blk_lt (g := gb193) (o := .cells #[.bool true, .int .i64 0, .int .i64 ((rd_T51 l0 0).f2), .int .i64 ((rd_T51 l0 0).f3)] 33 (0, 0)) (zf1 BK193.out NB193_195.out)) : gb193 ≠ gb196)); have NB196_193 := Aside0.mk ((by rw [hg]; exact Nat.ne_of_gt (blk_lt (g := gb193) (o := .cells #[.bool true, .int .i64 0, .int .i64 ((rd_T51 l0 0).f2), .int .i64 ((rd_T51 l0 0).f3)] 33 (0, 0)) (zf1 BK193.out NB193_195.out)) : gb196 ≠ gb193)); have NB195_196 := Aside0.mk ((by rw [hg]; exact Nat.ne_of_lt (blk_lt (g := gb195) (o := .cells #[.int .i64 ((rd_T51 l0 x19_1).f0), .int .i64 ((rd_T51 l0 x19_1).f1), .int .i64 ((rd_T51 l0 x19_1).f2), .int .i64 ((rd_T51 l0 x19_1).f3), .int .i64 ((rd_T51 l0 x19_1).f4)] 51 (0, 0)) (by (with_reducible repeat (first | refine blk_drewN ?_ _ | refine blk_drew ?_ | refine blk_alloc ?_ _)); refine blk_put (cs := #[.int .i64 ((rd_T51 l0 x19_1).f0), .int .i64 ((rd_T51 l0 x19_1).f1), .int .i64 ((rd_T51 l0 x19_1).f2), .int .i64 ((rd_T51 l0 x19_1).f3), .int .i64 0]) ?_ 4 _ rfl; (with_reducible repeat (first | refine blk_drewN ?_ _ | refine blk_drew ?_ | refine blk_alloc ?_ _)); refine blk_put (cs := #[.int .i64 ((rd_T51 l0 x19_1).f0), .int .i64 ((rd_T51 l0 x19_1).f1), .int .i64 ((rd_T51 l0 x19_1).f2), .int .i64 0, .int .i64 0]) ?_ 3 _ rfl; (with_reducible repeat (first | refine blk_drewN ?_ _ | refine blk_drew ?_ | refine blk_alloc ?_ _)); refine blk_put (cs := #[.int .i64 ((rd_T51 l0 x19_1).f0), .int .i64 ((rd_T51 l0 x19_1).f1), .int .i64 0, .int .i64 0, .int .i64 0]) ?_ 2 _ rfl; (with_reducible repeat (first | refine blk_drewN ?_ _ | refine blk_drew ?_ | refine blk_alloc ?_ _)); refine blk_put (cs := #[.int .i64 ((rd_T51 l0 x19_1).f0), .int .i64 0, .int .i64 0, .int .i64 0, .int .i64 0]) ?_ 1 _ rfl; (with_reducible repeat (first | refine blk_drewN ?_ _ | refine blk_drew ?_ | refine blk_alloc ?_ _)); refine blk_put (cs := #[.int .i64 0, .int .i64 0, .int .i64 0, .int .i64 0, .int .i64 0]) ?_ 0 _ rfl; (with_reducible repeat (first | refine blk_drewN ?_ _ | refine blk_drew ?_ | refine blk_alloc ?_ _)); exact BK195.out)) : gb195 ≠ gb196)); have NB196_195 := Aside0.mk ((by rw [hg]; exact Nat.ne_of_gt (blk_lt (g := gb195) (o := .cells #[.int .i64 ((rd_T51 l0 x19_1).f0), .int .i64 ((rd_T51 l0 x19_1).f1), .int .i64 ((rd_T51 l0 x19_1).f2), .int .i64 ((rd_T51 l0 x19_1).f3), .int .i64 ((rd_T51 l0 x19_1).f4)] 51 (0, 0)) (by (with_reducible repeat (first | refine blk_drewN ?_ _ | refine blk_drew ?_ | refine blk_alloc ?_ _)); refine blk_put (cs := #[.int .i64 ((rd_T51 l0 x19_1).f0), .int .i64 ((rd_T51 l0 x19_1).f1), .int .i64 ((rd_T51 l0 x19_1).f2), .int .i64 ((rd_T51 l0 x19_1).f3), .int .i64 0]) ?_ 4 _ rfl; (with_reducible repeat (first | refine blk_drewN ?_ _ | refine blk_drew ?_ | refine blk_alloc ?_ _)); refine blk_put (cs := #[.int .i64 ((rd_T51 l0 x19_1).f0), .int .i64 ((rd_T51 l0 x19_1).f1), .int .i64 ((rd_T51 l0 x19_1).f2), .int .i64 0, .int .i64 0]) ?_ 3 _ rfl; (with_reducible repeat (first | refine blk_drewN ?_ _ | refine blk_drew ?_ | refine blk_alloc ?_ _)); refine blk_put (cs := #[.int .i64 ((rd_T51 l0 x19_1).f0), .int .i64 ((rd_T51 l0 x19_1).f1), .int .i64 0, .int .i64 0, .int .i64 0]) ?_ 2 _ rfl; (with_reducible repeat (first | refine blk_drewN ?_ _ | refine blk_drew ?_ | refine blk_alloc ?_ _)); refine blk_put (cs := #[.int .i64 ((rd_T51 l0 x19_1).f0), .int .i64 0, .int .i64 0, .int .i64 0, .int .i64 0]) ?_ 1 _ rfl; (with_reducible repeat (first | refine blk_drewN ?_ _ | refine blk_drew ?_ | refine blk_alloc ?_ _)); refine blk_put (cs := #[.int .i64 0, .int .i64 0, .int .i64 0, .int .i64 0, .int .i64 0]) ?_ 0 _ rfl; (with_reducible repeat (first | refine blk_drewN ?_ _ | refine blk_drew ?_ | refine blk_alloc ?_ _)); exact BK195.out)) : gb196 ≠ gb195)); clear BK190 BK193 BK195 HB; have BK190 := n0_; have BK193 := n1_; have BK195 := n2_; have HB := n3_; clear n0_ n1_ n2_ n3_; clear hb hbox hg; have hnb19 := NB196_190.out; have hnc19 := NB190_196.out; have hnb20 := NB196_193.out; have hnc20 := NB193_196.out; have hnb21 := NB196_195.out; have hnc21 := NB195_196.out; have hcz22_0 := zc BK196.out 0; have hcz22_1 := zc BK196.out 1; have hcz22_2 := zc BK196.out 2; have hcz22_3 := zc BK196.out 3; have hcz22_4 := zc BK196.out 4; have hfz22_0 := blk_frozen BK196.out 0; have hfz22_1 := blk_frozen BK196.out 1; have hfz22_2 := blk_frozen BK196.out 2; have hfz22_3 := blk_frozen BK196.out 3; have hfz22_4 := blk_frozen BK196.out 4; have hnb23 := NB193_190.out; have hnc23 := NB190_193.out; have hcz24_0 := zc BK193.out 0; have hcz24_1 := zc BK193.out 1; have hcz24_2 := zc BK193.out 2; have hcz24_3 := zc BK193.out 3; have hfz24_0 := blk_frozen BK193.out 0; have hfz24_1 := blk_frozen BK193.out 1; have hfz24_2 := blk_frozen BK193.out 2; have hfz24_3 := blk_frozen BK193.out 3))
    (try simp only [Act.put, List.setIfInBounds_toArray, List.set_cons_zero, List.set_cons_succ])
    go_cut [] (fun wc => ∃ (kq : Nat) (x197000_12 : Int) (x197001_12 : Int) (x197002_12 : Int) (x197003_12 : Int) (x197004_12 : Int), Aside0 (bytes_pointer.j1 kq l0 (l0.length : Int) x19_1 true 0 ((rd_T51 l0 0).f2) ((rd_T51 l0 0).f3) ((rd_T51 l0 x19_1).f0) ((rd_T51 l0 x19_1).f1) ((rd_T51 l0 x19_1).f2) ((rd_T51 l0 x19_1).f3) ((rd_T51 l0 x19_1).f4) x197000_12 x197001_12 x197002_12 x197003_12 x197004_12 = some (r1, r2, r3, r4, r5)) ∧ Aside0 (kq ≤ k1) ∧ Aside0 (wc.heap[gb190]? = some (.cells #[.bool x191000_1, .int .i64 x191001_1, .int .i64 x191002_1, .int .i64 x191003_1] 33 (0, 0))) ∧ Aside0 (wc.heap[gb193]? = some (.cells #[.bool true, .int .i64 0, .int .i64 ((rd_T51 l0 0).f2), .int .i64 ((rd_T51 l0 0).f3)] 33 (0, 0))) ∧ Aside0 (wc.heap[gb195]? = some (.cells #[.int .i64 ((rd_T51 l0 x19_1).f0), .int .i64 ((rd_T51 l0 x19_1).f1), .int .i64 ((rd_T51 l0 x19_1).f2), .int .i64 ((rd_T51 l0 x19_1).f3), .int .i64 ((rd_T51 l0 x19_1).f4)] 51 (0, 0))) ∧ Aside0 (wc.heap[gb196]? = some (.cells #[.int .i64 x197000_12, .int .i64 x197001_12, .int .i64 x197002_12, .int .i64 x197003_12, .int .i64 x197004_12] 51 (0, 0))) ∧ Aside0 (Below w.heap.size w wc))
    case first =>
     have H := HC13.out
     clear HC13
     by_cases c25 : ((rd_T51 l0 0).f2) > 0
     rotate_left
     ·rw [if_neg c25] at H
      have c25b0 : decide (0 < ((rd_T51 l0 0).f2)) = false := decide_eq_false c25
      clear c25
      (first | rw [c25b0] | (simp only [i64_w, i32_w]; rw [c25b0]) | skip)
      have H' := Aside0.mk H
      clear H
      go_wp2
      go_meet
      case rel => exact ⟨_, (1), (0), (0), (0), (0), H', ⟨by have := HK1.out; first | omega | exact Nat.le_refl _⟩, ⟨zf1 BK190.out NB190_196.out⟩, ⟨zf1 BK193.out NB193_196.out⟩, ⟨zf1 BK195.out NB195_196.out⟩, ⟨by (with_reducible repeat (first | refine blk_drewN ?_ _ | refine blk_drew ?_ | refine blk_alloc ?_ _)); refine blk_put (cs := #[.int .i64 1, .int .i64 0, .int .i64 0, .int .i64 0, .int .i64 0]) ?_ 4 _ rfl; (with_reducible repeat (first | refine blk_drewN ?_ _ | refine blk_drew ?_ | refine blk_alloc ?_ _)); refine blk_put (cs := #[.int .i64 1, .int .i64 0, .int .i64 0, .int .i64 0, .int .i64 0]) ?_ 3 _ rfl; (with_reducible repeat (first | refine blk_drewN ?_ _ | refine blk_drew ?_ | refine blk_alloc ?_ _)); refine blk_put (cs := #[.int .i64 1, .int .i64 0, .int .i64 0, .int .i64 0, .int .i64 0]) ?_ 2 _ rfl; (with_reducible repeat (first | refine blk_drewN ?_ _ | refine blk_drew ?_ | refine blk_alloc ?_ _)); refine blk_put (cs := #[.int .i64 1, .int .i64 0, .int .i64 0, .int .i64 0, .int .i64 0]) ?_ 1 _ rfl; (with_reducible repeat (first | refine blk_drewN ?_ _ | refine blk_drew ?_ | refine blk_alloc ?_ _)); refine blk_put (cs := #[.int .i64 0, .int .i64 0, .int .i64 0, .int .i64 0, .int .i64 0]) ?_ 0 _ rfl; (with_reducible repeat (first | refine blk_drewN ?_ _ | refine blk_drew ?_ | refine blk_alloc ?_ _)); exact BK196.out⟩, ⟨zw4 HB.out GE190.out GE193.out GE195.out GE196.out⟩⟩
     rw [if_pos c25] at H
     have c25b0 : decide (0 < ((rd_T51 l0 0).f2)) = true := decide_eq_true c25
     clear c25
     (first | rw [c25b0] | (simp only [i64_w, i32_w]; rw [c25b0]) | skip)
     have H' := Aside0.mk H
     clear H
     have hnb26 := NB193_190.out
     have hnc26 := NB190_193.out
     have hnb27 := NB193_195.out
     have hnc27 := NB195_193.out
     have hnb28 := NB193_196.out
     have hnc28 := NB196_193.out
     have hcz29_0 := zc BK193.out 0
     have hcz29_1 := zc BK193.out 1
     have hcz29_2 := zc BK193.out 2
     have hcz29_3 := zc BK193.out 3
     have hfz29_0 := blk_frozen BK193.out 0
     have hfz29_1 := blk_frozen BK193.out 1
     have hfz29_2 := blk_frozen BK193.out 2
     have hfz29_3 := blk_frozen BK193.out 3
     have hnb30 := NB196_190.out
     have hnc30 := NB190_196.out
     have hnb31 := NB196_195.out
     have hnc31 := NB195_196.out
     have hcz32_0 := zc BK196.out 0
     have hcz32_1 := zc BK196.out 1
     have hcz32_2 := zc BK196.out 2
     have hcz32_3 := zc BK196.out 3
     have hcz32_4 := zc BK196.out 4
     have hfz32_0 := blk_frozen BK196.out 0
     have hfz32_1 := blk_frozen BK196.out 1
     have hfz32_2 := blk_frozen BK196.out 2
     have hfz32_3 := blk_frozen BK196.out 3
     have hfz32_4 := blk_frozen BK196.out 4
     go_wp2
     go_meet
     case rel => exact ⟨_, (2), (0), (((rd_T51 l0 0).f2)), (((rd_T51 l0 0).f3)), (x19_1), H', ⟨by have := HK1.out; first | omega | exact Nat.le_refl _⟩, ⟨zf1 BK190.out NB190_196.out⟩, ⟨zf1 BK193.out NB193_196.out⟩, ⟨zf1 BK195.out NB195_196.out⟩, ⟨by (with_reducible repeat (first | refine blk_drewN ?_ _ | refine blk_drew ?_ | refine blk_alloc ?_ _)); refine blk_put (cs := #[.int .i64 2, .int .i64 0, .int .i64 ((rd_T51 l0 0).f2), .int .i64 ((rd_T51 l0 0).f3), .int .i64 0]) ?_ 4 _ rfl; (with_reducible repeat (first | refine blk_drewN ?_ _ | refine blk_drew ?_ | refine blk_alloc ?_ _)); refine blk_put (cs := #[.int .i64 2, .int .i64 0, .int .i64 ((rd_T51 l0 0).f2), .int .i64 0, .int .i64 0]) ?_ 3 _ rfl; (with_reducible repeat (first | refine blk_drewN ?_ _ | refine blk_drew ?_ | refine blk_alloc ?_ _)); refine blk_put (cs := #[.int .i64 2, .int .i64 0, .int .i64 0, .int .i64 0, .int .i64 0]) ?_ 2 _ rfl; (with_reducible repeat (first | refine blk_drewN ?_ _ | refine blk_drew ?_ | refine blk_alloc ?_ _)); refine blk_put (cs := #[.int .i64 2, .int .i64 0, .int .i64 0, .int .i64 0, .int .i64 0]) ?_ 1 _ rfl; (with_reducible repeat (first | refine blk_drewN ?_ _ | refine blk_drew ?_ | refine blk_alloc ?_ _)); refine blk_put (cs := #[.int .i64 1, .int .i64 0, .int .i64 0, .int .i64 0, .int .i64 0]) ?_ 0 _ rfl; (with_reducible repeat (first | refine blk_drewN ?_ _ | refine blk_drew ?_ | refine blk_alloc ?_ _)); refine blk_put (cs := #[.int .i64 1, .int .i64 0, .int .i64 0, .int .i64 0, .int .i64 0]) ?_ 4 _ rfl; (with_reducible repeat (first | refine blk_drewN ?_ _ | refine blk_drew ?_ | refine blk_alloc ?_ _)); refine blk_put (cs := #[.int .i64 1, .int .i64 0, .int .i64 0, .int .i64 0, .int .i64 0]) ?_ 3 _ rfl; (with_reducible repeat (first | refine blk_drewN ?_ _ | refine blk_drew ?_ | refine blk_alloc ?_ _)); refine blk_put (cs := #[.int .i64 1, .int .i64 0, .int .i64 0, .int .i64 0, .int .i64 0]) ?_ 2 _ rfl; (with_reducible repeat (first | refine blk_drewN ?_ _ | refine blk_drew ?_ | refine blk_alloc ?_ _)); refine blk_put (cs := #[.int .i64 1, .int .i64 0, .int .i64 0, .int .i64 0, .int .i64 0]) ?_ 1 _ rfl; (with_reducible repeat (first | refine blk_drewN ?_ _ | refine blk_drew ?_ | refine blk_alloc ?_ _)); refine blk_put (cs := #[.int .i64 0, .int .i64 0, .int .i64 0, .int .i64 0, .int .i64 0]) ?_ 0 _ rfl; (with_reducible repeat (first | refine blk_drewN ?_ _ | refine blk_drew ?_ | refine blk_alloc ?_ _)); exact BK196.out⟩, ⟨zw4 HB.out GE190.out GE193.out GE195.out GE196.out⟩⟩
    case rest =>
     clear HC13
     try clear c1; try clear p1; try clear q1; try clear qi1; try clear c2; try clear c2b0; try clear c2b1; try clear p2; try clear c3; try clear c5; try clear c10; try clear c10b0; try clear c11; try clear c11b0; try clear c12; try clear c12b0; try clear c15; try clear c16; try clear c19; try clear p19; try clear q19; try clear qi19; try clear c20; try clear c21; try clear c23; try clear c25; try clear c25b0; try clear c26; try clear c27; try clear c28; try clear c30; try clear c31; try clear p1; try clear p191; try clear p192; try clear p194; try clear p2; try clear q1; try clear q191; try clear q192; try clear q194
     obtain ⟨kq, x197000_12, x197001_12, x197002_12, x197003_12, x197004_12, HA, HJ12, BK190, BK193, BK195, BK196, HB⟩ := hcut
     cases kq with
     | zero => exact absurd HA.out (by simp [bytes_pointer.j1])
     | succ kj12 =>
      have H := HA.out
      clear HA
      simp only [bytes_pointer.j1] at H
      by_cases c33 : (!(((rd_T51 l0 x19_1).f0) == x197000_12) || (!(((rd_T51 l0 x19_1).f1) == x197001_12) || (!(((rd_T51 l0 x19_1).f2) == x197002_12) || (!(((rd_T51 l0 x19_1).f3) == x197003_12) || (!(((rd_T51 l0 x19_1).f4) == x197004_12)))))) = true
      rotate_left
      ·rw [if_neg c33] at H
       have c33b0 : (!(((rd_T51 l0 x19_1).f0) == x197000_12) || (!(((rd_T51 l0 x19_1).f1) == x197001_12) || (!(((rd_T51 l0 x19_1).f2) == x197002_12) || (!(((rd_T51 l0 x19_1).f3) == x197003_12) || (!(((rd_T51 l0 x19_1).f4) == x197004_12)))))) = false := by simpa using c33
       clear c33
       have H' := Aside0.mk H
       clear H
       have hnb43 := NB195_190.out
       have hnc43 := NB190_195.out
       have hnb44 := NB195_193.out
       have hnc44 := NB193_195.out
       have hnb45 := NB195_196.out
       have hnc45 := NB196_195.out
       have hcz46_0 := zc BK195.out 0
       have hcz46_1 := zc BK195.out 1
       have hcz46_2 := zc BK195.out 2
       have hcz46_3 := zc BK195.out 3
       have hcz46_4 := zc BK195.out 4
       have hfz46_0 := blk_frozen BK195.out 0
       have hfz46_1 := blk_frozen BK195.out 1
       have hfz46_2 := blk_frozen BK195.out 2
       have hfz46_3 := blk_frozen BK195.out 3
       have hfz46_4 := blk_frozen BK195.out 4
       have hnb47 := NB196_190.out
       have hnc47 := NB190_196.out
       have hnb48 := NB196_193.out
       have hnc48 := NB193_196.out
       have hcz49_0 := zc BK196.out 0
       have hcz49_1 := zc BK196.out 1
       have hcz49_2 := zc BK196.out 2
       have hcz49_3 := zc BK196.out 3
       have hcz49_4 := zc BK196.out 4
       have hfz49_0 := blk_frozen BK196.out 0
       have hfz49_1 := blk_frozen BK196.out 1
       have hfz49_2 := blk_frozen BK196.out 2
       have hfz49_3 := blk_frozen BK196.out 3
       have hfz49_4 := blk_frozen BK196.out 4
       go_wp2
       go_roundg kj12
       case measure => have := HK1.out; have := HJ12.out; omega
       case rel => exact ⟨(wrap64 (x19_1 + 1)), (x191000_1), (x191001_1), (x191002_1), (x191003_1), (zr), H', ⟨by have := HK1.out; have := HJ12.out; omega⟩, ⟨zb BK190.out⟩, ⟨zb BK193.out⟩, ⟨zw4 HB.out GE190.out GE193.out GE195.out GE196.out⟩⟩
      rw [if_pos c33] at H
      have c33b0 : (!(((rd_T51 l0 x19_1).f0) == x197000_12) || (!(((rd_T51 l0 x19_1).f1) == x197001_12) || (!(((rd_T51 l0 x19_1).f2) == x197002_12) || (!(((rd_T51 l0 x19_1).f3) == x197003_12) || (!(((rd_T51 l0 x19_1).f4) == x197004_12)))))) = true := c33
      clear c33
      simp only [Option.some.injEq, Prod.mk.injEq] at H
      obtain ⟨rfl, rfl, rfl, rfl, rfl⟩ := H
      have hnb34 := NB195_190.out
      have hnc34 := NB190_195.out
      have hnb35 := NB195_193.out
      have hnc35 := NB193_195.out
      have hnb36 := NB195_196.out
      have hnc36 := NB196_195.out
      have hcz37_0 := zc BK195.out 0
      have hcz37_1 := zc BK195.out 1
      have hcz37_2 := zc BK195.out 2
      have hcz37_3 := zc BK195.out 3
      have hcz37_4 := zc BK195.out 4
      have hfz37_0 := blk_frozen BK195.out 0
      have hfz37_1 := blk_frozen BK195.out 1
      have hfz37_2 := blk_frozen BK195.out 2
      have hfz37_3 := blk_frozen BK195.out 3
      have hfz37_4 := blk_frozen BK195.out 4
      have hnb38 := NB196_190.out
      have hnc38 := NB190_196.out
      have hnb39 := NB196_193.out
      have hnc39 := NB193_196.out
      have hcz40_0 := zc BK196.out 0
      have hcz40_1 := zc BK196.out 1
      have hcz40_2 := zc BK196.out 2
      have hcz40_3 := zc BK196.out 3
      have hcz40_4 := zc BK196.out 4
      have hfz40_0 := blk_frozen BK196.out 0
      have hfz40_1 := blk_frozen BK196.out 1
      have hfz40_2 := blk_frozen BK196.out 2
      have hfz40_3 := blk_frozen BK196.out 3
      have hfz40_4 := blk_frozen BK196.out 4
      have hnb41 := NB190_193.out
      have hnc41 := NB193_190.out
      have hcz42_0 := zc BK190.out 0
      have hcz42_1 := zc BK190.out 1
      have hcz42_2 := zc BK190.out 2
      have hcz42_3 := zc BK190.out 3
      have hfz42_0 := blk_frozen BK190.out 0
      have hfz42_1 := blk_frozen BK190.out 1
      have hfz42_2 := blk_frozen BK190.out 2
      have hfz42_3 := blk_frozen BK190.out 3
      go_wp2
      refine bodyPost_ret (results_ct rfl _ _ gb190 33 #[.bool false, .int .i64 0, .int .i64 0, .int .i64 0] (0, 0) _ rfl (by (with_reducible repeat (first | refine blk_drewN ?_ _ | refine blk_drew ?_ | refine blk_alloc ?_ _)); refine blk_put (cs := #[.bool false, .int .i64 0, .int .i64 0, .int .i64 x191003_1]) ?_ 3 _ rfl; (with_reducible repeat (first | refine blk_drewN ?_ _ | refine blk_drew ?_ | refine blk_alloc ?_ _)); refine blk_put (cs := #[.bool false, .int .i64 0, .int .i64 x191002_1, .int .i64 x191003_1]) ?_ 2 _ rfl; (with_reducible repeat (first | refine blk_drewN ?_ _ | refine blk_drew ?_ | refine blk_alloc ?_ _)); refine blk_put (cs := #[.bool false, .int .i64 x191001_1, .int .i64 x191002_1, .int .i64 x191003_1]) ?_ 1 _ rfl; (with_reducible repeat (first | refine blk_drewN ?_ _ | refine blk_drew ?_ | refine blk_alloc ?_ _)); refine blk_put (cs := #[.bool x191000_1, .int .i64 x191001_1, .int .i64 x191002_1, .int .i64 x191003_1]) ?_ 0 _ rfl; (with_reducible repeat (first | refine blk_drewN ?_ _ | refine blk_drew ?_ | refine blk_alloc ?_ _)); exact BK190.out) Try.underlying33 rfl (by kernel_rfl)) rfl ?_
      exact ⟨ze, zw4 HB.out GE190.out GE193.out GE195.out GE196.out⟩
 ·rw [if_neg c2] at H
  exact absurd H (by simp)

end Go.Proofs.Ythhdmanpjeminaa.H
