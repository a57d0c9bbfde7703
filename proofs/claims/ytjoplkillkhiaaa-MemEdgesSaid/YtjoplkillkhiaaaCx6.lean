-- Written by this session's own edition of the print.
import Derived.Test.YtjoplkillkhiaaaCx0
import Derived.Test.YtjoplkillkhiaaaCx2
import Derived.Test.YtjoplkillkhiaaaSq
namespace Go.Proofs.Ytjoplkillkhiaaa.C
open Go.RowKit Go.Proofs.Ytjoplkillkhiaaa.Fn Go.Proofs.YtjoplkillkhiaaaW.PrintWords Go.Proofs.YtjoplkillkhiaaaW.PrintLast Go.Proofs.YtjoplkillkhiaaaW.PrintMore
attribute [local go_sem] max2_int min2_int max_two min_two max_three min_three max_four min_four   -- for this text's walks alone
set_option linter.unusedVariables false
set_option linter.unusedSimpArgs false

attribute [local go_sem high] eqA74
/-! ### bytes_pointer: function 120 -/
mutual
def bytes_pointer.l0 : Nat → List (S74) → Int → Int → Bool → Int → Int → Int → Option (Bool × Int × Int × Int × Int)
 | 0, _, _, _, _, _, _, _ => none
 | k + 1, x17, x18, x19, x154000, x154001, x154002, x154003 => if x19 < x18 then (if 0 ≤ x19 then (if x19 < (x17.length : Int) then (if x154002 > 0 then (bytes_pointer.j1 k x17 x18 x19 x154000 x154001 x154002 x154003 ((rd_T74 x17 x19).f0) ((rd_T74 x17 x19).f1) ((rd_T74 x17 x19).f2) ((rd_T74 x17 x19).f3) ((rd_T74 x17 x19).f4) 2 0 x154002 x154003 x19) else (bytes_pointer.j1 k x17 x18 x19 x154000 x154001 x154002 x154003 ((rd_T74 x17 x19).f0) ((rd_T74 x17 x19).f1) ((rd_T74 x17 x19).f2) ((rd_T74 x17 x19).f3) ((rd_T74 x17 x19).f4) 1 0 0 0 0)) else (none)) else (none)) else (some (x154000, x154001, x154002, x154003, 0))
def bytes_pointer.j1 : Nat → List (S74) → Int → Int → Bool → Int → Int → Int → Int → Int → Int → Int → Int → Int → Int → Int → Int → Int → Option (Bool × Int × Int × Int × Int)
 | 0, _, _, _, _, _, _, _, _, _, _, _, _, _, _, _, _, _ => none
 | k + 1, x17, x18, x19, x154000, x154001, x154002, x154003, x156000, x156001, x156002, x156003, x156004, x157000, x157001, x157002, x157003, x157004 => if (!(x156000 == x157000) || (!(x156001 == x157001) || (!(x156002 == x157002) || (!(x156003 == x157003) || (!(x156004 == x157004)))))) = true then (some (false, 0, 0, 0, 8)) else (bytes_pointer.l0 k x17 x18 (wrap64 (x19 + 1)) x154000 x154001 x154002 x154003)
end
def bytes_pointer.f (k : Nat) (l0 : List (S74)) : Option (Bool × Int × Int × Int × Int) := if 0 < (l0.length : Int) then (bytes_pointer.l0 k l0 (l0.length : Int) 0 true 0 ((rd_T74 l0 0).f2) ((rd_T74 l0 0).f3)) else (none)
theorem bytes_pointer.mono_l : ∀ k, (∀ y0 y1 y2 y3 y4 y5 y6, LeO (bytes_pointer.l0 k y0 y1 y2 y3 y4 y5 y6) (bytes_pointer.l0 (k + 1) y0 y1 y2 y3 y4 y5 y6)) ∧ (∀ y0 y1 y2 y3 y4 y5 y6 y7 y8 y9 y10 y11 y12 y13 y14 y15 y16, LeO (bytes_pointer.j1 k y0 y1 y2 y3 y4 y5 y6 y7 y8 y9 y10 y11 y12 y13 y14 y15 y16) (bytes_pointer.j1 (k + 1) y0 y1 y2 y3 y4 y5 y6 y7 y8 y9 y10 y11 y12 y13 y14 y15 y16))
 | 0 => ⟨fun _ _ _ _ _ _ _ r h => by simp [bytes_pointer.l0] at h, fun _ _ _ _ _ _ _ _ _ _ _ _ _ _ _ _ _ r h => by simp [bytes_pointer.j1] at h⟩
 | k + 1 => by
  obtain ⟨ih0, ih1⟩ := bytes_pointer.mono_l k
  refine ⟨?_, ?_⟩
  ·intro y0 y1 y2 y3 y4 y5 y6
   unfold bytes_pointer.l0
   repeat' first
   | (with_reducible exact ih0 _ _ _ _ _ _ _)
   | (with_reducible exact ih1 _ _ _ _ _ _ _ _ _ _ _ _ _ _ _ _ _)
   | (with_reducible exact LeO.refl _)
   | (with_reducible exact LeO.none _)
   | (with_reducible refine LeO.ite ?_ ?_)
   | (with_reducible refine LeO.bind ?_ (fun _ => ?_))
   | exact ih0 _ _ _ _ _ _ _
   | exact ih1 _ _ _ _ _ _ _ _ _ _ _ _ _ _ _ _ _
   | exact LeO.none _
   | refine LeO.ite ?_ ?_
   | refine LeO.bind ?_ (fun _ => ?_)
  ·intro y0 y1 y2 y3 y4 y5 y6 y7 y8 y9 y10 y11 y12 y13 y14 y15 y16
   unfold bytes_pointer.j1
   repeat' first
   | (with_reducible exact ih0 _ _ _ _ _ _ _)
   | (with_reducible exact ih1 _ _ _ _ _ _ _ _ _ _ _ _ _ _ _ _ _)
   | (with_reducible exact LeO.refl _)
   | (with_reducible exact LeO.none _)
   | (with_reducible refine LeO.ite ?_ ?_)
   | (with_reducible refine LeO.bind ?_ (fun _ => ?_))
   | exact ih0 _ _ _ _ _ _ _
   | exact ih1 _ _ _ _ _ _ _ _ _ _ _ _ _ _ _ _ _
   | exact LeO.none _
   | refine LeO.ite ?_ ?_
   | refine LeO.bind ?_ (fun _ => ?_)
theorem bytes_pointer.mono : ∀ a0 k, LeO (bytes_pointer.f k a0) (bytes_pointer.f (k + 1) a0) := by
 intro a0 k
 obtain ⟨ih0, ih1⟩ := bytes_pointer.mono_l k
 unfold bytes_pointer.f
 repeat' first
   | (with_reducible exact ih0 _ _ _ _ _ _ _)
   | (with_reducible exact ih1 _ _ _ _ _ _ _ _ _ _ _ _ _ _ _ _ _)
   | (with_reducible exact LeO.refl _)
   | (with_reducible exact LeO.none _)
   | (with_reducible refine LeO.ite ?_ ?_)
   | (with_reducible refine LeO.bind ?_ (fun _ => ?_))
   | exact ih0 _ _ _ _ _ _ _
   | exact ih1 _ _ _ _ _ _ _ _ _ _ _ _ _ _ _ _ _
   | exact LeO.none _
   | refine LeO.ite ?_ ?_
   | refine LeO.bind ?_ (fun _ => ?_)
def bytes_pointer.T1 : Bool × List (List Nat × List Nat) := (true, [([], []), ([0], [0]), ([1], [1]), ([2], [2]), ([], []), ([4], [4]), ([5], [5]), ([6], [6]), ([3, 7], [3, 7]), ([], []), ([9, 8, 0, 1, 2, 3, 4, 5, 6, 7, 8, 9], [8, 9])])
def bytes_pointer.B1 : List Nat := [0, 1, 3, 7, 0, 16, 48, 112, 255, 0, 1023]
theorem bytes_pointer.tab1 : rtab .any (opsOf Try.f120 1) = bytes_pointer.T1 := by kernel_rfl
theorem bytes_pointer.bits1 : waitsOk bytes_pointer.T1.2 bytes_pointer.B1 = true := by kernel_rfl
set_option maxHeartbeats 8000000 in
set_option maxRecDepth 100000 in
theorem bytes_pointer.calls (k : Nat) (A0 : Option Addr) (c0 : Nat) (l0 : List (S74)) (r1 : Bool) (r2 : Int) (r3 : Int) (r4 : Int) (r5 : Int) (w : World) (hr0 : Kd.C k74 w A0 l0.length l0) (hc0 : l0.length ≤ c0) (h : bytes_pointer.f k l0 = some (r1, r2, r3, r4, r5)) :
  Calls Try.prog 120 #[.slice A0 l0.length c0] w fun e w' => e = .returned (.tuple #[.agg #[.bool r1, .int .i64 r2, .int .i64 r3, .int .i64 r4], .int .i64 r5]) ∧ Below w.heap.size w w' := by
 have hu62 := Try.underlying62
 have hu74 := Try.underlying74
 have HR0 := Aside0.mk hr0
 have HC0 := Aside0.mk hc0
 clear hr0 hc0
 have HB := Aside0.mk (Below.refl w.heap.size w)
 have H : (if 0 < (l0.length : Int) then (bytes_pointer.l0 k l0 (l0.length : Int) 0 true 0 ((rd_T74 l0 0).f2) ((rd_T74 l0 0).f3)) else (none)) = some (r1, r2, r3, r4, r5) := h
 clear h
 by_cases c2 : 0 < (l0.length : Int)
 ·rw [if_pos c2] at H
  have c2b0 : decide (0 < (l0.length : Int)) = true := decide_eq_true c2
  have c2b1 : decide (0 < l0.length) = true := decide_eq_true (by omega)
  clear c2
  have H' := Aside0.mk H
  clear H
  go_enter Try.func120, Try.ntmps120
  try go_wp2_with (first | ((with_reducible refine gate_dst (N := 2) rfl ?_); refine box_event ?hg (N := 2) ?hd (cs := #[.bool false, .int .i64 0, .int .i64 0, .int .i64 0]) (t := 62) ?hr ?_; (case hd => rfl); (case hg => rfl); (case hr => first | (go_simp; done) | (go_simp; rfl)); intro gb150 hg w3 hbox hb; have n0_ := Aside0.mk (below_step (zw0 HB.out) hb); have n1_ := Aside0.mk (hbox); have n2_ := Aside0.mk ((by rw [hg]; exact (below_size (zw0 HB.out)) : w.heap.size ≤ gb150)); have n3_ := Aside0.mk ((by rw [hg]; exact (below_size (zw0 HB.out)) : w.heap.size ≤ gb150)); clear HB; have HB := n0_; have BK150 := n1_; have GW150 := n2_; have GE150 := n3_; clear n0_ n1_ n2_ n3_; clear hb hbox hg))
  have n0_ := Aside0.mk (blk_drew BK150.out)
  have n1_ := Aside0.mk (below_drew1 HB.out)
  clear BK150
  clear HB
  have BK150 := n0_
  have HB := n1_
  clear n0_ n1_
  have p151 : 0 ≤ (0 : Int) := (by omega)
  have q151 : 0 < (l0.length : Int) := zdec
  obtain ⟨ad151, e151, hx151_0, hx151_1, hx151_2, hx151_3, hx151_4⟩ := at_T74 HR0.out 0 p151 q151
  have hw151_4 := hx151_4
  (try rw [show ((0 : Int)).toNat = 0 from rfl] at hw151_4)
  (try rw [show 0 * 5 = 0 from rfl] at hw151_4)
  (try rw [Addr.add_zero'] at hw151_4)
  have hw151_3 := hx151_3
  (try rw [show ((0 : Int)).toNat = 0 from rfl] at hw151_3)
  (try rw [show 0 * 5 = 0 from rfl] at hw151_3)
  (try rw [Addr.add_zero'] at hw151_3)
  have hw151_2 := hx151_2
  (try rw [show ((0 : Int)).toNat = 0 from rfl] at hw151_2)
  (try rw [show 0 * 5 = 0 from rfl] at hw151_2)
  (try rw [Addr.add_zero'] at hw151_2)
  have hw151_1 := hx151_1
  (try rw [show ((0 : Int)).toNat = 0 from rfl] at hw151_1)
  (try rw [show 0 * 5 = 0 from rfl] at hw151_1)
  (try rw [Addr.add_zero'] at hw151_1)
  have hw151_0 := hx151_0
  (try rw [show ((0 : Int)).toNat = 0 from rfl] at hw151_0)
  (try rw [show 0 * 5 = 0 from rfl] at hw151_0)
  (try rw [Addr.add_zero'] at hw151_0)
  cases e151
  have qi151 : (0 < l0.length) = True := eq_true (by omega)
  (try rw [show ((0 : Int)).toNat = 0 from rfl] at hx151_0)
  (try rw [show 0 * 5 = 0 from rfl] at hx151_0)
  (try rw [Addr.add_zero'] at hx151_0)
  (try rw [show ((0 : Int)).toNat = 0 from rfl] at hx151_1)
  (try rw [show 0 * 5 = 0 from rfl] at hx151_1)
  (try rw [Addr.add_zero'] at hx151_1)
  (try rw [show ((0 : Int)).toNat = 0 from rfl] at hx151_2)
  (try rw [show 0 * 5 = 0 from rfl] at hx151_2)
  (try rw [Addr.add_zero'] at hx151_2)
  (try rw [show ((0 : Int)).toNat = 0 from rfl] at hx151_3)
  (try rw [show 0 * 5 = 0 from rfl] at hx151_3)
  (try rw [Addr.add_zero'] at hx151_3)
  (try rw [show ((0 : Int)).toNat = 0 from rfl] at hx151_4)
  (try rw [show 0 * 5 = 0 from rfl] at hx151_4)
  (try rw [Addr.add_zero'] at hx151_4)
  replace hx151_0 := (HB.out.cell (World.block_lt_of_cell? w _ hx151_0)).trans hx151_0
  replace hx151_1 := (HB.out.cell (World.block_lt_of_cell? w _ hx151_1)).trans hx151_1
  replace hx151_2 := (HB.out.cell (World.block_lt_of_cell? w _ hx151_2)).trans hx151_2
  replace hx151_3 := (HB.out.cell (World.block_lt_of_cell? w _ hx151_3)).trans hx151_3
  replace hx151_4 := (HB.out.cell (World.block_lt_of_cell? w _ hx151_4)).trans hx151_4
  replace p151 := eq_true p151
  replace q151 := eq_true q151
  have p152 : 0 ≤ (0 : Int) := (by omega)
  have q152 : 0 < (l0.length : Int) := zdec
  obtain ⟨ad152, e152, hx152_0, hx152_1, hx152_2, hx152_3, hx152_4⟩ := at_T74 HR0.out 0 p152 q152
  have hw152_4 := hx152_4
  (try rw [show ((0 : Int)).toNat = 0 from rfl] at hw152_4)
  (try rw [show 0 * 5 = 0 from rfl] at hw152_4)
  (try rw [Addr.add_zero'] at hw152_4)
  have hw152_3 := hx152_3
  (try rw [show ((0 : Int)).toNat = 0 from rfl] at hw152_3)
  (try rw [show 0 * 5 = 0 from rfl] at hw152_3)
  (try rw [Addr.add_zero'] at hw152_3)
  have hw152_2 := hx152_2
  (try rw [show ((0 : Int)).toNat = 0 from rfl] at hw152_2)
  (try rw [show 0 * 5 = 0 from rfl] at hw152_2)
  (try rw [Addr.add_zero'] at hw152_2)
  have hw152_1 := hx152_1
  (try rw [show ((0 : Int)).toNat = 0 from rfl] at hw152_1)
  (try rw [show 0 * 5 = 0 from rfl] at hw152_1)
  (try rw [Addr.add_zero'] at hw152_1)
  have hw152_0 := hx152_0
  (try rw [show ((0 : Int)).toNat = 0 from rfl] at hw152_0)
  (try rw [show 0 * 5 = 0 from rfl] at hw152_0)
  (try rw [Addr.add_zero'] at hw152_0)
  obtain rfl : ad151 = ad152 := (by injection e152)
  have qi152 : (0 < l0.length) = True := eq_true (by omega)
  (try rw [show ((0 : Int)).toNat = 0 from rfl] at hx152_0)
  (try rw [show 0 * 5 = 0 from rfl] at hx152_0)
  (try rw [Addr.add_zero'] at hx152_0)
  (try rw [show ((0 : Int)).toNat = 0 from rfl] at hx152_1)
  (try rw [show 0 * 5 = 0 from rfl] at hx152_1)
  (try rw [Addr.add_zero'] at hx152_1)
  (try rw [show ((0 : Int)).toNat = 0 from rfl] at hx152_2)
  (try rw [show 0 * 5 = 0 from rfl] at hx152_2)
  (try rw [Addr.add_zero'] at hx152_2)
  (try rw [show ((0 : Int)).toNat = 0 from rfl] at hx152_3)
  (try rw [show 0 * 5 = 0 from rfl] at hx152_3)
  (try rw [Addr.add_zero'] at hx152_3)
  (try rw [show ((0 : Int)).toNat = 0 from rfl] at hx152_4)
  (try rw [show 0 * 5 = 0 from rfl] at hx152_4)
  (try rw [Addr.add_zero'] at hx152_4)
  replace hx152_0 := (HB.out.cell (World.block_lt_of_cell? w _ hx152_0)).trans hx152_0
  replace hx152_1 := (HB.out.cell (World.block_lt_of_cell? w _ hx152_1)).trans hx152_1
  replace hx152_2 := (HB.out.cell (World.block_lt_of_cell? w _ hx152_2)).trans hx152_2
  replace hx152_3 := (HB.out.cell (World.block_lt_of_cell? w _ hx152_3)).trans hx152_3
  replace hx152_4 := (HB.out.cell (World.block_lt_of_cell? w _ hx152_4)).trans hx152_4
  replace p152 := eq_true p152
  replace q152 := eq_true q152
  refine start_ (n := 11) (S := fun w' => w'.cell? ad151 = some (.int .i64 ((rd_T74 l0 0).f0)) ∧ w'.cell? ⟨ad151.block, ad151.off + 1, none⟩ = some (.int .i64 ((rd_T74 l0 0).f1)) ∧ w'.cell? ⟨ad151.block, ad151.off + 2, none⟩ = some (.int .i64 ((rd_T74 l0 0).f2)) ∧ w'.cell? ⟨ad151.block, ad151.off + 3, none⟩ = some (.int .i64 ((rd_T74 l0 0).f3)) ∧ w'.cell? ⟨ad151.block, ad151.off + 4, none⟩ = some (.int .i64 ((rd_T74 l0 0).f4)) ∧ w'.cell? ad151 = some (.int .i64 ((rd_T74 l0 0).f0)) ∧ w'.cell? ⟨ad151.block, ad151.off + 1, none⟩ = some (.int .i64 ((rd_T74 l0 0).f1)) ∧ w'.cell? ⟨ad151.block, ad151.off + 2, none⟩ = some (.int .i64 ((rd_T74 l0 0).f2)) ∧ w'.cell? ⟨ad151.block, ad151.off + 3, none⟩ = some (.int .i64 ((rd_T74 l0 0).f3)) ∧ w'.cell? ⟨ad151.block, ad151.off + 4, none⟩ = some (.int .i64 ((rd_T74 l0 0).f4))) (ds := []) #[false,false,false,false,false,false,false,false,false,false,false] (by kernel_rfl) rfl rfl ⟨((HB.out.cell (World.block_lt_of_cell? w _ hw151_0)).trans hw151_0), ((HB.out.cell (World.block_lt_of_cell? w _ hw151_1)).trans hw151_1), ((HB.out.cell (World.block_lt_of_cell? w _ hw151_2)).trans hw151_2), ((HB.out.cell (World.block_lt_of_cell? w _ hw151_3)).trans hw151_3), ((HB.out.cell (World.block_lt_of_cell? w _ hw151_4)).trans hw151_4), ((HB.out.cell (World.block_lt_of_cell? w _ hw152_0)).trans hw152_0), ((HB.out.cell (World.block_lt_of_cell? w _ hw152_1)).trans hw152_1), ((HB.out.cell (World.block_lt_of_cell? w _ hw152_2)).trans hw152_2), ((HB.out.cell (World.block_lt_of_cell? w _ hw152_3)).trans hw152_3), ((HB.out.cell (World.block_lt_of_cell? w _ hw152_4)).trans hw152_4)⟩ (fun hHeld => ?_); refine with_tabW bytes_pointer.tab1 bytes_pointer.bits1 (fun HT_ HW_ => ?_)
  generalize w3.drew = w4 at BK150 HB hx151_0 hx151_1 hx151_2 hx151_3 hx151_4 hx152_0 hx152_1 hx152_2 hx152_3 hx152_4 hHeld ⊢
  refine pure_ (i := 0) (N := some 8) (v := ?_) (a' := ?_) #[true,false,false,false,false,false,false,false,false,false,false] rfl rfl (any_of HT_.out (by kernel_rfl)) (fun _ _ _ h => h) (Or.inl ⟨by rfl, ?_⟩) ?_ ?_
  rotate_left
  ·intro w'
   go_simp
   with_reducible rfl
  rotate_left
  ·simp only [Act.put, List.setIfInBounds_toArray, List.set_cons_zero, List.set_cons_succ, i64_w, i32_w]
   rfl
  refine pure_ (i := 1) (N := some 9) (v := ?_) (a' := ?_) #[true,true,false,false,false,false,false,false,false,false,false] rfl rfl (any_of HT_.out (by kernel_rfl)) (fun _ _ _ h => h) (Or.inl ⟨by rfl, ?_⟩) ?_ ?_
  rotate_left
  ·intro w'
   go_simp
   with_reducible rfl
  rotate_left
  ·simp only [Act.put, List.setIfInBounds_toArray, List.set_cons_zero, List.set_cons_succ, i64_w, i32_w]
   rfl
  refine pure_ (i := 2) (N := some 10) (v := ?_) (a' := ?_) #[true,true,true,false,false,false,false,false,false,false,false] rfl rfl (any_of HT_.out (by kernel_rfl)) (fun _ _ _ h => h) (Or.inl ⟨by rfl, ?_⟩) ?_ ?_
  rotate_left
  ·intro w'
   go_simp
   with_reducible rfl
  rotate_left
  ·simp only [Act.put, List.setIfInBounds_toArray, List.set_cons_zero, List.set_cons_succ, i64_w, i32_w]
   rfl
  refine pure_ (i := 4) (N := some 12) (v := ?_) (a' := ?_) #[true,true,true,false,true,false,false,false,false,false,false] rfl rfl (any_of HT_.out (by kernel_rfl)) (fun _ _ _ h => h) (Or.inl ⟨by rfl, ?_⟩) ?_ ?_
  rotate_left
  ·intro w'
   go_simp
   with_reducible rfl
  rotate_left
  ·simp only [Act.put, List.setIfInBounds_toArray, List.set_cons_zero, List.set_cons_succ, i64_w, i32_w]
   rfl
  refine pure_ (i := 5) (N := some 13) (v := ?_) (a' := ?_) #[true,true,true,false,true,true,false,false,false,false,false] rfl rfl (any_of HT_.out (by kernel_rfl)) (fun _ _ _ h => h) (Or.inl ⟨by rfl, ?_⟩) ?_ ?_
  rotate_left
  ·intro w'
   go_simp
   with_reducible rfl
  rotate_left
  ·simp only [Act.put, List.setIfInBounds_toArray, List.set_cons_zero, List.set_cons_succ, i64_w, i32_w]
   rfl
  refine pure_ (i := 6) (N := some 14) (v := ?_) (a' := ?_) #[true,true,true,false,true,true,true,false,false,false,false] rfl rfl (any_of HT_.out (by kernel_rfl)) (fun _ _ _ h => h) (Or.inl ⟨by rfl, ?_⟩) ?_ ?_
  rotate_left
  ·intro w'
   go_simp
   with_reducible rfl
  rotate_left
  ·simp only [Act.put, List.setIfInBounds_toArray, List.set_cons_zero, List.set_cons_succ, i64_w, i32_w]
   rfl
  refine take_ (i := 3) (N := some 11) (v := ?_) (a' := ?_) #[true,true,true,true,true,true,true,false,false,false,false] rfl rfl (take_ofW HT_.out HW_.out (by kernel_rfl)) (fun _ _ _ h => h) (Or.inl ⟨by rfl, ?_⟩) hHeld ?_ ?_
  rotate_left
  ·rintro w' ⟨s0, s1, s2, s3, s4, s5, s6, s7, s8, s9⟩
   go_simp
   with_reducible rfl
  rotate_left
  ·simp only [Act.put, List.setIfInBounds_toArray, List.set_cons_zero, List.set_cons_succ, i64_w, i32_w]
   rfl
  refine take_ (i := 7) (N := some 15) (v := ?_) (a' := ?_) #[true,true,true,true,true,true,true,true,false,false,false] rfl rfl (take_ofW HT_.out HW_.out (by kernel_rfl)) (fun _ _ _ h => h) (Or.inl ⟨by rfl, ?_⟩) hHeld ?_ ?_
  rotate_left
  ·rintro w' ⟨s0, s1, s2, s3, s4, s5, s6, s7, s8, s9⟩
   go_simp
   with_reducible rfl
  rotate_left
  ·simp only [Act.put, List.setIfInBounds_toArray, List.set_cons_zero, List.set_cons_succ, i64_w, i32_w]
   rfl
  refine pure_ (i := 8) (N := some 16) (v := ?_) (a' := ?_) #[true,true,true,true,true,true,true,true,true,false,false] rfl rfl (any_of HT_.out (by kernel_rfl)) (fun _ _ _ h => h) (Or.inl ⟨by rfl, ?_⟩) ?_ ?_
  rotate_left
  ·intro w'
   go_simp
   with_reducible rfl
  rotate_left
  ·simp only [Act.put, List.setIfInBounds_toArray, List.set_cons_zero, List.set_cons_succ, i64_w, i32_w]
   rfl
  refine one_ (i := 9) (N := some 4) #[true,true,true,true,true,true,true,true,true,true,false] rfl rfl (one_of HT_.out (by kernel_rfl)) (by decide) (fun K hK => ?_)
  refine box_step ?hg (N := 4) ?hd (cs := #[.bool false, .int .i64 0, .int .i64 0, .int .i64 0]) (t := 62) ?hr ?_; (case hd => rfl); (case hg => rfl); (case hr => first | (go_simp; done) | (go_simp; rfl))
  intro gb153 hg w5 hbox hb
  have n0_ := Aside0.mk (blk_below (g := gb150) (o := .cells #[.bool false, .int .i64 0, .int .i64 0, .int .i64 0] 62 (0, 0)) (zb BK150.out) hb)
  have n1_ := Aside0.mk (below_step (zw1 HB.out GE150.out) hb)
  have n2_ := Aside0.mk (hbox)
  have n3_ := Aside0.mk ((by rw [hg]; exact (below_size (zw1 HB.out GE150.out)) : w.heap.size ≤ gb153))
  have n4_ := Aside0.mk ((by rw [hg]; exact (below_size (zw1 HB.out GE150.out)) : w.heap.size ≤ gb153))
  have n5_ := Aside0.mk ((by rw [hg]; exact Nat.ne_of_lt (blk_lt (g := gb150) (o := .cells #[.bool false, .int .i64 0, .int .i64 0, .int .i64 0] 62 (0, 0)) (zb BK150.out)) : gb150 ≠ gb153))
  have n6_ := Aside0.mk ((by rw [hg]; exact Nat.ne_of_gt (blk_lt (g := gb150) (o := .cells #[.bool false, .int .i64 0, .int .i64 0, .int .i64 0] 62 (0, 0)) (zb BK150.out)) : gb153 ≠ gb150))
  clear BK150
  clear HB
  have BK150 := n0_
  have HB := n1_
  have BK153 := n2_
  have GW153 := n3_
  have GE153 := n4_
  have NB150_153 := n5_
  have NB153_150 := n6_
  clear n0_ n1_ n2_ n3_ n4_ n5_ n6_
  clear hb hbox hg
  refine hK.out _ _ ⟨((HB.out.cell (World.block_lt_of_cell? w _ hw151_0)).trans hw151_0), ((HB.out.cell (World.block_lt_of_cell? w _ hw151_1)).trans hw151_1), ((HB.out.cell (World.block_lt_of_cell? w _ hw151_2)).trans hw151_2), ((HB.out.cell (World.block_lt_of_cell? w _ hw151_3)).trans hw151_3), ((HB.out.cell (World.block_lt_of_cell? w _ hw151_4)).trans hw151_4), ((HB.out.cell (World.block_lt_of_cell? w _ hw152_0)).trans hw152_0), ((HB.out.cell (World.block_lt_of_cell? w _ hw152_1)).trans hw152_1), ((HB.out.cell (World.block_lt_of_cell? w _ hw152_2)).trans hw152_2), ((HB.out.cell (World.block_lt_of_cell? w _ hw152_3)).trans hw152_3), ((HB.out.cell (World.block_lt_of_cell? w _ hw152_4)).trans hw152_4)⟩ (fun hHeld => ?_)
  clear hK K
  refine norm_ (a' := ?_) ?_ ?_
  rotate_left
  ·show Act.put _ (some 4) _ = _
   simp only [Act.put, List.setIfInBounds_toArray, List.set_cons_zero, List.set_cons_succ, i64_w, i32_w]
   rfl
  refine one_ (i := 10) (N := none) #[true,true,true,true,true,true,true,true,true,true,true] rfl rfl (one_of HT_.out (by kernel_rfl)) (by decide) (fun K hK => ?_)
  have hs6 : w5.cell? ⟨gb153, 0, none⟩ = some (.bool false) := (blk_cell BK153.out 0).trans rfl
  have hfs6 := blk_frozen BK153.out 0
  have hns6_0 := NB150_153.out
  have hms6_0 := NB153_150.out
  have hs7 : w5.cell? ⟨gb153, 1, none⟩ = some (.int .i64 0) := (blk_cell BK153.out 1).trans rfl
  have hfs7 := blk_frozen BK153.out 1
  have hns7_0 := NB150_153.out
  have hms7_0 := NB153_150.out
  have hs8 : w5.cell? ⟨gb153, 2, none⟩ = some (.int .i64 0) := (blk_cell BK153.out 2).trans rfl
  have hfs8 := blk_frozen BK153.out 2
  have hns8_0 := NB150_153.out
  have hms8_0 := NB153_150.out
  have hs9 : w5.cell? ⟨gb153, 3, none⟩ = some (.int .i64 0) := (blk_cell BK153.out 3).trans rfl
  have hfs9 := blk_frozen BK153.out 3
  have hns9_0 := NB150_153.out
  have hms9_0 := NB153_150.out
  refine skip_ (w1 := ?_) (by rfl) rfl ?_ ?_
  rotate_left
  ·go_simp
   rfl
  refine hK.out _ _ ⟨((cell_far (p := ⟨gb153, _, none⟩) (zx (zfar hw151_0 GW153.out)) _).trans (((cell_far (p := ⟨gb153, _, none⟩) (zx (zfar hw151_0 GW153.out)) _).trans (((cell_far (p := ⟨gb153, _, none⟩) (zx (zfar hw151_0 GW153.out)) _).trans (((cell_far (p := ⟨gb153, _, none⟩) (zx (zfar hw151_0 GW153.out)) _).trans (hHeld.1)))))))), ((cell_far (p := ⟨gb153, _, none⟩) (zx (zfar hw151_1 GW153.out)) _).trans (((cell_far (p := ⟨gb153, _, none⟩) (zx (zfar hw151_1 GW153.out)) _).trans (((cell_far (p := ⟨gb153, _, none⟩) (zx (zfar hw151_1 GW153.out)) _).trans (((cell_far (p := ⟨gb153, _, none⟩) (zx (zfar hw151_1 GW153.out)) _).trans (hHeld.2.1)))))))), ((cell_far (p := ⟨gb153, _, none⟩) (zx (zfar hw151_2 GW153.out)) _).trans (((cell_far (p := ⟨gb153, _, none⟩) (zx (zfar hw151_2 GW153.out)) _).trans (((cell_far (p := ⟨gb153, _, none⟩) (zx (zfar hw151_2 GW153.out)) _).trans (((cell_far (p := ⟨gb153, _, none⟩) (zx (zfar hw151_2 GW153.out)) _).trans (hHeld.2.2.1)))))))), ((cell_far (p := ⟨gb153, _, none⟩) (zx (zfar hw151_3 GW153.out)) _).trans (((cell_far (p := ⟨gb153, _, none⟩) (zx (zfar hw151_3 GW153.out)) _).trans (((cell_far (p := ⟨gb153, _, none⟩) (zx (zfar hw151_3 GW153.out)) _).trans (((cell_far (p := ⟨gb153, _, none⟩) (zx (zfar hw151_3 GW153.out)) _).trans (hHeld.2.2.2.1)))))))), ((cell_far (p := ⟨gb153, _, none⟩) (zx (zfar hw151_4 GW153.out)) _).trans (((cell_far (p := ⟨gb153, _, none⟩) (zx (zfar hw151_4 GW153.out)) _).trans (((cell_far (p := ⟨gb153, _, none⟩) (zx (zfar hw151_4 GW153.out)) _).trans (((cell_far (p := ⟨gb153, _, none⟩) (zx (zfar hw151_4 GW153.out)) _).trans (hHeld.2.2.2.2.1)))))))), ((cell_far (p := ⟨gb153, _, none⟩) (zx (zfar hw152_0 GW153.out)) _).trans (((cell_far (p := ⟨gb153, _, none⟩) (zx (zfar hw152_0 GW153.out)) _).trans (((cell_far (p := ⟨gb153, _, none⟩) (zx (zfar hw152_0 GW153.out)) _).trans (((cell_far (p := ⟨gb153, _, none⟩) (zx (zfar hw152_0 GW153.out)) _).trans (hHeld.2.2.2.2.2.1)))))))), ((cell_far (p := ⟨gb153, _, none⟩) (zx (zfar hw152_1 GW153.out)) _).trans (((cell_far (p := ⟨gb153, _, none⟩) (zx (zfar hw152_1 GW153.out)) _).trans (((cell_far (p := ⟨gb153, _, none⟩) (zx (zfar hw152_1 GW153.out)) _).trans (((cell_far (p := ⟨gb153, _, none⟩) (zx (zfar hw152_1 GW153.out)) _).trans (hHeld.2.2.2.2.2.2.1)))))))), ((cell_far (p := ⟨gb153, _, none⟩) (zx (zfar hw152_2 GW153.out)) _).trans (((cell_far (p := ⟨gb153, _, none⟩) (zx (zfar hw152_2 GW153.out)) _).trans (((cell_far (p := ⟨gb153, _, none⟩) (zx (zfar hw152_2 GW153.out)) _).trans (((cell_far (p := ⟨gb153, _, none⟩) (zx (zfar hw152_2 GW153.out)) _).trans (hHeld.2.2.2.2.2.2.2.1)))))))), ((cell_far (p := ⟨gb153, _, none⟩) (zx (zfar hw152_3 GW153.out)) _).trans (((cell_far (p := ⟨gb153, _, none⟩) (zx (zfar hw152_3 GW153.out)) _).trans (((cell_far (p := ⟨gb153, _, none⟩) (zx (zfar hw152_3 GW153.out)) _).trans (((cell_far (p := ⟨gb153, _, none⟩) (zx (zfar hw152_3 GW153.out)) _).trans (hHeld.2.2.2.2.2.2.2.2.1)))))))), ((cell_far (p := ⟨gb153, _, none⟩) (zx (zfar hw152_4 GW153.out)) _).trans (((cell_far (p := ⟨gb153, _, none⟩) (zx (zfar hw152_4 GW153.out)) _).trans (((cell_far (p := ⟨gb153, _, none⟩) (zx (zfar hw152_4 GW153.out)) _).trans (((cell_far (p := ⟨gb153, _, none⟩) (zx (zfar hw152_4 GW153.out)) _).trans (hHeld.2.2.2.2.2.2.2.2.2))))))))⟩ (fun hHeld => ?_)
  clear hK K
  refine done_ (done_of HT_.out (by kernel_rfl)) ?_
  try go_wp2
  go_loopg [19] k (fun kq v19 w' => ∃ (x19_1 : Int) (x151000_1 : Bool) (x151001_1 : Int) (x151002_1 : Int) (x151003_1 : Int), v19 = .int .i64 x19_1 ∧ Aside0 (bytes_pointer.l0 kq l0 (l0.length : Int) x19_1 true 0 ((rd_T74 l0 0).f2) ((rd_T74 l0 0).f3) = some (r1, r2, r3, r4, r5)) ∧ Aside0 (kq ≤ k) ∧ Aside0 (w'.heap[gb150]? = some (.cells #[.bool x151000_1, .int .i64 x151001_1, .int .i64 x151002_1, .int .i64 x151003_1] 62 (0, 0))) ∧ Aside0 (w'.heap[gb153]? = some (.cells #[.bool true, .int .i64 0, .int .i64 ((rd_T74 l0 0).f2), .int .i64 ((rd_T74 l0 0).f3)] 62 (0, 0))) ∧ Aside0 (Below w.heap.size w w'))
  case atStart => exact ⟨(0), (false), (0), (0), (0), (by first | rfl | (simp; done) | (simp [*]; done)), H', ⟨Nat.le_refl _⟩, ⟨zf1 BK150.out NB150_153.out⟩, ⟨by (with_reducible repeat (first | refine blk_drewN ?_ _ | refine blk_drew ?_ | refine blk_alloc ?_ _)); refine blk_put (cs := #[.bool true, .int .i64 0, .int .i64 ((rd_T74 l0 0).f2), .int .i64 0]) ?_ 3 _ rfl; (with_reducible repeat (first | refine blk_drewN ?_ _ | refine blk_drew ?_ | refine blk_alloc ?_ _)); refine blk_put (cs := #[.bool true, .int .i64 0, .int .i64 0, .int .i64 0]) ?_ 2 _ rfl; (with_reducible repeat (first | refine blk_drewN ?_ _ | refine blk_drew ?_ | refine blk_alloc ?_ _)); refine blk_put (cs := #[.bool true, .int .i64 0, .int .i64 0, .int .i64 0]) ?_ 1 _ rfl; (with_reducible repeat (first | refine blk_drewN ?_ _ | refine blk_drew ?_ | refine blk_alloc ?_ _)); refine blk_put (cs := #[.bool false, .int .i64 0, .int .i64 0, .int .i64 0]) ?_ 0 _ rfl; (with_reducible repeat (first | refine blk_drewN ?_ _ | refine blk_drew ?_ | refine blk_alloc ?_ _)); exact BK153.out⟩, ⟨zw2 HB.out GE150.out GE153.out⟩⟩
  case round =>
   clear H'
   try clear c1
   try clear p1
   try clear q1
   try clear hx1
   try clear qi1
   try clear c2
   try clear c2b0
   try clear c2b1
   try clear p2
   try clear hx151_0
   try clear hx151_1
   try clear hx151_2
   try clear hx151_3
   try clear hx151_4
   try clear hx152_0
   try clear hx152_1
   try clear hx152_2
   try clear hx152_3
   try clear hx152_4
   try clear p151
   try clear p152
   try clear q151
   try clear q152
   obtain ⟨x19_1, x151000_1, x151001_1, x151002_1, x151003_1, rfl, HA, HK1, BK150, BK153, HB⟩ := hrel
   cases gk with
   | zero => exact absurd HA.out (by simp [bytes_pointer.l0])
   | succ k1 =>
    have H := HA.out
    clear HA
    simp only [bytes_pointer.l0] at H
    by_cases c10 : x19_1 < (l0.length : Int)
    ·rw [if_pos c10] at H
     have c10b0 : decide (x19_1 < (l0.length : Int)) = true := decide_eq_true c10
     clear c10
     by_cases c11 : 0 ≤ x19_1
     ·rw [if_pos c11] at H
      have c11b0 : decide (0 ≤ x19_1) = true := decide_eq_true c11
      clear c11
      by_cases c12 : x19_1 < (l0.length : Int)
      ·rw [if_pos c12] at H
       have c12b0 : decide (x19_1 < (l0.length : Int)) = true := decide_eq_true c12
       clear c12
       have HC13 := Aside0.mk H
       clear H
       have p154 : 0 ≤ (x19_1 : Int) := zdec
       have q154 : x19_1 < (l0.length : Int) := zdec
       obtain ⟨ad154, e154, hx154_0, hx154_1, hx154_2, hx154_3, hx154_4⟩ := at_T74 HR0.out x19_1 p154 q154
       obtain rfl : ad151 = ad154 := (by injection e154)
       replace hx154_0 := (HB.out.cell (World.block_lt_of_cell? w _ hx154_0)).trans hx154_0
       replace hx154_1 := (HB.out.cell (World.block_lt_of_cell? w _ hx154_1)).trans hx154_1
       replace hx154_2 := (HB.out.cell (World.block_lt_of_cell? w _ hx154_2)).trans hx154_2
       replace hx154_3 := (HB.out.cell (World.block_lt_of_cell? w _ hx154_3)).trans hx154_3
       replace hx154_4 := (HB.out.cell (World.block_lt_of_cell? w _ hx154_4)).trans hx154_4
       replace p154 := eq_true p154
       replace q154 := eq_true q154
       go_upto_if 27 with (first | ((with_reducible refine gate_dst (N := 6) rfl ?_); refine box_event ?hg (N := 6) ?hd (cs := #[.int .i64 0, .int .i64 0, .int .i64 0, .int .i64 0, .int .i64 0]) (t := 74) ?hr ?_; (case hd => rfl); (case hg => rfl); (case hr => first | (go_simp; done) | (go_simp; rfl)); intro gb155 hg w14 hbox hb; have n0_ := Aside0.mk (blk_below (g := gb150) (o := .cells #[.bool x151000_1, .int .i64 x151001_1, .int .i64 x151002_1, .int .i64 x151003_1] 62 (0, 0)) (zb BK150.out) hb); have n1_ := Aside0.mk (blk_below (g := gb153) (o := .cells #[.bool true, .int .i64 0, .int .i64 ((rd_T74 l0 0).f2), .int .i64 ((rd_T74 l0 0).f3)] 62 (0, 0)) (zb BK153.out) hb); have n2_ := Aside0.mk (below_step (zw2 HB.out GE150.out GE153.out) hb); have n3_ := Aside0.mk (hbox); have n4_ := Aside0.mk ((by rw [hg]; exact (below_size (zw2 HB.out GE150.out GE153.out)) : w.heap.size ≤ gb155)); have n5_ := Aside0.mk ((by rw [hg]; exact (below_size (zw2 HB.out GE150.out GE153.out)) : w.heap.size ≤ gb155)); have n6_ := Aside0.mk ((by rw [hg]; exact Nat.ne_of_lt (blk_lt (g := gb150) (o := .cells #[.bool x151000_1, .int .i64 x151001_1, .int .i64 x151002_1, .int .i64 x151003_1] 62 (0, 0)) (zb BK150.out)) : gb150 ≠ gb155)); have n7_ := Aside0.mk ((by rw [hg]; exact Nat.ne_of_gt (blk_lt (g := gb150) (o := .cells #[.bool x151000_1, .int .i64 x151001_1, .int .i64 x151002_1, .int .i64 x151003_1] 62 (0, 0)) (zb BK150.out)) : gb155 ≠ gb150)); have n8_ := Aside0.mk ((by rw [hg]; exact Nat.ne_of_lt (blk_lt (g := gb153) (o := .cells #[.bool true, .int .i64 0, .int .i64 ((rd_T74 l0 0).f2), .int .i64 ((rd_T74 l0 0).f3)] 62 (0, 0)) (zb BK153.out)) : gb153 ≠ gb155)); have n9_ := Aside0.mk ((by rw [hg]; exact Nat.ne_of_gt (blk_lt (g := gb153) (o := .cells #[.bool true, .int .i64 0, .int .i64 ((rd_T74 l0 0).f2), .int .i64 ((rd_T74 l0 0).f3)] 62 (0, 0)) (zb BK153.out)) : gb155 ≠ gb153)); clear BK150; clear BK153; clear HB; have BK150 := n0_; have BK153 := n1_; have HB := n2_; have BK155 := n3_; have GW155 := n4_; have GE155 := n5_; have NB150_155 := n6_; have NB155_150 := n7_; have NB153_155 := n8_; have NB155_153 := n9_; clear n0_ n1_ n2_ n3_ n4_ n5_ n6_ n7_ n8_ n9_; clear hb hbox hg; have hnb15 := NB155_150.out; have hnc15 := NB150_155.out; have hnb16 := NB155_153.out; have hnc16 := NB153_155.out; have hcz17_0 : w14.cell? ⟨gb155, 0, none⟩ = some (.int .i64 0) := (blk_cell BK155.out 0).trans rfl; have hcz17_1 : w14.cell? ⟨gb155, 1, none⟩ = some (.int .i64 0) := (blk_cell BK155.out 1).trans rfl; have hcz17_2 : w14.cell? ⟨gb155, 2, none⟩ = some (.int .i64 0) := (blk_cell BK155.out 2).trans rfl; have hcz17_3 : w14.cell? ⟨gb155, 3, none⟩ = some (.int .i64 0) := (blk_cell BK155.out 3).trans rfl; have hcz17_4 : w14.cell? ⟨gb155, 4, none⟩ = some (.int .i64 0) := (blk_cell BK155.out 4).trans rfl; have hfz17_0 := blk_frozen BK155.out 0; have hfz17_1 := blk_frozen BK155.out 1; have hfz17_2 := blk_frozen BK155.out 2; have hfz17_3 := blk_frozen BK155.out 3; have hfz17_4 := blk_frozen BK155.out 4) | ((with_reducible refine gate_dst (N := 7) rfl ?_); refine box_event ?hg (N := 7) ?hd (cs := #[.int .i64 0, .int .i64 0, .int .i64 0, .int .i64 0, .int .i64 0]) (t := 74) ?hr ?_; (case hd => rfl); (case hg => rfl); (case hr => first | (go_simp; done) | (go_simp; rfl)); intro gb156 hg w18 hbox hb; have n0_ := Aside0.mk (blk_below (g := gb150) (o := .cells #[.bool x151000_1, .int .i64 x151001_1, .int .i64 x151002_1, .int .i64 x151003_1] 62 (0, 0)) (zf1 BK150.out NB150_155.out) hb); have n1_ := Aside0.mk (blk_below (g := gb153) (o := .cells #[.bool true, .int .i64 0, .int .i64 ((rd_T74 l0 0).f2), .int .i64 ((rd_T74 l0 0).f3)] 62 (0, 0)) (zf1 BK153.out NB153_155.out) hb); have n2_ := Aside0.mk (blk_below (g := gb155) (o := .cells #[.int .i64 ((rd_T74 l0 x19_1).f0), .int .i64 ((rd_T74 l0 x19_1).f1), .int .i64 ((rd_T74 l0 x19_1).f2), .int .i64 ((rd_T74 l0 x19_1).f3), .int .i64 ((rd_T74 l0 x19_1).f4)] 74 (0, 0)) (by (with_reducible repeat (first | refine blk_drewN ?_ _ | refine blk_drew ?_ | refine blk_alloc ?_ _)); refine blk_put (cs := #[.int .i64 ((rd_T74 l0 x19_1).f0), .int .i64 ((rd_T74 l0 x19_1).f1), .int .i64 ((rd_T74 l0 x19_1).f2), .int .i64 ((rd_T74 l0 x19_1).f3), .int .i64 0]) ?_ 4 _ rfl; (with_reducible repeat (first | refine blk_drewN ?_ _ | refine blk_drew ?_ | refine blk_alloc ?_ _)); refine blk_put (cs := #[.int .i64 ((rd_T74 l0 x19_1).f0), .int .i64 ((rd_T74 l0 x19_1).f1), .int .i64 ((rd_T74 l0 x19_1).f2), .int .i64 0, .int .i64 0]) ?_ 3 _ rfl; (with_reducible repeat (first | refine blk_drewN ?_ _ | refine blk_drew ?_ | refine blk_alloc ?_ _)); refine blk_put (cs := #[.int .i64 ((rd_T74 l0 x19_1).f0), .int .i64 ((rd_T74 l0 x19_1).f1), .int .i64 0, .int .i64 0, .int .i64 0]) ?_ 2 _ rfl; (with_reducible repeat (first | refine blk_drewN ?_ _ | refine blk_drew ?_ | refine blk_alloc ?_ _)); refine blk_put (cs := #[.int .i64 ((rd_T74 l0 x19_1).f0), .int .i64 0, .int .i64 0, .int .i64 0, .int .i64 0]) ?_ 1 _ rfl; (with_reducible repeat (first | refine blk_drewN ?_ _ | refine blk_drew ?_ | refine blk_alloc ?_ _)); refine blk_put (cs := #[.int .i64 0, .int .i64 0, .int .i64 0, .int .i64 0, .int .i64 0]) ?_ 0 _ rfl; (with_reducible repeat (first | refine blk_drewN ?_ _ | refine blk_drew ?_ | refine blk_alloc ?_ _)); exact BK155.out) hb); have n3_ := Aside0.mk (below_step (zw3 HB.out GE150.out GE153.out GE155.out) hb); have n4_ := Aside0.mk (hbox); have n5_ := Aside0.mk ((by rw [hg]; exact (below_size (zw3 HB.out GE150.out GE153.out GE155.out)) : w.heap.size ≤ gb156)); have n6_ := Aside0.mk ((by rw [hg]; exact (below_size (zw3 HB.out GE150.out GE153.out GE155.out)) : w.heap.size ≤ gb156)); have n7_ := Aside0.mk ((by rw [hg]; exact Nat.ne_of_lt (blk_lt (g := gb150) (o := .cells #[.bool x151000_1, .int .i64 x151001_1, .int .i64 x151002_1, .int .i64 x151003_1] 62 (0, 0)) (zf1 BK150.out NB150_155.out)) : gb150 ≠ gb156)); have n8_ := Aside0.mk ((by rw [hg]; exact Nat.ne_of_gt (blk_lt (g := gb150) (o := .cells #[.bool x151000_1, .int .i64 x151001_1, .int .i64 x151002_1, .int .i64 x151003_1] 62 (0, 0)) (zf1 BK150.out NB150_155.out)) : gb156 ≠ gb150)); have n9_ := Aside0.mk ((by rw [hg]; exact Nat.ne_of_lt (blk_lt (g := gb153) (o := .cells #[.bool true, .int .i64 0, .int .i64 ((rd_T74 l0 0).f2), .int .i64 ((rd_T74 l0 0).f3)] 62 (0, 0)) (zf1 BK153.out NB153_155.out)) : gb153 ≠ gb156)); have n10_ := Aside0.mk ((by rw [hg]; exact Nat.ne_of_gt (blk_lt (g := gb153) (o := .cells #[.bool true, .int .i64 0, .int .i64 ((rd_T74 l0 0).f2), .int .i64 ((rd_T74 l0 0).f3)] 62 (0, 0)) (zf1 BK153.out NB153_155.out)) : gb156 ≠ gb153)); have n11_ := Aside0.mk ((by rw [hg]; exact Nat.ne_of_lt (blk_lt (g := gb155) (o := .cells #[.int .i64 ((rd_T74 l0 x19_1).f0), .int .i64 ((rd_T74 l0 x19_1).f1), .int .i64 ((rd_T74 l0 x19_1).f2), .int .i64 ((rd_T74 l0 x19_1).f3), .int .i64 ((rd_T74 l0 x19_1).f4)] 74 (0, 0)) (by (with_reducible repeat (first | refine blk_drewN ?_ _ | refine blk_drew ?_ | refine blk_alloc ?_ _)); refine blk_put (cs := #[.int .i64 ((rd_T74 l0 x19_1).f0), .int .i64 ((rd_T74 l0 x19_1).f1), .int .i64 ((rd_T74 l0 x19_1).f2), .int .i64 ((rd_T74 l0 x19_1).f3), .int .i64 0]) ?_ 4 _ rfl; (with_reducible repeat (first | refine blk_drewN ?_ _ | refine blk_drew ?_ | refine blk_alloc ?_ _)); refine blk_put (cs := #[.int .i64 ((rd_T74 l0 x19_1).f0), .int .i64 ((rd_T74 l0 x19_1).f1), .int .i64 ((rd_T74 l0 x19_1).f2), .int .i64 0, .int .i64 0]) ?_ 3 _ rfl; (with_reducible repeat (first | refine blk_drewN ?_ _ | refine blk_drew ?_ | refine blk_alloc ?_ _)); refine blk_put (cs := #[.int .i64 ((rd_T74 l0 x19_1).f0), .int .i64 ((rd_T74 l0 x19_1).f1), .int .i64 0, .int .i64 0, .int .i64 0]) ?_ 2 _ rfl; (with_reducible repeat (first | refine blk_drewN ?_ _ | refine blk_drew ?_ | refine blk_alloc ?_ _)); refine blk_put (cs := #[.int .i64 ((rd_T74 l0 x19_1).f0), .int .i64 0, .int .i64 0, .int .i64 0, .int .i64 0]) ?_ 1 _ rfl; (with_reducible repeat (first | refine blk_drewN ?_ _ | refine blk_drew ?_ | refine blk_alloc ?_ _)); refine blk_put (cs := #[.int .i64 0, .int .i64 0, .int .i64 0, .int .i64 0, .int .i64 0]) ?_ 0 _ rfl; (with_reducible repeat (first | refine blk_drewN ?_ _ | refine blk_drew ?_ | refine blk_alloc ?_ _)); exact BK155.out)) : gb155 ≠ gb156)); have n12_ := Aside0.mk ((by rw [hg]; exact Nat.ne_of_gt (blk_lt (g := gb155) (o := .cells #[.int .i64 ((rd_T74 l0 x19_1).f0), .int .i64 ((rd_T74 l0 x19_1).f1), .int .i64 ((rd_T74 l0 x19_1).f2), .int .i64 ((rd_T74 l0 x19_1).f3), .int .i64 ((rd_T74 l0 x19_1).f4)] 74 (0, 0)) (by (with_reducible repeat (first | refine blk_drewN ?_ _ | refine blk_drew ?_ | refine blk_alloc ?_ _)); refine blk_put (cs := #[.int .i64 ((rd_T74 l0 x19_1).f0), .int .i64 ((rd_T74 l0 x19_1).f1), .int .i64 ((rd_T74 l0 x19_1).f2), .int .i64 ((rd_T74 l0 x19_1).f3), .int .i64 0]) ?_ 4 _ rfl; (with_reducible repeat (first | refine blk_drewN ?_ _ | refine blk_drew ?_ | refine blk_alloc ?_ _)); refine blk_put (cs := #[.int .i64 ((rd_T74 l0 x19_1).f0), .int .i64 ((rd_T74 l0 x19_1).f1), .int .i64 ((rd_T74 l0 x19_1).f2), .int .i64 0, .int .i64 0]) ?_ 3 _ rfl; (with_reducible repeat (first | refine blk_drewN ?_ _ | refine blk_drew ?_ | refine blk_alloc ?_ _)); refine blk_put (cs := #[.int .i64 ((rd_T74 l0 x19_1).f0), .int .i64 ((rd_T74 l0 x19_1).f1), .int .i64 0, .int .i64 0, .int .i64 0]) ?_ 2 _ rfl; (with_reducible repeat (first | refine blk_drewN ?_ _ | refine blk_drew ?_ | refine blk_alloc ?_ _)); refine blk_put (cs := #[.int .i64 ((rd_T74 l0 x19_1).f0), .int .i64 0, .int .i64 0, .int .i64 0, .int .i64 0]) ?_ 1 _ rfl; (with_reducible repeat (first | refine blk_drewN ?_ _ | refine blk_drew ?_ | refine blk_alloc ?_ _)); refine blk_put (cs := #[.int .i64 0, .int .i64 0, .int .i64 0, .int .i64 0, .int .i64 0]) ?_ 0 _ rfl; (with_reducible repeat (first | refine blk_drewN ?_ _ | refine blk_drew ?_ | refine blk_alloc ?_ _)); exact BK155.out)) : gb156 ≠ gb155)); clear BK150; clear BK153; clear BK155; clear HB; have BK150 := n0_; have BK153 := n1_; have BK155 := n2_; have HB := n3_; have BK156 := n4_; have GW156 := n5_; have GE156 := n6_; have NB150_156 := n7_; have NB156_150 := n8_; have NB153_156 := n9_; have NB156_153 := n10_; have NB155_156 := n11_; have NB156_155 := n12_; clear n0_ n1_ n2_ n3_ n4_ n5_ n6_ n7_ n8_ n9_ n10_ n11_ n12_; clear hb hbox hg; have hnb19 := NB156_150.out; have hnc19 := NB150_156.out; have hnb20 := NB156_153.out; have hnc20 := NB153_156.out; have hnb21 := NB156_155.out; have hnc21 := NB155_156.out; have hcz22_0 : w18.cell? ⟨gb156, 0, none⟩ = some (.int .i64 0) := (blk_cell BK156.out 0).trans rfl; have hcz22_1 : w18.cell? ⟨gb156, 1, none⟩ = some (.int .i64 0) := (blk_cell BK156.out 1).trans rfl; have hcz22_2 : w18.cell? ⟨gb156, 2, none⟩ = some (.int .i64 0) := (blk_cell BK156.out 2).trans rfl; have hcz22_3 : w18.cell? ⟨gb156, 3, none⟩ = some (.int .i64 0) := (blk_cell BK156.out 3).trans rfl; have hcz22_4 : w18.cell? ⟨gb156, 4, none⟩ = some (.int .i64 0) := (blk_cell BK156.out 4).trans rfl; have hfz22_0 := blk_frozen BK156.out 0; have hfz22_1 := blk_frozen BK156.out 1; have hfz22_2 := blk_frozen BK156.out 2; have hfz22_3 := blk_frozen BK156.out 3; have hfz22_4 := blk_frozen BK156.out 4; have hnb23 := NB153_150.out; have hnc23 := NB150_153.out; have hcz24_0 : w18.cell? ⟨gb153, 0, none⟩ = some (.bool true) := (blk_cell BK153.out 0).trans rfl; have hcz24_1 : w18.cell? ⟨gb153, 1, none⟩ = some (.int .i64 0) := (blk_cell BK153.out 1).trans rfl; have hcz24_2 : w18.cell? ⟨gb153, 2, none⟩ = some (.int .i64 ((rd_T74 l0 0).f2)) := (blk_cell BK153.out 2).trans rfl; have hcz24_3 : w18.cell? ⟨gb153, 3, none⟩ = some (.int .i64 ((rd_T74 l0 0).f3)) := (blk_cell BK153.out 3).trans rfl; have hfz24_0 := blk_frozen BK153.out 0; have hfz24_1 := blk_frozen BK153.out 1; have hfz24_2 := blk_frozen BK153.out 2; have hfz24_3 := blk_frozen BK153.out 3))
       (try simp only [Act.put, List.setIfInBounds_toArray, List.set_cons_zero, List.set_cons_succ])
       go_cut [] (fun wc => ∃ (kq : Nat) (x157000_12 : Int) (x157001_12 : Int) (x157002_12 : Int) (x157003_12 : Int) (x157004_12 : Int), Aside0 (bytes_pointer.j1 kq l0 (l0.length : Int) x19_1 true 0 ((rd_T74 l0 0).f2) ((rd_T74 l0 0).f3) ((rd_T74 l0 x19_1).f0) ((rd_T74 l0 x19_1).f1) ((rd_T74 l0 x19_1).f2) ((rd_T74 l0 x19_1).f3) ((rd_T74 l0 x19_1).f4) x157000_12 x157001_12 x157002_12 x157003_12 x157004_12 = some (r1, r2, r3, r4, r5)) ∧ Aside0 (kq ≤ k1) ∧ Aside0 (wc.heap[gb150]? = some (.cells #[.bool x151000_1, .int .i64 x151001_1, .int .i64 x151002_1, .int .i64 x151003_1] 62 (0, 0))) ∧ Aside0 (wc.heap[gb153]? = some (.cells #[.bool true, .int .i64 0, .int .i64 ((rd_T74 l0 0).f2), .int .i64 ((rd_T74 l0 0).f3)] 62 (0, 0))) ∧ Aside0 (wc.heap[gb155]? = some (.cells #[.int .i64 ((rd_T74 l0 x19_1).f0), .int .i64 ((rd_T74 l0 x19_1).f1), .int .i64 ((rd_T74 l0 x19_1).f2), .int .i64 ((rd_T74 l0 x19_1).f3), .int .i64 ((rd_T74 l0 x19_1).f4)] 74 (0, 0))) ∧ Aside0 (wc.heap[gb156]? = some (.cells #[.int .i64 x157000_12, .int .i64 x157001_12, .int .i64 x157002_12, .int .i64 x157003_12, .int .i64 x157004_12] 74 (0, 0))) ∧ Aside0 (Below w.heap.size w wc))
       case first =>
        have H := HC13.out
        clear HC13
        by_cases c25 : ((rd_T74 l0 0).f2) > 0
        ·rw [if_pos c25] at H
         have c25b0 : decide (0 < ((rd_T74 l0 0).f2)) = true := decide_eq_true c25
         clear c25
         (first | rw [c25b0] | (simp only [i64_w, i32_w]; rw [c25b0]) | skip)
         have H' := Aside0.mk H
         clear H
         have hnb26 := NB153_150.out
         have hnc26 := NB150_153.out
         have hnb27 := NB153_155.out
         have hnc27 := NB155_153.out
         have hnb28 := NB153_156.out
         have hnc28 := NB156_153.out
         have hcz29_0 : w18.cell? ⟨gb153, 0, none⟩ = some (.bool true) := (blk_cell BK153.out 0).trans rfl
         have hcz29_1 : w18.cell? ⟨gb153, 1, none⟩ = some (.int .i64 0) := (blk_cell BK153.out 1).trans rfl
         have hcz29_2 : w18.cell? ⟨gb153, 2, none⟩ = some (.int .i64 ((rd_T74 l0 0).f2)) := (blk_cell BK153.out 2).trans rfl
         have hcz29_3 : w18.cell? ⟨gb153, 3, none⟩ = some (.int .i64 ((rd_T74 l0 0).f3)) := (blk_cell BK153.out 3).trans rfl
         have hfz29_0 := blk_frozen BK153.out 0
         have hfz29_1 := blk_frozen BK153.out 1
         have hfz29_2 := blk_frozen BK153.out 2
         have hfz29_3 := blk_frozen BK153.out 3
         have hnb30 := NB156_150.out
         have hnc30 := NB150_156.out
         have hnb31 := NB156_155.out
         have hnc31 := NB155_156.out
         have hcz32_0 : w18.cell? ⟨gb156, 0, none⟩ = some (.int .i64 0) := (blk_cell BK156.out 0).trans rfl
         have hcz32_1 : w18.cell? ⟨gb156, 1, none⟩ = some (.int .i64 0) := (blk_cell BK156.out 1).trans rfl
         have hcz32_2 : w18.cell? ⟨gb156, 2, none⟩ = some (.int .i64 0) := (blk_cell BK156.out 2).trans rfl
         have hcz32_3 : w18.cell? ⟨gb156, 3, none⟩ = some (.int .i64 0) := (blk_cell BK156.out 3).trans rfl
         have hcz32_4 : w18.cell? ⟨gb156, 4, none⟩ = some (.int .i64 0) := (blk_cell BK156.out 4).trans rfl
         have hfz32_0 := blk_frozen BK156.out 0
         have hfz32_1 := blk_frozen BK156.out 1
         have hfz32_2 := blk_frozen BK156.out 2
         have hfz32_3 := blk_frozen BK156.out 3
         have hfz32_4 := blk_frozen BK156.out 4
         go_wp2
         go_meet
         case rel => exact ⟨_, (2), (0), (((rd_T74 l0 0).f2)), (((rd_T74 l0 0).f3)), (x19_1), H', ⟨by have := HK1.out; first | omega | exact Nat.le_refl _⟩, ⟨zf1 BK150.out NB150_156.out⟩, ⟨zf1 BK153.out NB153_156.out⟩, ⟨zf1 BK155.out NB155_156.out⟩, ⟨by (with_reducible repeat (first | refine blk_drewN ?_ _ | refine blk_drew ?_ | refine blk_alloc ?_ _)); refine blk_put (cs := #[.int .i64 2, .int .i64 0, .int .i64 ((rd_T74 l0 0).f2), .int .i64 ((rd_T74 l0 0).f3), .int .i64 0]) ?_ 4 _ rfl; (with_reducible repeat (first | refine blk_drewN ?_ _ | refine blk_drew ?_ | refine blk_alloc ?_ _)); refine blk_put (cs := #[.int .i64 2, .int .i64 0, .int .i64 ((rd_T74 l0 0).f2), .int .i64 0, .int .i64 0]) ?_ 3 _ rfl; (with_reducible repeat (first | refine blk_drewN ?_ _ | refine blk_drew ?_ | refine blk_alloc ?_ _)); refine blk_put (cs := #[.int .i64 2, .int .i64 0, .int .i64 0, .int .i64 0, .int .i64 0]) ?_ 2 _ rfl; (with_reducible repeat (first | refine blk_drewN ?_ _ | refine blk_drew ?_ | refine blk_alloc ?_ _)); refine blk_put (cs := #[.int .i64 2, .int .i64 0, .int .i64 0, .int .i64 0, .int .i64 0]) ?_ 1 _ rfl; (with_reducible repeat (first | refine blk_drewN ?_ _ | refine blk_drew ?_ | refine blk_alloc ?_ _)); refine blk_put (cs := #[.int .i64 1, .int .i64 0, .int .i64 0, .int .i64 0, .int .i64 0]) ?_ 0 _ rfl; (with_reducible repeat (first | refine blk_drewN ?_ _ | refine blk_drew ?_ | refine blk_alloc ?_ _)); refine blk_put (cs := #[.int .i64 1, .int .i64 0, .int .i64 0, .int .i64 0, .int .i64 0]) ?_ 4 _ rfl; (with_reducible repeat (first | refine blk_drewN ?_ _ | refine blk_drew ?_ | refine blk_alloc ?_ _)); refine blk_put (cs := #[.int .i64 1, .int .i64 0, .int .i64 0, .int .i64 0, .int .i64 0]) ?_ 3 _ rfl; (with_reducible repeat (first | refine blk_drewN ?_ _ | refine blk_drew ?_ | refine blk_alloc ?_ _)); refine blk_put (cs := #[.int .i64 1, .int .i64 0, .int .i64 0, .int .i64 0, .int .i64 0]) ?_ 2 _ rfl; (with_reducible repeat (first | refine blk_drewN ?_ _ | refine blk_drew ?_ | refine blk_alloc ?_ _)); refine blk_put (cs := #[.int .i64 1, .int .i64 0, .int .i64 0, .int .i64 0, .int .i64 0]) ?_ 1 _ rfl; (with_reducible repeat (first | refine blk_drewN ?_ _ | refine blk_drew ?_ | refine blk_alloc ?_ _)); refine blk_put (cs := #[.int .i64 0, .int .i64 0, .int .i64 0, .int .i64 0, .int .i64 0]) ?_ 0 _ rfl; (with_reducible repeat (first | refine blk_drewN ?_ _ | refine blk_drew ?_ | refine blk_alloc ?_ _)); exact BK156.out⟩, ⟨zw4 HB.out GE150.out GE153.out GE155.out GE156.out⟩⟩
        ·rw [if_neg c25] at H
         have c25b0 : decide (0 < ((rd_T74 l0 0).f2)) = false := decide_eq_false c25
         clear c25
         (first | rw [c25b0] | (simp only [i64_w, i32_w]; rw [c25b0]) | skip)
         have H' := Aside0.mk H
         clear H
         go_wp2
         go_meet
         case rel => exact ⟨_, (1), (0), (0), (0), (0), H', ⟨by have := HK1.out; first | omega | exact Nat.le_refl _⟩, ⟨zf1 BK150.out NB150_156.out⟩, ⟨zf1 BK153.out NB153_156.out⟩, ⟨zf1 BK155.out NB155_156.out⟩, ⟨by (with_reducible repeat (first | refine blk_drewN ?_ _ | refine blk_drew ?_ | refine blk_alloc ?_ _)); refine blk_put (cs := #[.int .i64 1, .int .i64 0, .int .i64 0, .int .i64 0, .int .i64 0]) ?_ 4 _ rfl; (with_reducible repeat (first | refine blk_drewN ?_ _ | refine blk_drew ?_ | refine blk_alloc ?_ _)); refine blk_put (cs := #[.int .i64 1, .int .i64 0, .int .i64 0, .int .i64 0, .int .i64 0]) ?_ 3 _ rfl; (with_reducible repeat (first | refine blk_drewN ?_ _ | refine blk_drew ?_ | refine blk_alloc ?_ _)); refine blk_put (cs := #[.int .i64 1, .int .i64 0, .int .i64 0, .int .i64 0, .int .i64 0]) ?_ 2 _ rfl; (with_reducible repeat (first | refine blk_drewN ?_ _ | refine blk_drew ?_ | refine blk_alloc ?_ _)); refine blk_put (cs := #[.int .i64 1, .int .i64 0, .int .i64 0, .int .i64 0, .int .i64 0]) ?_ 1 _ rfl; (with_reducible repeat (first | refine blk_drewN ?_ _ | refine blk_drew ?_ | refine blk_alloc ?_ _)); refine blk_put (cs := #[.int .i64 0, .int .i64 0, .int .i64 0, .int .i64 0, .int .i64 0]) ?_ 0 _ rfl; (with_reducible repeat (first | refine blk_drewN ?_ _ | refine blk_drew ?_ | refine blk_alloc ?_ _)); exact BK156.out⟩, ⟨zw4 HB.out GE150.out GE153.out GE155.out GE156.out⟩⟩
       case rest =>
        clear HC13
        try clear c1
        try clear p1
        try clear q1
        try clear hx1
        try clear qi1
        try clear c2
        try clear c2b0
        try clear c2b1
        try clear p2
        try clear c3
        try clear c10
        try clear c10b0
        try clear c11
        try clear c11b0
        try clear c12
        try clear c12b0
        try clear c15
        try clear p15
        try clear q15
        try clear hx15
        try clear qi15
        try clear c16
        try clear c19
        try clear c20
        try clear c21
        try clear c23
        try clear c25
        try clear c25b0
        try clear c26
        try clear c27
        try clear c28
        try clear c30
        try clear c31
        try clear hcz17_0
        try clear hcz17_1
        try clear hcz17_2
        try clear hcz17_3
        try clear hcz17_4
        try clear hcz22_0
        try clear hcz22_1
        try clear hcz22_2
        try clear hcz22_3
        try clear hcz22_4
        try clear hcz24_0
        try clear hcz24_1
        try clear hcz24_2
        try clear hcz24_3
        try clear hcz29_0
        try clear hcz29_1
        try clear hcz29_2
        try clear hcz29_3
        try clear hcz32_0
        try clear hcz32_1
        try clear hcz32_2
        try clear hcz32_3
        try clear hcz32_4
        try clear hfz17_0
        try clear hfz17_1
        try clear hfz17_2
        try clear hfz17_3
        try clear hfz17_4
        try clear hfz22_0
        try clear hfz22_1
        try clear hfz22_2
        try clear hfz22_3
        try clear hfz22_4
        try clear hfz24_0
        try clear hfz24_1
        try clear hfz24_2
        try clear hfz24_3
        try clear hfz29_0
        try clear hfz29_1
        try clear hfz29_2
        try clear hfz29_3
        try clear hfz32_0
        try clear hfz32_1
        try clear hfz32_2
        try clear hfz32_3
        try clear hfz32_4
        try clear hx151_0
        try clear hx151_1
        try clear hx151_2
        try clear hx151_3
        try clear hx151_4
        try clear hx152_0
        try clear hx152_1
        try clear hx152_2
        try clear hx152_3
        try clear hx152_4
        try clear hx154_0
        try clear hx154_1
        try clear hx154_2
        try clear hx154_3
        try clear hx154_4
        try clear p1
        try clear p151
        try clear p152
        try clear p154
        try clear p2
        try clear q1
        try clear q151
        try clear q152
        try clear q154
        obtain ⟨kq, x157000_12, x157001_12, x157002_12, x157003_12, x157004_12, HA, HJ12, BK150, BK153, BK155, BK156, HB⟩ := hcut
        cases kq with
        | zero => exact absurd HA.out (by simp [bytes_pointer.j1])
        | succ kj12 =>
         have H := HA.out
         clear HA
         simp only [bytes_pointer.j1] at H
         by_cases c33 : (!(((rd_T74 l0 x19_1).f0) == x157000_12) || (!(((rd_T74 l0 x19_1).f1) == x157001_12) || (!(((rd_T74 l0 x19_1).f2) == x157002_12) || (!(((rd_T74 l0 x19_1).f3) == x157003_12) || (!(((rd_T74 l0 x19_1).f4) == x157004_12)))))) = true
         ·rw [if_pos c33] at H
          have c33b0 : (!(((rd_T74 l0 x19_1).f0) == x157000_12) || (!(((rd_T74 l0 x19_1).f1) == x157001_12) || (!(((rd_T74 l0 x19_1).f2) == x157002_12) || (!(((rd_T74 l0 x19_1).f3) == x157003_12) || (!(((rd_T74 l0 x19_1).f4) == x157004_12)))))) = true := c33
          clear c33
          simp only [Option.some.injEq, Prod.mk.injEq] at H
          obtain ⟨rfl, rfl, rfl, rfl, rfl⟩ := H
          have hnb34 := NB155_150.out
          have hnc34 := NB150_155.out
          have hnb35 := NB155_153.out
          have hnc35 := NB153_155.out
          have hnb36 := NB155_156.out
          have hnc36 := NB156_155.out
          have hcz37_0 : wc.cell? ⟨gb155, 0, none⟩ = some (.int .i64 ((rd_T74 l0 x19_1).f0)) := (blk_cell BK155.out 0).trans rfl
          have hcz37_1 : wc.cell? ⟨gb155, 1, none⟩ = some (.int .i64 ((rd_T74 l0 x19_1).f1)) := (blk_cell BK155.out 1).trans rfl
          have hcz37_2 : wc.cell? ⟨gb155, 2, none⟩ = some (.int .i64 ((rd_T74 l0 x19_1).f2)) := (blk_cell BK155.out 2).trans rfl
          have hcz37_3 : wc.cell? ⟨gb155, 3, none⟩ = some (.int .i64 ((rd_T74 l0 x19_1).f3)) := (blk_cell BK155.out 3).trans rfl
          have hcz37_4 : wc.cell? ⟨gb155, 4, none⟩ = some (.int .i64 ((rd_T74 l0 x19_1).f4)) := (blk_cell BK155.out 4).trans rfl
          have hfz37_0 := blk_frozen BK155.out 0
          have hfz37_1 := blk_frozen BK155.out 1
          have hfz37_2 := blk_frozen BK155.out 2
          have hfz37_3 := blk_frozen BK155.out 3
          have hfz37_4 := blk_frozen BK155.out 4
          have hnb38 := NB156_150.out
          have hnc38 := NB150_156.out
          have hnb39 := NB156_153.out
          have hnc39 := NB153_156.out
          have hcz40_0 : wc.cell? ⟨gb156, 0, none⟩ = some (.int .i64 x157000_12) := (blk_cell BK156.out 0).trans rfl
          have hcz40_1 : wc.cell? ⟨gb156, 1, none⟩ = some (.int .i64 x157001_12) := (blk_cell BK156.out 1).trans rfl
          have hcz40_2 : wc.cell? ⟨gb156, 2, none⟩ = some (.int .i64 x157002_12) := (blk_cell BK156.out 2).trans rfl
          have hcz40_3 : wc.cell? ⟨gb156, 3, none⟩ = some (.int .i64 x157003_12) := (blk_cell BK156.out 3).trans rfl
          have hcz40_4 : wc.cell? ⟨gb156, 4, none⟩ = some (.int .i64 x157004_12) := (blk_cell BK156.out 4).trans rfl
          have hfz40_0 := blk_frozen BK156.out 0
          have hfz40_1 := blk_frozen BK156.out 1
          have hfz40_2 := blk_frozen BK156.out 2
          have hfz40_3 := blk_frozen BK156.out 3
          have hfz40_4 := blk_frozen BK156.out 4
          have hnb41 := NB150_153.out
          have hnc41 := NB153_150.out
          have hcz42_0 : wc.cell? ⟨gb150, 0, none⟩ = some (.bool x151000_1) := (blk_cell BK150.out 0).trans rfl
          have hcz42_1 : wc.cell? ⟨gb150, 1, none⟩ = some (.int .i64 x151001_1) := (blk_cell BK150.out 1).trans rfl
          have hcz42_2 : wc.cell? ⟨gb150, 2, none⟩ = some (.int .i64 x151002_1) := (blk_cell BK150.out 2).trans rfl
          have hcz42_3 : wc.cell? ⟨gb150, 3, none⟩ = some (.int .i64 x151003_1) := (blk_cell BK150.out 3).trans rfl
          have hfz42_0 := blk_frozen BK150.out 0
          have hfz42_1 := blk_frozen BK150.out 1
          have hfz42_2 := blk_frozen BK150.out 2
          have hfz42_3 := blk_frozen BK150.out 3
          go_wp2
          refine bodyPost_ret (results_ct rfl _ _ gb150 62 #[.bool false, .int .i64 0, .int .i64 0, .int .i64 0] (0, 0) _ rfl (by (with_reducible repeat (first | refine blk_drewN ?_ _ | refine blk_drew ?_ | refine blk_alloc ?_ _)); refine blk_put (cs := #[.bool false, .int .i64 0, .int .i64 0, .int .i64 x151003_1]) ?_ 3 _ rfl; (with_reducible repeat (first | refine blk_drewN ?_ _ | refine blk_drew ?_ | refine blk_alloc ?_ _)); refine blk_put (cs := #[.bool false, .int .i64 0, .int .i64 x151002_1, .int .i64 x151003_1]) ?_ 2 _ rfl; (with_reducible repeat (first | refine blk_drewN ?_ _ | refine blk_drew ?_ | refine blk_alloc ?_ _)); refine blk_put (cs := #[.bool false, .int .i64 x151001_1, .int .i64 x151002_1, .int .i64 x151003_1]) ?_ 1 _ rfl; (with_reducible repeat (first | refine blk_drewN ?_ _ | refine blk_drew ?_ | refine blk_alloc ?_ _)); refine blk_put (cs := #[.bool x151000_1, .int .i64 x151001_1, .int .i64 x151002_1, .int .i64 x151003_1]) ?_ 0 _ rfl; (with_reducible repeat (first | refine blk_drewN ?_ _ | refine blk_drew ?_ | refine blk_alloc ?_ _)); exact BK150.out) Try.underlying62 rfl (by kernel_rfl)) rfl ?_
          exact ⟨by first | rfl | (simp [errW_none, errW_some] <;> rfl) | (simp [*, errW_none, errW_some] <;> rfl), zw4 HB.out GE150.out GE153.out GE155.out GE156.out⟩
         ·rw [if_neg c33] at H
          have c33b0 : (!(((rd_T74 l0 x19_1).f0) == x157000_12) || (!(((rd_T74 l0 x19_1).f1) == x157001_12) || (!(((rd_T74 l0 x19_1).f2) == x157002_12) || (!(((rd_T74 l0 x19_1).f3) == x157003_12) || (!(((rd_T74 l0 x19_1).f4) == x157004_12)))))) = false := by simpa using c33
          clear c33
          have H' := Aside0.mk H
          clear H
          have hnb43 := NB155_150.out
          have hnc43 := NB150_155.out
          have hnb44 := NB155_153.out
          have hnc44 := NB153_155.out
          have hnb45 := NB155_156.out
          have hnc45 := NB156_155.out
          have hcz46_0 : wc.cell? ⟨gb155, 0, none⟩ = some (.int .i64 ((rd_T74 l0 x19_1).f0)) := (blk_cell BK155.out 0).trans rfl
          have hcz46_1 : wc.cell? ⟨gb155, 1, none⟩ = some (.int .i64 ((rd_T74 l0 x19_1).f1)) := (blk_cell BK155.out 1).trans rfl
          have hcz46_2 : wc.cell? ⟨gb155, 2, none⟩ = some (.int .i64 ((rd_T74 l0 x19_1).f2)) := (blk_cell BK155.out 2).trans rfl
          have hcz46_3 : wc.cell? ⟨gb155, 3, none⟩ = some (.int .i64 ((rd_T74 l0 x19_1).f3)) := (blk_cell BK155.out 3).trans rfl
          have hcz46_4 : wc.cell? ⟨gb155, 4, none⟩ = some (.int .i64 ((rd_T74 l0 x19_1).f4)) := (blk_cell BK155.out 4).trans rfl
          have hfz46_0 := blk_frozen BK155.out 0
          have hfz46_1 := blk_frozen BK155.out 1
          have hfz46_2 := blk_frozen BK155.out 2
          have hfz46_3 := blk_frozen BK155.out 3
          have hfz46_4 := blk_frozen BK155.out 4
          have hnb47 := NB156_150.out
          have hnc47 := NB150_156.out
          have hnb48 := NB156_153.out
          have hnc48 := NB153_156.out
          have hcz49_0 : wc.cell? ⟨gb156, 0, none⟩ = some (.int .i64 x157000_12) := (blk_cell BK156.out 0).trans rfl
          have hcz49_1 : wc.cell? ⟨gb156, 1, none⟩ = some (.int .i64 x157001_12) := (blk_cell BK156.out 1).trans rfl
          have hcz49_2 : wc.cell? ⟨gb156, 2, none⟩ = some (.int .i64 x157002_12) := (blk_cell BK156.out 2).trans rfl
          have hcz49_3 : wc.cell? ⟨gb156, 3, none⟩ = some (.int .i64 x157003_12) := (blk_cell BK156.out 3).trans rfl
          have hcz49_4 : wc.cell? ⟨gb156, 4, none⟩ = some (.int .i64 x157004_12) := (blk_cell BK156.out 4).trans rfl
          have hfz49_0 := blk_frozen BK156.out 0
          have hfz49_1 := blk_frozen BK156.out 1
          have hfz49_2 := blk_frozen BK156.out 2
          have hfz49_3 := blk_frozen BK156.out 3
          have hfz49_4 := blk_frozen BK156.out 4
          go_wp2
          go_roundg kj12
          case measure => have := HK1.out; have := HJ12.out; omega
          case rel => exact ⟨(wrap64 (x19_1 + 1)), (x151000_1), (x151001_1), (x151002_1), (x151003_1), (by first | rfl | (simp; done) | (simp [*]; done)), H', ⟨by have := HK1.out; have := HJ12.out; omega⟩, ⟨zb BK150.out⟩, ⟨zb BK153.out⟩, ⟨zw4 HB.out GE150.out GE153.out GE155.out GE156.out⟩⟩
      ·rw [if_neg c12] at H
       exact absurd H (by simp)
     ·rw [if_neg c11] at H
      exact absurd H (by simp)
    ·rw [if_neg c10] at H
     have c10b0 : decide (x19_1 < (l0.length : Int)) = false := decide_eq_false c10
     clear c10
     simp only [Option.some.injEq, Prod.mk.injEq] at H
     obtain ⟨rfl, rfl, rfl, rfl, rfl⟩ := H
     have hnb50 := NB153_150.out
     have hnc50 := NB150_153.out
     have hcz51_0 : wr.cell? ⟨gb153, 0, none⟩ = some (.bool true) := (blk_cell BK153.out 0).trans rfl
     have hcz51_1 : wr.cell? ⟨gb153, 1, none⟩ = some (.int .i64 0) := (blk_cell BK153.out 1).trans rfl
     have hcz51_2 : wr.cell? ⟨gb153, 2, none⟩ = some (.int .i64 ((rd_T74 l0 0).f2)) := (blk_cell BK153.out 2).trans rfl
     have hcz51_3 : wr.cell? ⟨gb153, 3, none⟩ = some (.int .i64 ((rd_T74 l0 0).f3)) := (blk_cell BK153.out 3).trans rfl
     have hfz51_0 := blk_frozen BK153.out 0
     have hfz51_1 := blk_frozen BK153.out 1
     have hfz51_2 := blk_frozen BK153.out 2
     have hfz51_3 := blk_frozen BK153.out 3
     have hcz52_0 : wr.cell? ⟨gb150, 0, none⟩ = some (.bool x151000_1) := (blk_cell BK150.out 0).trans rfl
     have hcz52_1 : wr.cell? ⟨gb150, 1, none⟩ = some (.int .i64 x151001_1) := (blk_cell BK150.out 1).trans rfl
     have hcz52_2 : wr.cell? ⟨gb150, 2, none⟩ = some (.int .i64 x151002_1) := (blk_cell BK150.out 2).trans rfl
     have hcz52_3 : wr.cell? ⟨gb150, 3, none⟩ = some (.int .i64 x151003_1) := (blk_cell BK150.out 3).trans rfl
     have hfz52_0 := blk_frozen BK150.out 0
     have hfz52_1 := blk_frozen BK150.out 1
     have hfz52_2 := blk_frozen BK150.out 2
     have hfz52_3 := blk_frozen BK150.out 3
     go_wp2
     refine bodyPost_ret (results_ct rfl _ _ gb150 62 #[.bool true, .int .i64 0, .int .i64 ((rd_T74 l0 0).f2), .int .i64 ((rd_T74 l0 0).f3)] (0, 0) _ rfl (by (with_reducible repeat (first | refine blk_drewN ?_ _ | refine blk_drew ?_ | refine blk_alloc ?_ _)); refine blk_put (cs := #[.bool true, .int .i64 0, .int .i64 ((rd_T74 l0 0).f2), .int .i64 x151003_1]) ?_ 3 _ rfl; (with_reducible repeat (first | refine blk_drewN ?_ _ | refine blk_drew ?_ | refine blk_alloc ?_ _)); refine blk_put (cs := #[.bool true, .int .i64 0, .int .i64 x151002_1, .int .i64 x151003_1]) ?_ 2 _ rfl; (with_reducible repeat (first | refine blk_drewN ?_ _ | refine blk_drew ?_ | refine blk_alloc ?_ _)); refine blk_put (cs := #[.bool true, .int .i64 x151001_1, .int .i64 x151002_1, .int .i64 x151003_1]) ?_ 1 _ rfl; (with_reducible repeat (first | refine blk_drewN ?_ _ | refine blk_drew ?_ | refine blk_alloc ?_ _)); refine blk_put (cs := #[.bool x151000_1, .int .i64 x151001_1, .int .i64 x151002_1, .int .i64 x151003_1]) ?_ 0 _ rfl; (with_reducible repeat (first | refine blk_drewN ?_ _ | refine blk_drew ?_ | refine blk_alloc ?_ _)); exact BK150.out) Try.underlying62 rfl (by kernel_rfl)) rfl ?_
     exact ⟨by first | rfl | (simp [errW_none, errW_some] <;> rfl) | (simp [*, errW_none, errW_some] <;> rfl), zw2 HB.out GE150.out GE153.out⟩
 ·rw [if_neg c2] at H
  exact absurd H (by simp)

end Go.Proofs.Ytjoplkillkhiaaa.C
