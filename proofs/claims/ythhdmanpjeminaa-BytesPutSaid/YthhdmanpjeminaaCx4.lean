-- Written by this session's own edition of the print.
import Derived.Test.YthhdmanpjeminaaCx0
import Derived.Test.YthhdmanpjeminaaCx2
namespace Go.Proofs.Ythhdmanpjeminaa.C
open Go.RowKit Go.Proofs.Ythhdmanpjeminaa.Fn Go.Proofs.YthhdmanpjeminaaW.PrintWords Go.Proofs.YthhdmanpjeminaaW.PrintLast Go.Proofs.YthhdmanpjeminaaW.PrintMore
attribute [local go_sem] max2_int min2_int max_two min_two max_three min_three max_four min_four   -- for this text's walks alone
set_option linter.unusedVariables false
set_option linter.unusedSimpArgs false

attribute [local go_sem high] eqA51
/-! ### bytes_pointer: function 52 -/
mutual
def bytes_pointer.l0 : Nat → List (S51) → Int → Int → Bool → Int → Int → Int → Option (Bool × Int × Int × Int × Int)
 | 0, _, _, _, _, _, _, _ => none
 | k + 1, x17, x18, x19, x128000, x128001, x128002, x128003 => if x19 < x18 then (if 0 ≤ x19 then (if x19 < (x17.length : Int) then (if x128002 > 0 then (bytes_pointer.j1 k x17 x18 x19 x128000 x128001 x128002 x128003 ((rd_T51 x17 x19).f0) ((rd_T51 x17 x19).f1) ((rd_T51 x17 x19).f2) ((rd_T51 x17 x19).f3) ((rd_T51 x17 x19).f4) 2 0 x128002 x128003 x19) else (bytes_pointer.j1 k x17 x18 x19 x128000 x128001 x128002 x128003 ((rd_T51 x17 x19).f0) ((rd_T51 x17 x19).f1) ((rd_T51 x17 x19).f2) ((rd_T51 x17 x19).f3) ((rd_T51 x17 x19).f4) 1 0 0 0 0)) else (none)) else (none)) else (some (x128000, x128001, x128002, x128003, 0))
def bytes_pointer.j1 : Nat → List (S51) → Int → Int → Bool → Int → Int → Int → Int → Int → Int → Int → Int → Int → Int → Int → Int → Int → Option (Bool × Int × Int × Int × Int)
 | 0, _, _, _, _, _, _, _, _, _, _, _, _, _, _, _, _, _ => none
 | k + 1, x17, x18, x19, x128000, x128001, x128002, x128003, x130000, x130001, x130002, x130003, x130004, x131000, x131001, x131002, x131003, x131004 => if (!(x130000 == x131000) || (!(x130001 == x131001) || (!(x130002 == x131002) || (!(x130003 == x131003) || (!(x130004 == x131004)))))) = true then (some (false, 0, 0, 0, 8)) else (bytes_pointer.l0 k x17 x18 (wrap64 (x19 + 1)) x128000 x128001 x128002 x128003)
end
def bytes_pointer.f (k : Nat) (l0 : List (S51)) : Option (Bool × Int × Int × Int × Int) := if 0 < (l0.length : Int) then (bytes_pointer.l0 k l0 (l0.length : Int) 0 true 0 ((rd_T51 l0 0).f2) ((rd_T51 l0 0).f3)) else (none)
theorem bytes_pointer.mono_l : ∀ k, (∀ y0 y1 y2 y3 y4 y5 y6, LeO (bytes_pointer.l0 k y0 y1 y2 y3 y4 y5 y6) (bytes_pointer.l0 (k + 1) y0 y1 y2 y3 y4 y5 y6)) ∧ (∀ y0 y1 y2 y3 y4 y5 y6 y7 y8 y9 y10 y11 y12 y13 y14 y15 y16, LeO (bytes_pointer.j1 k y0 y1 y2 y3 y4 y5 y6 y7 y8 y9 y10 y11 y12 y13 y14 y15 y16) (bytes_pointer.j1 (k + 1) y0 y1 y2 y3 y4 y5 y6 y7 y8 y9 y10 y11 y12 y13 y14 y15 y16))
 | 0 => ⟨fun _ _ _ _ _ _ _ r h => by simp [bytes_pointer.l0] at h, fun _ _ _ _ _ _ _ _ _ _ _ _ _ _ _ _ _ r h => by simp [bytes_pointer.j1] at h⟩
 | k + 1 => by
  obtain ⟨ih0, ih1⟩ := bytes_pointer.mono_l k
  refine ⟨?_, ?_⟩
  ·intro y0 y1 y2 y3 y4 y5 y6
   unfold bytes_pointer.l0
   repeat' first
   | (with_reducible exact ih0 _ _ _ _ _ _ _)
   | (with_reducible exact ih1 _ _ _ _ _ _ _ _ _ _ _ _ _ _ _ _ _)
   | (with_reducible exact LeO.refl _)
   | (with_reducible exact LeO.none _)
   | (with_reducible refine LeO.ite ?_ ?_)
   | (with_reducible refine LeO.bind ?_ (fun _ => ?_))
   | exact ih0 _ _ _ _ _ _ _
   | exact ih1 _ _ _ _ _ _ _ _ _ _ _ _ _ _ _ _ _
   | exact LeO.none _
   | refine LeO.ite ?_ ?_
   | refine LeO.bind ?_ (fun _ => ?_)
  ·intro y0 y1 y2 y3 y4 y5 y6 y7 y8 y9 y10 y11 y12 y13 y14 y15 y16
   unfold bytes_pointer.j1
   repeat' first
   | (with_reducible exact ih0 _ _ _ _ _ _ _)
   | (with_reducible exact ih1 _ _ _ _ _ _ _ _ _ _ _ _ _ _ _ _ _)
   | (with_reducible exact LeO.refl _)
   | (with_reducible exact LeO.none _)
   | (with_reducible refine LeO.ite ?_ ?_)
   | (with_reducible refine LeO.bind ?_ (fun _ => ?_))
   | exact ih0 _ _ _ _ _ _ _
   | exact ih1 _ _ _ _ _ _ _ _ _ _ _ _ _ _ _ _ _
   | exact LeO.none _
   | refine LeO.ite ?_ ?_
   | refine LeO.bind ?_ (fun _ => ?_)
theorem bytes_pointer.mono : ∀ a0 k, LeO (bytes_pointer.f k a0) (bytes_pointer.f (k + 1) a0) := by
 intro a0 k
 obtain ⟨ih0, ih1⟩ := bytes_pointer.mono_l k
 unfold bytes_pointer.f
 repeat' first
   | (with_reducible exact ih0 _ _ _ _ _ _ _)
   | (with_reducible exact ih1 _ _ _ _ _ _ _ _ _ _ _ _ _ _ _ _ _)
   | (with_reducible exact LeO.refl _)
   | (with_reducible exact LeO.none _)
   | (with_reducible refine LeO.ite ?_ ?_)
   | (with_reducible refine LeO.bind ?_ (fun _ => ?_))
   | exact ih0 _ _ _ _ _ _ _
   | exact ih1 _ _ _ _ _ _ _ _ _ _ _ _ _ _ _ _ _
   | exact LeO.none _
   | refine LeO.ite ?_ ?_
   | refine LeO.bind ?_ (fun _ => ?_)
def bytes_pointer.T1 : Bool × List (List Nat × List Nat) := (true, [([], []), ([0], [0]), ([1], [1]), ([2], [2]), ([], []), ([4], [4]), ([5], [5]), ([6], [6]), ([3, 7], [3, 7]), ([], []), ([9, 8, 0, 1, 2, 3, 4, 5, 6, 7, 8, 9], [8, 9])])
def bytes_pointer.B1 : List Nat := [0, 1, 3, 7, 0, 16, 48, 112, 255, 0, 1023]
theorem bytes_pointer.tab1 : rtab .any (opsOf Try.f52 1) = bytes_pointer.T1 := by kernel_rfl
theorem bytes_pointer.bits1 : waitsOk bytes_pointer.T1.2 bytes_pointer.B1 = true := by kernel_rfl
set_option maxHeartbeats 8000000 in
set_option maxRecDepth 100000 in
theorem bytes_pointer.calls (k : Nat) (A0 : Option Addr) (c0 : Nat) (l0 : List (S51)) (r1 : Bool) (r2 : Int) (r3 : Int) (r4 : Int) (r5 : Int) (w : World) (hr0 : Kd.C k51 w A0 l0.length l0) (hc0 : l0.length ≤ c0) (h : bytes_pointer.f k l0 = some (r1, r2, r3, r4, r5)) :
  Calls Try.prog 52 #[.slice A0 l0.length c0] w fun e w' => e = .returned (.tuple #[.agg #[.bool r1, .int .i64 r2, .int .i64 r3, .int .i64 r4], .int .i64 r5]) ∧ Below w.heap.size w w' := by
 have hu33 := Try.underlying33
 have hu51 := Try.underlying51
 have HR0 := Aside0.mk hr0
 have HC0 := Aside0.mk hc0
 clear hr0 hc0
 have HB := Aside0.mk (Below.refl w.heap.size w)
 have H : (if 0 < (l0.length : Int) then (bytes_pointer.l0 k l0 (l0.length : Int) 0 true 0 ((rd_T51 l0 0).f2) ((rd_T51 l0 0).f3)) else (none)) = some (r1, r2, r3, r4, r5) := h
 clear h
 by_cases c2 : 0 < (l0.length : Int)
 ·rw [if_pos c2] at H
  have c2b0 : decide (0 < (l0.length : Int)) = true := decide_eq_true c2
  have c2b1 : decide (0 < l0.length) = true := decide_eq_true (by omega)
  clear c2
  have H' := Aside0.mk H
  clear H
  go_enter Try.func52, Try.ntmps52
  try go_wp2_with (first | ((with_reducible refine gate_dst (N := 2) rfl ?_); refine box_event ?hg (N := 2) ?hd (cs := #[.bool false, .int .i64 0, .int .i64 0, .int .i64 0]) (t := 33) ?hr ?_; (case hd => rfl); (case hg => rfl); (case hr => first | (go_simp; done) | (go_simp; rfl)); intro gb124 hg w3 hbox hb; have n0_ := Aside0.mk (below_step (zw0 HB.out) hb); have n1_ := Aside0.mk (hbox); have n2_ := Aside0.mk ((by rw [hg]; exact (below_size (zw0 HB.out)) : w.heap.size ≤ gb124)); have n3_ := Aside0.mk ((by rw [hg]; exact (below_size (zw0 HB.out)) : w.heap.size ≤ gb124)); clear HB; have HB := n0_; have BK124 := n1_; have GW124 := n2_; have GE124 := n3_; clear n0_ n1_ n2_ n3_; clear hb hbox hg))
  have n0_ := Aside0.mk (blk_drew BK124.out)
  have n1_ := Aside0.mk (below_drew1 HB.out)
  clear BK124
  clear HB
  have BK124 := n0_
  have HB := n1_
  clear n0_ n1_
  have p125 : 0 ≤ (0 : Int) := (by omega)
  have q125 : 0 < (l0.length : Int) := zdec
  obtain ⟨ad125, e125, hx125_0, hx125_1, hx125_2, hx125_3, hx125_4⟩ := at_T51 HR0.out 0 p125 q125
  have hw125_4 := hx125_4
  (try rw [show ((0 : Int)).toNat = 0 from rfl] at hw125_4)
  (try rw [show 0 * 5 = 0 from rfl] at hw125_4)
  (try rw [Addr.add_zero'] at hw125_4)
  have hw125_3 := hx125_3
  (try rw [show ((0 : Int)).toNat = 0 from rfl] at hw125_3)
  (try rw [show 0 * 5 = 0 from rfl] at hw125_3)
  (try rw [Addr.add_zero'] at hw125_3)
  have hw125_2 := hx125_2
  (try rw [show ((0 : Int)).toNat = 0 from rfl] at hw125_2)
  (try rw [show 0 * 5 = 0 from rfl] at hw125_2)
  (try rw [Addr.add_zero'] at hw125_2)
  have hw125_1 := hx125_1
  (try rw [show ((0 : Int)).toNat = 0 from rfl] at hw125_1)
  (try rw [show 0 * 5 = 0 from rfl] at hw125_1)
  (try rw [Addr.add_zero'] at hw125_1)
  have hw125_0 := hx125_0
  (try rw [show ((0 : Int)).toNat = 0 from rfl] at hw125_0)
  (try rw [show 0 * 5 = 0 from rfl] at hw125_0)
  (try rw [Addr.add_zero'] at hw125_0)
  cases e125
  have qi125 : (0 < l0.length) = True := eq_true (by omega)
  (try rw [show ((0 : Int)).toNat = 0 from rfl] at hx125_0)
  (try rw [show 0 * 5 = 0 from rfl] at hx125_0)
  (try rw [Addr.add_zero'] at hx125_0)
  (try rw [show ((0 : Int)).toNat = 0 from rfl] at hx125_1)
  (try rw [show 0 * 5 = 0 from rfl] at hx125_1)
  (try rw [Addr.add_zero'] at hx125_1)
  (try rw [show ((0 : Int)).toNat = 0 from rfl] at hx125_2)
  (try rw [show 0 * 5 = 0 from rfl] at hx125_2)
  (try rw [Addr.add_zero'] at hx125_2)
  (try rw [show ((0 : Int)).toNat = 0 from rfl] at hx125_3)
  (try rw [show 0 * 5 = 0 from rfl] at hx125_3)
  (try rw [Addr.add_zero'] at hx125_3)
  (try rw [show ((0 : Int)).toNat = 0 from rfl] at hx125_4)
  (try rw [show 0 * 5 = 0 from rfl] at hx125_4)
  (try rw [Addr.add_zero'] at hx125_4)
  replace hx125_0 := (HB.out.cell (World.block_lt_of_cell? w _ hx125_0)).trans hx125_0
  replace hx125_1 := (HB.out.cell (World.block_lt_of_cell? w _ hx125_1)).trans hx125_1
  replace hx125_2 := (HB.out.cell (World.block_lt_of_cell? w _ hx125_2)).trans hx125_2
  replace hx125_3 := (HB.out.cell (World.block_lt_of_cell? w _ hx125_3)).trans hx125_3
  replace hx125_4 := (HB.out.cell (World.block_lt_of_cell? w _ hx125_4)).trans hx125_4
  replace p125 := eq_true p125
  replace q125 := eq_true q125
  have p126 : 0 ≤ (0 : Int) := (by omega)
  have q126 : 0 < (l0.length : Int) := zdec
  obtain ⟨ad126, e126, hx126_0, hx126_1, hx126_2, hx126_3, hx126_4⟩ := at_T51 HR0.out 0 p126 q126
  have hw126_4 := hx126_4
  (try rw [show ((0 : Int)).toNat = 0 from rfl] at hw126_4)
  (try rw [show 0 * 5 = 0 from rfl] at hw126_4)
  (try rw [Addr.add_zero'] at hw126_4)
  have hw126_3 := hx126_3
  (try rw [show ((0 : Int)).toNat = 0 from rfl] at hw126_3)
  (try rw [show 0 * 5 = 0 from rfl] at hw126_3)
  (try rw [Addr.add_zero'] at hw126_3)
  have hw126_2 := hx126_2
  (try rw [show ((0 : Int)).toNat = 0 from rfl] at hw126_2)
  (try rw [show 0 * 5 = 0 from rfl] at hw126_2)
  (try rw [Addr.add_zero'] at hw126_2)
  have hw126_1 := hx126_1
  (try rw [show ((0 : Int)).toNat = 0 from rfl] at hw126_1)
  (try rw [show 0 * 5 = 0 from rfl] at hw126_1)
  (try rw [Addr.add_zero'] at hw126_1)
  have hw126_0 := hx126_0
  (try rw [show ((0 : Int)).toNat = 0 from rfl] at hw126_0)
  (try rw [show 0 * 5 = 0 from rfl] at hw126_0)
  (try rw [Addr.add_zero'] at hw126_0)
  obtain rfl : ad125 = ad126 := (by injection e126)
  have qi126 : (0 < l0.length) = True := eq_true (by omega)
  (try rw [show ((0 : Int)).toNat = 0 from rfl] at hx126_0)
  (try rw [show 0 * 5 = 0 from rfl] at hx126_0)
  (try rw [Addr.add_zero'] at hx126_0)
  (try rw [show ((0 : Int)).toNat = 0 from rfl] at hx126_1)
  (try rw [show 0 * 5 = 0 from rfl] at hx126_1)
  (try rw [Addr.add_zero'] at hx126_1)
  (try rw [show ((0 : Int)).toNat = 0 from rfl] at hx126_2)
  (try rw [show 0 * 5 = 0 from rfl] at hx126_2)
  (try rw [Addr.add_zero'] at hx126_2)
  (try rw [show ((0 : Int)).toNat = 0 from rfl] at hx126_3)
  (try rw [show 0 * 5 = 0 from rfl] at hx126_3)
  (try rw [Addr.add_zero'] at hx126_3)
  (try rw [show ((0 : Int)).toNat = 0 from rfl] at hx126_4)
  (try rw [show 0 * 5 = 0 from rfl] at hx126_4)
  (try rw [Addr.add_zero'] at hx126_4)
  replace hx126_0 := (HB.out.cell (World.block_lt_of_cell? w _ hx126_0)).trans hx126_0
  replace hx126_1 := (HB.out.cell (World.block_lt_of_cell? w _ hx126_1)).trans hx126_1
  replace hx126_2 := (HB.out.cell (World.block_lt_of_cell? w _ hx126_2)).trans hx126_2
  replace hx126_3 := (HB.out.cell (World.block_lt_of_cell? w _ hx126_3)).trans hx126_3
  replace hx126_4 := (HB.out.cell (World.block_lt_of_cell? w _ hx126_4)).trans hx126_4
  replace p126 := eq_true p126
  replace q126 := eq_true q126
  refine start_ (n := 11) (S := fun w' => w'.cell? ad125 = some (.int .i64 ((rd_T51 l0 0).f0)) ∧ w'.cell? ⟨ad125.block, ad125.off + 1, none⟩ = some (.int .i64 ((rd_T51 l0 0).f1)) ∧ w'.cell? ⟨ad125.block, ad125.off + 2, none⟩ = some (.int .i64 ((rd_T51 l0 0).f2)) ∧ w'.cell? ⟨ad125.block, ad125.off + 3, none⟩ = some (.int .i64 ((rd_T51 l0 0).f3)) ∧ w'.cell? ⟨ad125.block, ad125.off + 4, none⟩ = some (.int .i64 ((rd_T51 l0 0).f4)) ∧ w'.cell? ad125 = some (.int .i64 ((rd_T51 l0 0).f0)) ∧ w'.cell? ⟨ad125.block, ad125.off + 1, none⟩ = some (.int .i64 ((rd_T51 l0 0).f1)) ∧ w'.cell? ⟨ad125.block, ad125.off + 2, none⟩ = some (.int .i64 ((rd_T51 l0 0).f2)) ∧ w'.cell? ⟨ad125.block, ad125.off + 3, none⟩ = some (.int .i64 ((rd_T51 l0 0).f3)) ∧ w'.cell? ⟨ad125.block, ad125.off + 4, none⟩ = some (.int .i64 ((rd_T51 l0 0).f4))) (ds := []) #[false,false,false,false,false,false,false,false,false,false,false] (by kernel_rfl) rfl rfl ⟨((HB.out.cell (World.block_lt_of_cell? w _ hw125_0)).trans hw125_0), ((HB.out.cell (World.block_lt_of_cell? w _ hw125_1)).trans hw125_1), ((HB.out.cell (World.block_lt_of_cell? w _ hw125_2)).trans hw125_2), ((HB.out.cell (World.block_lt_of_cell? w _ hw125_3)).trans hw125_3), ((HB.out.cell (World.block_lt_of_cell? w _ hw125_4)).trans hw125_4), ((HB.out.cell (World.block_lt_of_cell? w _ hw126_0)).trans hw126_0), ((HB.out.cell (World.block_lt_of_cell? w _ hw126_1)).trans hw126_1), ((HB.out.cell (World.block_lt_of_cell? w _ hw126_2)).trans hw126_2), ((HB.out.cell (World.block_lt_of_cell? w _ hw126_3)).trans hw126_3), ((HB.out.cell (World.block_lt_of_cell? w _ hw126_4)).trans hw126_4)⟩ (fun hHeld => ?_); refine with_tabW bytes_pointer.tab1 bytes_pointer.bits1 (fun HT_ HW_ => ?_)
  generalize w3.drew = w4 at BK124 HB hx125_0 hx125_1 hx125_2 hx125_3 hx125_4 hx126_0 hx126_1 hx126_2 hx126_3 hx126_4 hHeld ⊢
  refine pure_ (i := 0) (N := some 8) (v := ?_) (a' := ?_) #[true,false,false,false,false,false,false,false,false,false,false] rfl rfl (any_of HT_.out (by kernel_rfl)) (fun _ _ _ h => h) (Or.inl ⟨by rfl, ?_⟩) ?_ ?_
  rotate_left
  ·intro w'
   go_simp
   with_reducible rfl
  rotate_left
  ·simp only [Act.put, List.setIfInBounds_toArray, List.set_cons_zero, List.set_cons_succ, i64_w, i32_w]
   rfl
  refine pure_ (i := 1) (N := some 9) (v := ?_) (a' := ?_) #[true,true,false,false,false,false,false,false,false,false,false] rfl rfl (any_of HT_.out (by kernel_rfl)) (fun _ _ _ h => h) (Or.inl ⟨by rfl, ?_⟩) ?_ ?_
  rotate_left
  ·intro w'
   go_simp
   with_reducible rfl
  rotate_left
  ·simp only [Act.put, List.setIfInBounds_toArray, List.set_cons_zero, List.set_cons_succ, i64_w, i32_w]
   rfl
  refine pure_ (i := 2) (N := some 10) (v := ?_) (a' := ?_) #[true,true,true,false,false,false,false,false,false,false,false] rfl rfl (any_of HT_.out (by kernel_rfl)) (fun _ _ _ h => h) (Or.inl ⟨by rfl, ?_⟩) ?_ ?_
  rotate_left
  ·intro w'
   go_simp
   with_reducible rfl
  rotate_left
  ·simp only [Act.put, List.setIfInBounds_toArray, List.set_cons_zero, List.set_cons_succ, i64_w, i32_w]
   rfl
  refine pure_ (i := 4) (N := some 12) (v := ?_) (a' := ?_) #[true,true,true,false,true,false,false,false,false,false,false] rfl rfl (any_of HT_.out (by kernel_rfl)) (fun _ _ _ h => h) (Or.inl ⟨by rfl, ?_⟩) ?_ ?_
  rotate_left
  ·intro w'
   go_simp
   with_reducible rfl
  rotate_left
  ·simp only [Act.put, List.setIfInBounds_toArray, List.set_cons_zero, List.set_cons_succ, i64_w, i32_w]
   rfl
  refine pure_ (i := 5) (N := some 13) (v := ?_) (a' := ?_) #[true,true,true,false,true,true,false,false,false,false,false] rfl rfl (any_of HT_.out (by kernel_rfl)) (fun _ _ _ h => h) (Or.inl ⟨by rfl, ?_⟩) ?_ ?_
  rotate_left
  ·intro w'
   go_simp
   with_reducible rfl
  rotate_left
  ·simp only [Act.put, List.setIfInBounds_toArray, List.set_cons_zero, List.set_cons_succ, i64_w, i32_w]
   rfl
  refine pure_ (i := 6) (N := some 14) (v := ?_) (a' := ?_) #[true,true,true,false,true,true,true,false,false,false,false] rfl rfl (any_of HT_.out (by kernel_rfl)) (fun _ _ _ h => h) (Or.inl ⟨by rfl, ?_⟩) ?_ ?_
  rotate_left
  ·intro w'
   go_simp
   with_reducible rfl
  rotate_left
  ·simp only [Act.put, List.setIfInBounds_toArray, List.set_cons_zero, List.set_cons_succ, i64_w, i32_w]
   rfl
  refine take_ (i := 3) (N := some 11) (v := ?_) (a' := ?_) #[true,true,true,true,true,true,true,false,false,false,false] rfl rfl (take_ofW HT_.out HW_.out (by kernel_rfl)) (fun _ _ _ h => h) (Or.inl ⟨by rfl, ?_⟩) hHeld ?_ ?_
  rotate_left
  ·rintro w' ⟨s0, s1, s2, s3, s4, s5, s6, s7, s8, s9⟩
   go_simp
   with_reducible rfl
  rotate_left
  ·simp only [Act.put, List.setIfInBounds_toArray, List.set_cons_zero, List.set_cons_succ, i64_w, i32_w]
   rfl
  refine take_ (i := 7) (N := some 15) (v := ?_) (a' := ?_) #[true,true,true,true,true,true,true,true,false,false,false] rfl rfl (take_ofW HT_.out HW_.out (by kernel_rfl)) (fun _ _ _ h => h) (Or.inl ⟨by rfl, ?_⟩) hHeld ?_ ?_
  rotate_left
  ·rintro w' ⟨s0, s1, s2, s3, s4, s5, s6, s7, s8, s9⟩
   go_simp
   with_reducible rfl
  rotate_left
  ·simp only [Act.put, List.setIfInBounds_toArray, List.set_cons_zero, List.set_cons_succ, i64_w, i32_w]
   rfl
  refine pure_ (i := 8) (N := some 16) (v := ?_) (a' := ?_) #[true,true,true,true,true,true,true,true,true,false,false] rfl rfl (any_of HT_.out (by kernel_rfl)) (fun _ _ _ h => h) (Or.inl ⟨by rfl, ?_⟩) ?_ ?_
  rotate_left
  ·intro w'
   go_simp
   with_reducible rfl
  rotate_left
  ·simp only [Act.put, List.setIfInBounds_toArray, List.set_cons_zero, List.set_cons_succ, i64_w, i32_w]
   rfl
  refine one_ (i := 9) (N := some 4) #[true,true,true,true,true,true,true,true,true,true,false] rfl rfl (one_of HT_.out (by kernel_rfl)) (by decide) (fun K hK => ?_)
  refine box_step ?hg (N := 4) ?hd (cs := #[.bool false, .int .i64 0, .int .i64 0, .int .i64 0]) (t := 33) ?hr ?_; (case hd => rfl); (case hg => rfl); (case hr => first | (go_simp; done) | (go_simp; rfl))
  intro gb127 hg w5 hbox hb
  have n0_ := Aside0.mk (blk_below (g := gb124) (o := .cells #[.bool false, .int .i64 0, .int .i64 0, .int .i64 0] 33 (0, 0)) (zb BK124.out) hb)
  have n1_ := Aside0.mk (below_step (zw1 HB.out GE124.out) hb)
  have n2_ := Aside0.mk (hbox)
  have n3_ := Aside0.mk ((by rw [hg]; exact (below_size (zw1 HB.out GE124.out)) : w.heap.size ≤ gb127))
  have n4_ := Aside0.mk ((by rw [hg]; exact (below_size (zw1 HB.out GE124.out)) : w.heap.size ≤ gb127))
  have n5_ := Aside0.mk ((by rw [hg]; exact Nat.ne_of_lt (blk_lt (g := gb124) (o := .cells #[.bool false, .int .i64 0, .int .i64 0, .int .i64 0] 33 (0, 0)) (zb BK124.out)) : gb124 ≠ gb127))
  have n6_ := Aside0.mk ((by rw [hg]; exact Nat.ne_of_gt (blk_lt (g := gb124) (o := .cells #[.bool false, .int .i64 0, .int .i64 0, .int .i64 0] 33 (0, 0)) (zb BK124.out)) : gb127 ≠ gb124))
  clear BK124
  clear HB
  have BK124 := n0_
  have HB := n1_
  have BK127 := n2_
  have GW127 := n3_
  have GE127 := n4_
  have NB124_127 := n5_
  have NB127_124 := n6_
  clear n0_ n1_ n2_ n3_ n4_ n5_ n6_
  clear hb hbox hg
  refine hK.out _ _ ⟨((HB.out.cell (World.block_lt_of_cell? w _ hw125_0)).trans hw125_0), ((HB.out.cell (World.block_lt_of_cell? w _ hw125_1)).trans hw125_1), ((HB.out.cell (World.block_lt_of_cell? w _ hw125_2)).trans hw125_2), ((HB.out.cell (World.block_lt_of_cell? w _ hw125_3)).trans hw125_3), ((HB.out.cell (World.block_lt_of_cell? w _ hw125_4)).trans hw125_4), ((HB.out.cell (World.block_lt_of_cell? w _ hw126_0)).trans hw126_0), ((HB.out.cell (World.block_lt_of_cell? w _ hw126_1)).trans hw126_1), ((HB.out.cell (World.block_lt_of_cell? w _ hw126_2)).trans hw126_2), ((HB.out.cell (World.block_lt_of_cell? w _ hw126_3)).trans hw126_3), ((HB.out.cell (World.block_lt_of_cell? w _ hw126_4)).trans hw126_4)⟩ (fun hHeld => ?_)
  clear hK K
  refine norm_ (a' := ?_) ?_ ?_
  rotate_left
  ·show Act.put _ (some 4) _ = _
   simp only [Act.put, List.setIfInBounds_toArray, List.set_cons_zero, List.set_cons_succ, i64_w, i32_w]
   rfl
  refine one_ (i := 10) (N := none) #[true,true,true,true,true,true,true,true,true,true,true] rfl rfl (one_of HT_.out (by kernel_rfl)) (by decide) (fun K hK => ?_)
  have hs6 : w5.cell? ⟨gb127, 0, none⟩ = some (.bool false) := (blk_cell BK127.out 0).trans rfl
  have hfs6 := blk_frozen BK127.out 0
  have hns6_0 := NB124_127.out
  have hms6_0 := NB127_124.out
  have hs7 : w5.cell? ⟨gb127, 1, none⟩ = some (.int .i64 0) := (blk_cell BK127.out 1).trans rfl
  have hfs7 := blk_frozen BK127.out 1
  have hns7_0 := NB124_127.out
  have hms7_0 := NB127_124.out
  have hs8 : w5.cell? ⟨gb127, 2, none⟩ = some (.int .i64 0) := (blk_cell BK127.out 2).trans rfl
  have hfs8 := blk_frozen BK127.out 2
  have hns8_0 := NB124_127.out
  have hms8_0 := NB127_124.out
  have hs9 : w5.cell? ⟨gb127, 3, none⟩ = some (.int .i64 0) := (blk_cell BK127.out 3).trans rfl
  have hfs9 := blk_frozen BK127.out 3
  have hns9_0 := NB124_127.out
  have hms9_0 := NB127_124.out
  refine skip_ (w1 := ?_) (by rfl) rfl ?_ ?_
  rotate_left
  ·go_simp
   rfl
  refine hK.out _ _ ⟨((cell_far (p := ⟨gb127, _, none⟩) (zx (zfar hw125_0 GW127.out)) _).trans (((cell_far (p := ⟨gb127, _, none⟩) (zx (zfar hw125_0 GW127.out)) _).trans (((cell_far (p := ⟨gb127, _, none⟩) (zx (zfar hw125_0 GW127.out)) _).trans (((cell_far (p := ⟨gb127, _, none⟩) (zx (zfar hw125_0 GW127.out)) _).trans (hHeld.1)))))))), ((cell_far (p := ⟨gb127, _, none⟩) (zx (zfar hw125_1 GW127.out)) _).trans (((cell_far (p := ⟨gb127, _, none⟩) (zx (zfar hw125_1 GW127.out)) _).trans (((cell_far (p := ⟨gb127, _, none⟩) (zx (zfar hw125_1 GW127.out)) _).trans (((cell_far (p := ⟨gb127, _, none⟩) (zx (zfar hw125_1 GW127.out)) _).trans (hHeld.2.1)))))))), ((cell_far (p := ⟨gb127, _, none⟩) (zx (zfar hw125_2 GW127.out)) _).trans (((cell_far (p := ⟨gb127, _, none⟩) (zx (zfar hw125_2 GW127.out)) _).trans (((cell_far (p := ⟨gb127, _, none⟩) (zx (zfar hw125_2 GW127.out)) _).trans (((cell_far (p := ⟨gb127, _, none⟩) (zx (zfar hw125_2 GW127.out)) _).trans (hHeld.2.2.1)))))))), ((cell_far (p := ⟨gb127, _, none⟩) (zx (zfar hw125_3 GW127.out)) _).trans (((cell_far (p := ⟨gb127, _, none⟩) (zx (zfar hw125_3 GW127.out)) _).trans (((cell_far (p := ⟨gb127, _, none⟩) (zx (zfar hw125_3 GW127.out)) _).trans (((cell_far (p := ⟨gb127, _, none⟩) (zx (zfar hw125_3 GW127.out)) _).trans (hHeld.2.2.2.1)))))))), ((cell_far (p := ⟨gb127, _, none⟩) (zx (zfar hw125_4 GW127.out)) _).trans (((cell_far (p := ⟨gb127, _, none⟩) (zx (zfar hw125_4 GW127.out)) _).trans (((cell_far (p := ⟨gb127, _, none⟩) (zx (zfar hw125_4 GW127.out)) _).trans (((cell_far (p := ⟨gb127, _, none⟩) (zx (zfar hw125_4 GW127.out)) _).trans (hHeld.2.2.2.2.1)))))))), ((cell_far (p := ⟨gb127, _, none⟩) (zx (zfar hw126_0 GW127.out)) _).trans (((cell_far (p := ⟨gb127, _, none⟩) (zx (zfar hw126_0 GW127.out)) _).trans (((cell_far (p := ⟨gb127, _, none⟩) (zx (zfar hw126_0 GW127.out)) _).trans (((cell_far (p := ⟨gb127, _, none⟩) (zx (zfar hw126_0 GW127.out)) _).trans (hHeld.2.2.2.2.2.1)))))))), ((cell_far (p := ⟨gb127, _, none⟩) (zx (zfar hw126_1 GW127.out)) _).trans (((cell_far (p := ⟨gb127, _, none⟩) (zx (zfar hw126_1 GW127.out)) _).trans (((cell_far (p := ⟨gb127, _, none⟩) (zx (zfar hw126_1 GW127.out)) _).trans (((cell_far (p := ⟨gb127, _, none⟩) (zx (zfar hw126_1 GW127.out)) _).trans (hHeld.2.2.2.2.2.2.1)))))))), ((cell_far (p := ⟨gb127, _, none⟩) (zx (zfar hw126_2 GW127.out)) _).trans (((cell_far (p := ⟨gb127, _, none⟩) (zx (zfar hw126_2 GW127.out)) _).trans (((cell_far (p := ⟨gb127, _, none⟩) (zx (zfar hw126_2 GW127.out)) _).trans (((cell_far (p := ⟨gb127, _, none⟩) (zx (zfar hw126_2 GW127.out)) _).trans (hHeld.2.2.2.2.2.2.2.1)))))))), ((cell_far (p := ⟨gb127, _, none⟩) (zx (zfar hw126_3 GW127.out)) _).trans (((cell_far (p := ⟨gb127, _, none⟩) (zx (zfar hw126_3 GW127.out)) _).trans (((cell_far (p := ⟨gb127, _, none⟩) (zx (zfar hw126_3 GW127.out)) _).trans (((cell_far (p := ⟨gb127, _, none⟩) (zx (zfar hw126_3 GW127.out)) _).trans (hHeld.2.2.2.2.2.2.2.2.1)))))))), ((cell_far (p := ⟨gb127, _, none⟩) (zx (zfar hw126_4 GW127.out)) _).trans (((cell_far (p := ⟨gb127, _, none⟩) (zx (zfar hw126_4 GW127.out)) _).trans (((cell_far (p := ⟨gb127, _, none⟩) (zx (zfar hw126_4 GW127.out)) _).trans (((cell_far (p := ⟨gb127, _, none⟩) (zx (zfar hw126_4 GW127.out)) _).trans (hHeld.2.2.2.2.2.2.2.2.2))))))))⟩ (fun hHeld => ?_)
  clear hK K
  refine done_ (done_of HT_.out (by kernel_rfl)) ?_
  try go_wp2
  go_loopg [19] k (fun kq v19 w' => ∃ (x19_1 : Int) (x125000_1 : Bool) (x125001_1 : Int) (x125002_1 : Int) (x125003_1 : Int), v19 = .int .i64 x19_1 ∧ Aside0 (bytes_pointer.l0 kq l0 (l0.length : Int) x19_1 true 0 ((rd_T51 l0 0).f2) ((rd_T51 l0 0).f3) = some (r1, r2, r3, r4, r5)) ∧ Aside0 (kq ≤ k) ∧ Aside0 (w'.heap[gb124]? = some (.cells #[.bool x125000_1, .int .i64 x125001_1, .int .i64 x125002_1, .int .i64 x125003_1] 33 (0, 0))) ∧ Aside0 (w'.heap[gb127]? = some (.cells #[.bool true, .int .i64 0, .int .i64 ((rd_T51 l0 0).f2), .int .i64 ((rd_T51 l0 0).f3)] 33 (0, 0))) ∧ Aside0 (Below w.heap.size w w'))
  case atStart => exact ⟨(0), (false), (0), (0), (0), (by first | rfl | (simp; done) | (simp [*]; done)), H', ⟨Nat.le_refl _⟩, ⟨zf1 BK124.out NB124_127.out⟩, ⟨by (with_reducible repeat (first | refine blk_drewN ?_ _ | refine blk_drew ?_ | refine blk_alloc ?_ _)); refine blk_put (cs := #[.bool true, .int .i64 0, .int .i64 ((rd_T51 l0 0).f2), .int .i64 0]) ?_ 3 _ rfl; (with_reducible repeat (first | refine blk_drewN ?_ _ | refine blk_drew ?_ | refine blk_alloc ?_ _)); refine blk_put (cs := #[.bool true, .int .i64 0, .int .i64 0, .int .i64 0]) ?_ 2 _ rfl; (with_reducible repeat (first | refine blk_drewN ?_ _ | refine blk_drew ?_ | refine blk_alloc ?_ _)); refine blk_put (cs := #[.bool true, .int .i64 0, .int .i64 0, .int .i64 0]) ?_ 1 _ rfl; (with_reducible repeat (first | refine blk_drewN ?_ _ | refine blk_drew ?_ | refine blk_alloc ?_ _)); refine blk_put (cs := #[.bool false, .int .i64 0, .int .i64 0, .int .i64 0]) ?_ 0 _ rfl; (with_reducible repeat (first | refine blk_drewN ?_ _ | refine blk_drew ?_ | refine blk_alloc ?_ _)); exact BK127.out⟩, ⟨zw2 HB.out GE124.out GE127.out⟩⟩
  case round =>
   clear H'
   try clear p1
   try clear q1
   try clear hx1
   try clear qi1
   try clear c2
   try clear c2b0
   try clear c2b1
   try clear p2
   try clear c5
   try clear hx125_0
   try clear hx125_1
   try clear hx125_2
   try clear hx125_3
   try clear hx125_4
   try clear hx126_0
   try clear hx126_1
   try clear hx126_2
   try clear hx126_3
   try clear hx126_4
   try clear p125
   try clear p126
   try clear q125
   try clear q126
   obtain ⟨x19_1, x125000_1, x125001_1, x125002_1, x125003_1, rfl, HA, HK1, BK124, BK127, HB⟩ := hrel
   cases gk with
   | zero => exact absurd HA.out (by simp [bytes_pointer.l0])
   | succ k1 =>
    have H := HA.out
    clear HA
    simp only [bytes_pointer.l0] at H
    by_cases c10 : x19_1 < (l0.length : Int)
    ·rw [if_pos c10] at H
     have c10b0 : decide (x19_1 < (l0.length : Int)) = true := decide_eq_true c10
     clear c10
     by_cases c11 : 0 ≤ x19_1
     ·rw [if_pos c11] at H
      have c11b0 : decide (0 ≤ x19_1) = true := decide_eq_true c11
      clear c11
      by_cases c12 : x19_1 < (l0.length : Int)
      ·rw [if_pos c12] at H
       have c12b0 : decide (x19_1 < (l0.length : Int)) = true := decide_eq_true c12
       clear c12
       have HC13 := Aside0.mk H
       clear H
       have p128 : 0 ≤ (x19_1 : Int) := zdec
       have q128 : x19_1 < (l0.length : Int) := zdec
       obtain ⟨ad128, e128, hx128_0, hx128_1, hx128_2, hx128_3, hx128_4⟩ := at_T51 HR0.out x19_1 p128 q128
       obtain rfl : ad125 = ad128 := (by injection e128)
       replace hx128_0 := (HB.out.cell (World.block_lt_of_cell? w _ hx128_0)).trans hx128_0
       replace hx128_1 := (HB.out.cell (World.block_lt_of_cell? w _ hx128_1)).trans hx128_1
       replace hx128_2 := (HB.out.cell (World.block_lt_of_cell? w _ hx128_2)).trans hx128_2
       replace hx128_3 := (HB.out.cell (World.block_lt_of_cell? w _ hx128_3)).trans hx128_3
       replace hx128_4 := (HB.out.cell (World.block_lt_of_cell? w _ hx128_4)).trans hx128_4
       replace p128 := eq_true p128
       replace q128 := eq_true q128
       go_upto_if 27 with (first | ((with_reducible refine gate_dst (N := 6) rfl ?_); refine box_event ?hg (N := 6) ?hd (cs := #[.int .i64 0, .int .i64 0, .int .i64 0, .int .i64 0, .int .i64 0]) (t := 51) ?hr ?_; (case hd => rfl); (case hg => rfl); (case hr => first | (go_simp; done) | (go_simp; rfl)); intro gb129 hg w14 hbox hb; have n0_ := Aside0.mk (blk_below (g := gb124) (o := .cells #[.bool x125000_1, .int .i64 x125001_1, .int .i64 x125002_1, .int .i64 x125003_1] 33 (0, 0)) (zb BK124.out) hb); have n1_ := Aside0.mk (blk_below (g := gb127) (o := .cells #[.bool true, .int .i64 0, .int .i64 ((rd_T51 l0 0).f2), .int .i64 ((rd_T51 l0 0).f3)] 33 (0, 0)) (zb BK127.out) hb); have n2_ := Aside0.mk (below_step (zw2 HB.out GE124.out GE127.out) hb); have n3_ := Aside0.mk (hbox); have n4_ := Aside0.mk ((by rw [hg]; exact (below_size (zw2 HB.out GE124.out GE127.out)) : w.heap.size ≤ gb129)); have n5_ := Aside0.mk ((by rw [hg]; exact (below_size (zw2 HB.out GE124.out GE127.out)) : w.heap.size ≤ gb129)); have n6_ := Aside0.mk ((by rw [hg]; exact Nat.ne_of_lt (blk_lt (g := gb124) (o := .cells #[.bool x125000_1, .int .i64 x125001_1, .int .i64 x125002_1, .int .i64 x125003_1] 33 (0, 0)) (zb BK124.out)) : gb124 ≠ gb129)); have n7_ := Aside0.mk ((by rw [hg]; exact Nat.ne_of_gt (blk_lt (g := gb124) (o := .cells #[.bool x125000_1, .int .i64 x125001_1, .int .i64 x125002_1, .int .i64 x125003_1] 33 (0, 0)) (zb BK124.out)) : gb129 ≠ gb124)); have n8_ := Aside0.mk ((by rw [hg]; exact Nat.ne_of_lt (blk_lt (g := gb127) (o := .cells #[.bool true, .int .i64 0, .int .i64 ((rd_T51 l0 0).f2), .int .i64 ((rd_T51 l0 0).f3)] 33 (0, 0)) (zb BK127.out)) : gb127 ≠ gb129)); have n9_ := Aside0.mk ((by rw [hg]; exact Nat.ne_of_gt (blk_lt (g := gb127) (o := .cells #[.bool true, .int .i64 0, .int .i64 ((rd_T51 l0 0).f2), .int .i64 ((rd_T51 l0 0).f3)] 33 (0, 0)) (zb BK127.out)) : gb129 ≠ gb127)); clear BK124; clear BK127; clear HB; have BK124 := n0_; have BK127 := n1_; have HB := n2_; have BK129 := n3_; have GW129 := n4_; have GE129 := n5_; have NB124_129 := n6_; have NB129_124 := n7_; have NB127_129 := n8_; have NB129_127 := n9_; clear n0_ n1_ n2_ n3_ n4_ n5_ n6_ n7_ n8_ n9_; clear hb hbox hg; have hnb15 := NB129_124.out; have hnc15 := NB124_129.out; have hnb16 := NB129_127.out; have hnc16 := NB127_129.out; have hcz17_0 : w14.cell? ⟨gb129, 0, none⟩ = some (.int .i64 0) := (blk_cell BK129.out 0).trans rfl; have hcz17_1 : w14.cell? ⟨gb129, 1, none⟩ = some (.int .i64 0) := (blk_cell BK129.out 1).trans rfl; have hcz17_2 : w14.cell? ⟨gb129, 2, none⟩ = some (.int .i64 0) := (blk_cell BK129.out 2).trans rfl; have hcz17_3 : w14.cell? ⟨gb129, 3, none⟩ = some (.int .i64 0) := (blk_cell BK129.out 3).trans rfl; have hcz17_4 : w14.cell? ⟨gb129, 4, none⟩ = some (.int .i64 0) := (blk_cell BK129.out 4).trans rfl; have hfz17_0 := blk_frozen BK129.out 0; have hfz17_1 := blk_frozen BK129.out 1; have hfz17_2 := blk_frozen BK129.out 2; have hfz17_3 := blk_frozen BK129.out 3; have hfz17_4 := blk_frozen BK129.out 4) | ((with_reducible refine gate_dst (N := 7) rfl ?_); refine box_event ?hg (N := 7) ?hd (cs := #[.int .i64 0, .int .i64 0, .int .i64 0, .int .i64 0, .int .i64 0]) (t := 51) ?hr ?_; (case hd => rfl); (case hg => rfl); (case hr => first | (go_simp; done) | (go_simp; rfl)); intro gb130 hg w18 hbox hb; have n0_ := Aside0.mk (blk_below (g := gb124) (o := .cells #[.bool x125000_1, .int .i64 x125001_1, .int .i64 x125002_1, .int .i64 x125003_1] 33 (0, 0)) (zf1 BK124.out NB124_129.out) hb); have n1_ := Aside0.mk (blk_below (g := gb127) (o := .cells #[.bool true, .int .i64 0, .int .i64 ((rd_T51 l0 0).f2), .int .i64 ((rd_T51 l0 0).f3)] 33 (0, 0)) (zf1 BK127.out NB127_129.out) hb); have n2_ := Aside0.mk (blk_below (g := gb129) (o := .cells #[.int .i64 ((rd_T51 l0 x19_1).f0), .int .i64 ((rd_T51 l0 x19_1).f1), .int .i64 ((rd_T51 l0 x19_1).f2), .int .i64 ((rd_T51 l0 x19_1).f3), .int .i64 ((rd_T51 l0 x19_1).f4)] 51 (0, 0)) (by (with_reducible repeat (first | refine blk_drewN ?_ _ | refine blk_drew ?_ | refine blk_alloc ?_ _)); refine blk_put (cs := #[.int .i64 ((rd_T51 l0 x19_1).f0), .int .i64 ((rd_T51 l0 x19_1).f1), .int .i64 ((rd_T51 l0 x19_1).f2), .int .i64 ((rd_T51 l0 x19_1).f3), .int .i64 0]) ?_ 4 _ rfl; (with_reducible repeat (first | refine blk_drewN ?_ _ | refine blk_drew ?_ | refine blk_alloc ?_ _)); refine blk_put (cs := #[.int .i64 ((rd_T51 l0 x19_1).f0), .int .i64 ((rd_T51 l0 x19_1).f1), .int .i64 ((rd_T51 l0 x19_1).f2), .int .i64 0, .int .i64 0]) ?_ 3 _ rfl; (with_reducible repeat (first | refine blk_drewN ?_ _ | refine blk_drew ?_ | refine blk_alloc ?_ _)); refine blk_put (cs := #[.int .i64 ((rd_T51 l0 x19_1).f0), .int .i64 ((rd_T51 l0 x19_1).f1), .int .i64 0, .int .i64 0, .int .i64 0]) ?_ 2 _ rfl; (with_reducible repeat (first | refine blk_drewN ?_ _ | refine blk_drew ?_ | refine blk_alloc ?_ _)); refine blk_put (cs := #[.int .i64 ((rd_T51 l0 x19_1).f0), .int .i64 0, .int .i64 0, .int .i64 0, .int .i64 0]) ?_ 1 _ rfl; (with_reducible repeat (first | refine blk_drewN ?_ _ | refine blk_drew ?_ | refine blk_alloc ?_ _)); refine blk_put (cs := #[.int .i64 0, .int .i64 0, .int .i64 0, .int .i64 0, .int .i64 0]) ?_ 0 _ rfl; (with_reducible repeat (first | refine blk_drewN ?_ _ | refine blk_drew ?_ | refine blk_alloc ?_ _)); exact BK129.out) hb); have n3_ := Aside0.mk (below_step (zw3 HB.out GE124.out GE127.out GE129.out) hb); have n4_ := Aside0.mk (hbox); have n5_ := Aside0.mk ((by rw [hg]; exact (below_size (zw3 HB.out GE124.out GE127.out GE129.out)) : w.heap.size ≤ gb130)); have n6_ := Aside0.mk ((by rw [hg]; exact (below_size (zw3 HB.out GE124.out GE127.out GE129.out)) : w.heap.size ≤ gb130)); have n7_ := Aside0.mk ((by rw [hg]; exact Nat.ne_of_lt (blk_lt (g := gb124) (o := .cells #[.bool x125000_1, .int .i64 x125001_1, .int .i64 x125002_1, .int .i64 x125003_1] 33 (0, 0)) (zf1 BK124.out NB124_129.out)) : gb124 ≠ gb130)); have n8_ := Aside0.mk ((by rw [hg]; exact Nat.ne_of_gt (blk_lt (g := gb124) (o := .cells #[.bool x125000_1, .int .i64 x125001_1, .int .i64 x125002_1, .int .i64 x125003_1] 33 (0, 0)) (zf1 BK124.out NB124_129.out)) : gb130 ≠ gb124)); have n9_ := Aside0.mk ((by rw [hg]; exact Nat.ne_of_lt (blk_lt (g := gb127) (o := .cells #[.bool true, .int .i64 0, .int .i64 ((rd_T51 l0 0).f2), .int .i64 ((rd_T51 l0 0).f3)] 33 (0, 0)) (zf1 BK127.out NB127_129.out)) : gb127 ≠ gb130)); have n10_ := Aside0.mk ((by rw [hg]; exact Nat.ne_of_gt (blk_lt (g := gb127) (o := .cells #[.bool true, .int .i64 0, .int .i64 ((rd_T51 l0 0).f2), .int .i64 ((rd_T51 l0 0).f3)] 33 (0, 0)) (zf1 BK127.out NB127_129.out)) : gb130 ≠ gb127)); have n11_ := Aside0.mk ((by rw [hg]; exact Nat.ne_of_lt (blk_lt (g := gb129) (o := .cells #[.int .i64 ((rd_T51 l0 x19_1).f0), .int .i64 ((rd_T51 l0 x19_1).f1), .int .i64 ((rd_T51 l0 x19_1).f2), .int .i64 ((rd_T51 l0 x19_1).f3), .int .i64 ((rd_T51 l0 x19_1).f4)] 51 (0, 0)) (by (with_reducible repeat (first | refine blk_drewN ?_ _ | refine blk_drew ?_ | refine blk_alloc ?_ _)); refine blk_put (cs := #[.int .i64 ((rd_T51 l0 x19_1).f0), .int .i64 ((rd_T51 l0 x19_1).f1), .int .i64 ((rd_T51 l0 x19_1).f2), .int .i64 ((rd_T51 l0 x19_1).f3), .int .i64 0]) ?_ 4 _ rfl; (with_reducible repeat (first | refine blk_drewN ?_ _ | refine blk_drew ?_ | refine blk_alloc ?_ _)); refine blk_put (cs := #[.int .i64 ((rd_T51 l0 x19_1).f0), .int .i64 ((rd_T51 l0 x19_1).f1), .int .i64 ((rd_T51 l0 x19_1).f2), .int .i64 0, .int .i64 0]) ?_ 3 _ rfl; (with_reducible repeat (first | refine blk_drewN ?_ _ | refine blk_drew ?_ | refine blk_alloc ?_ _)); refine blk_put (cs := #[.int .i64 ((rd_T51 l0 x19_1).f0), .int .i64 ((rd_T51 l0 x19_1).f1), .int .i64 0, .int .i64 0, .int .i64 0]) ?_ 2 _ rfl; (with_reducible repeat (first | refine blk_drewN ?_ _ | refine blk_drew ?_ | refine blk_alloc ?_ _)); refine blk_put (cs := #[.int .i64 ((rd_T51 l0 x19_1).f0), .int .i64 0, .int .i64 0, .int .i64 0, .int .i64 0]) ?_ 1 _ rfl; (with_reducible repeat (first | refine blk_drewN ?_ _ | refine blk_drew ?_ | refine blk_alloc ?_ _)); refine blk_put (cs := #[.int .i64 0, .int .i64 0, .int .i64 0, .int .i64 0, .int .i64 0]) ?_ 0 _ rfl; (with_reducible repeat (first | refine blk_drewN ?_ _ | refine blk_drew ?_ | refine blk_alloc ?_ _)); exact BK129.out)) : gb129 ≠ gb130)); have n12_ := Aside0.mk ((by rw [hg]; exact Nat.ne_of_gt (blk_lt (g := gb129) (o := .cells #[.int .i64 ((rd_T51 l0 x19_1).f0), .int .i64 ((rd_T51 l0 x19_1).f1), .int .i64 ((rd_T51 l0 x19_1).f2), .int .i64 ((rd_T51 l0 x19_1).f3), .int .i64 ((rd_T51 l0 x19_1).f4)] 51 (0, 0)) (by (with_reducible repeat (first | refine blk_drewN ?_ _ | refine blk_drew ?_ | refine blk_alloc ?_ _)); refine blk_put (cs := #[.int .i64 ((rd_T51 l0 x19_1).f0), .int .i64 ((rd_T51 l0 x19_1).f1), .int .i64 ((rd_T51 l0 x19_1).f2), .int .i64 ((rd_T51 l0 x19_1).f3), .int .i64 0]) ?_ 4 _ rfl; (with_reducible repeat (first | refine blk_drewN ?_ _ | refine blk_drew ?_ | refine blk_alloc ?_ _)); refine blk_put (cs := #[.int .i64 ((rd_T51 l0 x19_1).f0), .int .i64 ((rd_T51 l0 x19_1).f1), .int .i64 ((rd_T51 l0 x19_1).f2), .int .i64 0, .int .i64 0]) ?_ 3 _ rfl; (with_reducible repeat (first | refine blk_drewN ?_ _ | refine blk_drew ?_ | refine blk_alloc ?_ _)); refine blk_put (cs := #[.int .i64 ((rd_T51 l0 x19_1).f0), .int .i64 ((rd_T51 l0 x19_1).f1), .int .i64 0, .int .i64 0, .int .i64 0]) ?_ 2 _ rfl; (with_reducible repeat (first | refine blk_drewN ?_ _ | refine blk_drew ?_ | refine blk_alloc ?_ _)); refine blk_put (cs := #[.int .i64 ((rd_T51 l0 x19_1).f0), .int .i64 0, .int .i64 0, .int .i64 0, .int .i64 0]) ?_ 1 _ rfl; (with_reducible repeat (first | refine blk_drewN ?_ _ | refine blk_drew ?_ | refine blk_alloc ?_ _)); refine blk_put (cs := #[.int .i64 0, .int .i64 0, .int .i64 0, .int .i64 0, .int .i64 0]) ?_ 0 _ rfl; (with_reducible repeat (first | refine blk_drewN ?_ _ | refine blk_drew ?_ | refine blk_alloc ?_ _)); exact BK129.out)) : gb130 ≠ gb129)); clear BK124; clear BK127; clear BK129; clear HB; have BK124 := n0_; have BK127 := n1_; have BK129 := n2_; have HB := n3_; have BK130 := n4_; have GW130 := n5_; have GE130 := n6_; have NB124_130 := n7_; have NB130_124 := n8_; have NB127_130 := n9_; have NB130_127 := n10_; have NB129_130 := n11_; have NB130_129 := n12_; clear n0_ n1_ n2_ n3_ n4_ n5_ n6_ n7_ n8_ n9_ n10_ n11_ n12_; clear hb hbox hg; have hnb19 := NB130_124.out; have hnc19 := NB124_130.out; have hnb20 := NB130_127.out; have hnc20 := NB127_130.out; have hnb21 := NB130_129.out; have hnc21 := NB129_130.out; have hcz22_0 : w18.cell? ⟨gb130, 0, none⟩ = some (.int .i64 0) := (blk_cell BK130.out 0).trans rfl; have hcz22_1 : w18.cell? ⟨gb130, 1, none⟩ = some (.int .i64 0) := (blk_cell BK130.out 1).trans rfl; have hcz22_2 : w18.cell? ⟨gb130, 2, none⟩ = some (.int .i64 0) := (blk_cell BK130.out 2).trans rfl; have hcz22_3 : w18.cell? ⟨gb130, 3, none⟩ = some (.int .i64 0) := (blk_cell BK130.out 3).trans rfl; have hcz22_4 : w18.cell? ⟨gb130, 4, none⟩ = some (.int .i64 0) := (blk_cell BK130.out 4).trans rfl; have hfz22_0 := blk_frozen BK130.out 0; have hfz22_1 := blk_frozen BK130.out 1; have hfz22_2 := blk_frozen BK130.out 2; have hfz22_3 := blk_frozen BK130.out 3; have hfz22_4 := blk_frozen BK130.out 4; have hnb23 := NB127_124.out; have hnc23 := NB124_127.out; have hcz24_0 : w18.cell? ⟨gb127, 0, none⟩ = some (.bool true) := (blk_cell BK127.out 0).trans rfl; have hcz24_1 : w18.cell? ⟨gb127, 1, none⟩ = some (.int .i64 0) := (blk_cell BK127.out 1).trans rfl; have hcz24_2 : w18.cell? ⟨gb127, 2, none⟩ = some (.int .i64 ((rd_T51 l0 0).f2)) := (blk_cell BK127.out 2).trans rfl; have hcz24_3 : w18.cell? ⟨gb127, 3, none⟩ = some (.int .i64 ((rd_T51 l0 0).f3)) := (blk_cell BK127.out 3).trans rfl; have hfz24_0 := blk_frozen BK127.out 0; have hfz24_1 := blk_frozen BK127.out 1; have hfz24_2 := blk_frozen BK127.out 2; have hfz24_3 := blk_frozen BK127.out 3))
       (try simp only [Act.put, List.setIfInBounds_toArray, List.set_cons_zero, List.set_cons_succ])
       go_cut [] (fun wc => ∃ (kq : Nat) (x131000_12 : Int) (x131001_12 : Int) (x131002_12 : Int) (x131003_12 : Int) (x131004_12 : Int), Aside0 (bytes_pointer.j1 kq l0 (l0.length : Int) x19_1 true 0 ((rd_T51 l0 0).f2) ((rd_T51 l0 0).f3) ((rd_T51 l0 x19_1).f0) ((rd_T51 l0 x19_1).f1) ((rd_T51 l0 x19_1).f2) ((rd_T51 l0 x19_1).f3) ((rd_T51 l0 x19_1).f4) x131000_12 x131001_12 x131002_12 x131003_12 x131004_12 = some (r1, r2, r3, r4, r5)) ∧ Aside0 (kq ≤ k1) ∧ Aside0 (wc.heap[gb124]? = some (.cells #[.bool x125000_1, .int .i64 x125001_1, .int .i64 x125002_1, .int .i64 x125003_1] 33 (0, 0))) ∧ Aside0 (wc.heap[gb127]? = some (.cells #[.bool true, .int .i64 0, .int .i64 ((rd_T51 l0 0).f2), .int .i64 ((rd_T51 l0 0).f3)] 33 (0, 0))) ∧ Aside0 (wc.heap[gb129]? = some (.cells #[.int .i64 ((rd_T51 l0 x19_1).f0), .int .i64 ((rd_T51 l0 x19_1).f1), .int .i64 ((rd_T51 l0 x19_1).f2), .int .i64 ((rd_T51 l0 x19_1).f3), .int .i64 ((rd_T51 l0 x19_1).f4)] 51 (0, 0))) ∧ Aside0 (wc.heap[gb130]? = some (.cells #[.int .i64 x131000_12, .int .i64 x131001_12, .int .i64 x131002_12, .int .i64 x131003_12, .int .i64 x131004_12] 51 (0, 0))) ∧ Aside0 (Below w.heap.size w wc))
       case first =>
        have H := HC13.out
        clear HC13
        by_cases c25 : ((rd_T51 l0 0).f2) > 0
        ·rw [if_pos c25] at H
         have c25b0 : decide (0 < ((rd_T51 l0 0).f2)) = true := decide_eq_true c25
         clear c25
         (first | rw [c25b0] | (simp only [i64_w, i32_w]; rw [c25b0]) | skip)
         have H' := Aside0.mk H
         clear H
         have hnb26 := NB127_124.out
         have hnc26 := NB124_127.out
         have hnb27 := NB127_129.out
         have hnc27 := NB129_127.out
         have hnb28 := NB127_130.out
         have hnc28 := NB130_127.out
         have hcz29_0 : w18.cell? ⟨gb127, 0, none⟩ = some (.bool true) := (blk_cell BK127.out 0).trans rfl
         have hcz29_1 : w18.cell? ⟨gb127, 1, none⟩ = some (.int .i64 0) := (blk_cell BK127.out 1).trans rfl
         have hcz29_2 : w18.cell? ⟨gb127, 2, none⟩ = some (.int .i64 ((rd_T51 l0 0).f2)) := (blk_cell BK127.out 2).trans rfl
         have hcz29_3 : w18.cell? ⟨gb127, 3, none⟩ = some (.int .i64 ((rd_T51 l0 0).f3)) := (blk_cell BK127.out 3).trans rfl
         have hfz29_0 := blk_frozen BK127.out 0
         have hfz29_1 := blk_frozen BK127.out 1
         have hfz29_2 := blk_frozen BK127.out 2
         have hfz29_3 := blk_frozen BK127.out 3
         have hnb30 := NB130_124.out
         have hnc30 := NB124_130.out
         have hnb31 := NB130_129.out
         have hnc31 := NB129_130.out
         have hcz32_0 : w18.cell? ⟨gb130, 0, none⟩ = some (.int .i64 0) := (blk_cell BK130.out 0).trans rfl
         have hcz32_1 : w18.cell? ⟨gb130, 1, none⟩ = some (.int .i64 0) := (blk_cell BK130.out 1).trans rfl
         have hcz32_2 : w18.cell? ⟨gb130, 2, none⟩ = some (.int .i64 0) := (blk_cell BK130.out 2).trans rfl
         have hcz32_3 : w18.cell? ⟨gb130, 3, none⟩ = some (.int .i64 0) := (blk_cell BK130.out 3).trans rfl
         have hcz32_4 : w18.cell? ⟨gb130, 4, none⟩ = some (.int .i64 0) := (blk_cell BK130.out 4).trans rfl
         have hfz32_0 := blk_frozen BK130.out 0
         have hfz32_1 := blk_frozen BK130.out 1
         have hfz32_2 := blk_frozen BK130.out 2
         have hfz32_3 := blk_frozen BK130.out 3
         have hfz32_4 := blk_frozen BK130.out 4
         go_wp2
         go_meet
         case rel => exact ⟨_, (2), (0), (((rd_T51 l0 0).f2)), (((rd_T51 l0 0).f3)), (x19_1), H', ⟨by have := HK1.out; first | omega | exact Nat.le_refl _⟩, ⟨zf1 BK124.out NB124_130.out⟩, ⟨zf1 BK127.out NB127_130.out⟩, ⟨zf1 BK129.out NB129_130.out⟩, ⟨by (with_reducible repeat (first | refine blk_drewN ?_ _ | refine blk_drew ?_ | refine blk_alloc ?_ _)); refine blk_put (cs := #[.int .i64 2, .int .i64 0, .int .i64 ((rd_T51 l0 0).f2), .int .i64 ((rd_T51 l0 0).f3), .int .i64 0]) ?_ 4 _ rfl; (with_reducible repeat (first | refine blk_drewN ?_ _ | refine blk_drew ?_ | refine blk_alloc ?_ _)); refine blk_put (cs := #[.int .i64 2, .int .i64 0, .int .i64 ((rd_T51 l0 0).f2), .int .i64 0, .int .i64 0]) ?_ 3 _ rfl; (with_reducible repeat (first | refine blk_drewN ?_ _ | refine blk_drew ?_ | refine blk_alloc ?_ _)); refine blk_put (cs := #[.int .i64 2, .int .i64 0, .int .i64 0, .int .i64 0, .int .i64 0]) ?_ 2 _ rfl; (with_reducible repeat (first | refine blk_drewN ?_ _ | refine blk_drew ?_ | refine blk_alloc ?_ _)); refine blk_put (cs := #[.int .i64 2, .int .i64 0, .int .i64 0, .int .i64 0, .int .i64 0]) ?_ 1 _ rfl; (with_reducible repeat (first | refine blk_drewN ?_ _ | refine blk_drew ?_ | refine blk_alloc ?_ _)); refine blk_put (cs := #[.int .i64 1, .int .i64 0, .int .i64 0, .int .i64 0, .int .i64 0]) ?_ 0 _ rfl; (with_reducible repeat (first | refine blk_drewN ?_ _ | refine blk_drew ?_ | refine blk_alloc ?_ _)); refine blk_put (cs := #[.int .i64 1, .int .i64 0, .int .i64 0, .int .i64 0, .int .i64 0]) ?_ 4 _ rfl; (with_reducible repeat (first | refine blk_drewN ?_ _ | refine blk_drew ?_ | refine blk_alloc ?_ _)); refine blk_put (cs := #[.int .i64 1, .int .i64 0, .int .i64 0, .int .i64 0, .int .i64 0]) ?_ 3 _ rfl; (with_reducible repeat (first | refine blk_drewN ?_ _ | refine blk_drew ?_ | refine blk_alloc ?_ _)); refine blk_put (cs := #[.int .i64 1, .int .i64 0, .int .i64 0, .int .i64 0, .int .i64 0]) ?_ 2 _ rfl; (with_reducible repeat (first | refine blk_drewN ?_ _ | refine blk_drew ?_ | refine blk_alloc ?_ _)); refine blk_put (cs := #[.int .i64 1, .int .i64 0, .int .i64 0, .int .i64 0, .int .i64 0]) ?_ 1 _ rfl; (with_reducible repeat (first | refine blk_drewN ?_ _ | refine blk_drew ?_ | refine blk_alloc ?_ _)); refine blk_put (cs := #[.int .i64 0, .int .i64 0, .int .i64 0, .int .i64 0, .int .i64 0]) ?_ 0 _ rfl; (with_reducible repeat (first | refine blk_drewN ?_ _ | refine blk_drew ?_ | refine blk_alloc ?_ _)); exact BK130.out⟩, ⟨zw4 HB.out GE124.out GE127.out GE129.out GE130.out⟩⟩
        ·rw [if_neg c25] at H
         have c25b0 : decide (0 < ((rd_T51 l0 0).f2)) = false := decide_eq_false c25
         clear c25
         (first | rw [c25b0] | (simp only [i64_w, i32_w]; rw [c25b0]) | skip)
         have H' := Aside0.mk H
         clear H
         go_wp2
         go_meet
         case rel => exact ⟨_, (1), (0), (0), (0), (0), H', ⟨by have := HK1.out; first | omega | exact Nat.le_refl _⟩, ⟨zf1 BK124.out NB124_130.out⟩, ⟨zf1 BK127.out NB127_130.out⟩, ⟨zf1 BK129.out NB129_130.out⟩, ⟨by (with_reducible repeat (first | refine blk_drewN ?_ _ | refine blk_drew ?_ | refine blk_alloc ?_ _)); refine blk_put (cs := #[.int .i64 1, .int .i64 0, .int .i64 0, .int .i64 0, .int .i64 0]) ?_ 4 _ rfl; (with_reducible repeat (first | refine blk_drewN ?_ _ | refine blk_drew ?_ | refine blk_alloc ?_ _)); refine blk_put (cs := #[.int .i64 1, .int .i64 0, .int .i64 0, .int .i64 0, .int .i64 0]) ?_ 3 _ rfl; (with_reducible repeat (first | refine blk_drewN ?_ _ | refine blk_drew ?_ | refine blk_alloc ?_ _)); refine blk_put (cs := #[.int .i64 1, .int .i64 0, .int .i64 0, .int .i64 0, .int .i64 0]) ?_ 2 _ rfl; (with_reducible repeat (first | refine blk_drewN ?_ _ | refine blk_drew ?_ | refine blk_alloc ?_ _)); refine blk_put (cs := #[.int .i64 1, .int .i64 0, .int .i64 0, .int .i64 0, .int .i64 0]) ?_ 1 _ rfl; (with_reducible repeat (first | refine blk_drewN ?_ _ | refine blk_drew ?_ | refine blk_alloc ?_ _)); refine blk_put (cs := #[.int .i64 0, .int .i64 0, .int .i64 0, .int .i64 0, .int .i64 0]) ?_ 0 _ rfl; (with_reducible repeat (first | refine blk_drewN ?_ _ | refine blk_drew ?_ | refine blk_alloc ?_ _)); exact BK130.out⟩, ⟨zw4 HB.out GE124.out GE127.out GE129.out GE130.out⟩⟩
       case rest =>
        clear HC13
        try clear c1
        try clear p1
        try clear q1
        try clear hx1
        try clear qi1
        try clear c2
        try clear c2b0
        try clear c2b1
        try clear p2
        try clear c3
        try clear c5
        try clear c10
        try clear c10b0
        try clear c11
        try clear c11b0
        try clear c12
        try clear c12b0
        try clear p12
        try clear q12
        try clear hx12
        try clear qi12
        try clear c15
        try clear c16
        try clear c19
        try clear c20
        try clear c21
        try clear c23
        try clear c25
        try clear c25b0
        try clear c26
        try clear c27
        try clear c28
        try clear c30
        try clear c31
        try clear hcz17_0
        try clear hcz17_1
        try clear hcz17_2
        try clear hcz17_3
        try clear hcz17_4
        try clear hcz22_0
        try clear hcz22_1
        try clear hcz22_2
        try clear hcz22_3
        try clear hcz22_4
        try clear hcz24_0
        try clear hcz24_1
        try clear hcz24_2
        try clear hcz24_3
        try clear hcz29_0
        try clear hcz29_1
        try clear hcz29_2
        try clear hcz29_3
        try clear hcz32_0
        try clear hcz32_1
        try clear hcz32_2
        try clear hcz32_3
        try clear hcz32_4
        try clear hfz17_0
        try clear hfz17_1
        try clear hfz17_2
        try clear hfz17_3
        try clear hfz17_4
        try clear hfz22_0
        try clear hfz22_1
        try clear hfz22_2
        try clear hfz22_3
        try clear hfz22_4
        try clear hfz24_0
        try clear hfz24_1
        try clear hfz24_2
        try clear hfz24_3
        try clear hfz29_0
        try clear hfz29_1
        try clear hfz29_2
        try clear hfz29_3
        try clear hfz32_0
        try clear hfz32_1
        try clear hfz32_2
        try clear hfz32_3
        try clear hfz32_4
        try clear hx125_0
        try clear hx125_1
        try clear hx125_2
        try clear hx125_3
        try clear hx125_4
        try clear hx126_0
        try clear hx126_1
        try clear hx126_2
        try clear hx126_3
        try clear hx126_4
        try clear hx128_0
        try clear hx128_1
        try clear hx128_2
        try clear hx128_3
        try clear hx128_4
        try clear p1
        try clear p125
        try clear p126
        try clear p128
        try clear p2
        try clear q1
        try clear q125
        try clear q126
        try clear q128
        obtain ⟨kq, x131000_12, x131001_12, x131002_12, x131003_12, x131004_12, HA, HJ12, BK124, BK127, BK129, BK130, HB⟩ := hcut
        cases kq with
        | zero => exact absurd HA.out (by simp [bytes_pointer.j1])
        | succ kj12 =>
         have H := HA.out
         clear HA
         simp only [bytes_pointer.j1] at H
         by_cases c33 : (!(((rd_T51 l0 x19_1).f0) == x131000_12) || (!(((rd_T51 l0 x19_1).f1) == x131001_12) || (!(((rd_T51 l0 x19_1).f2) == x131002_12) || (!(((rd_T51 l0 x19_1).f3) == x131003_12) || (!(((rd_T51 l0 x19_1).f4) == x131004_12)))))) = true
         ·rw [if_pos c33] at H
          have c33b0 : (!(((rd_T51 l0 x19_1).f0) == x131000_12) || (!(((rd_T51 l0 x19_1).f1) == x131001_12) || (!(((rd_T51 l0 x19_1).f2) == x131002_12) || (!(((rd_T51 l0 x19_1).f3) == x131003_12) || (!(((rd_T51 l0 x19_1).f4) == x131004_12)))))) = true := c33
          clear c33
          simp only [Option.some.injEq, Prod.mk.injEq] at H
          obtain ⟨rfl, rfl, rfl, rfl, rfl⟩ := H
          have hnb34 := NB129_124.out
          have hnc34 := NB124_129.out
          have hnb35 := NB129_127.out
          have hnc35 := NB127_129.out
          have hnb36 := NB129_130.out
          have hnc36 := NB130_129.out
          have hcz37_0 : wc.cell? ⟨gb129, 0, none⟩ = some (.int .i64 ((rd_T51 l0 x19_1).f0)) := (blk_cell BK129.out 0).trans rfl
          have hcz37_1 : wc.cell? ⟨gb129, 1, none⟩ = some (.int .i64 ((rd_T51 l0 x19_1).f1)) := (blk_cell BK129.out 1).trans rfl
          have hcz37_2 : wc.cell? ⟨gb129, 2, none⟩ = some (.int .i64 ((rd_T51 l0 x19_1).f2)) := (blk_cell BK129.out 2).trans rfl
          have hcz37_3 : wc.cell? ⟨gb129, 3, none⟩ = some (.int .i64 ((rd_T51 l0 x19_1).f3)) := (blk_cell BK129.out 3).trans rfl
          have hcz37_4 : wc.cell? ⟨gb129, 4, none⟩ = some (.int .i64 ((rd_T51 l0 x19_1).f4)) := (blk_cell BK129.out 4).trans rfl
          have hfz37_0 := blk_frozen BK129.out 0
          have hfz37_1 := blk_frozen BK129.out 1
          have hfz37_2 := blk_frozen BK129.out 2
          have hfz37_3 := blk_frozen BK129.out 3
          have hfz37_4 := blk_frozen BK129.out 4
          have hnb38 := NB130_124.out
          have hnc38 := NB124_130.out
          have hnb39 := NB130_127.out
          have hnc39 := NB127_130.out
          have hcz40_0 : wc.cell? ⟨gb130, 0, none⟩ = some (.int .i64 x131000_12) := (blk_cell BK130.out 0).trans rfl
          have hcz40_1 : wc.cell? ⟨gb130, 1, none⟩ = some (.int .i64 x131001_12) := (blk_cell BK130.out 1).trans rfl
          have hcz40_2 : wc.cell? ⟨gb130, 2, none⟩ = some (.int .i64 x131002_12) := (blk_cell BK130.out 2).trans rfl
          have hcz40_3 : wc.cell? ⟨gb130, 3, none⟩ = some (.int .i64 x131003_12) := (blk_cell BK130.out 3).trans rfl
          have hcz40_4 : wc.cell? ⟨gb130, 4, none⟩ = some (.int .i64 x131004_12) := (blk_cell BK130.out 4).trans rfl
          have hfz40_0 := blk_frozen BK130.out 0
          have hfz40_1 := blk_frozen BK130.out 1
          have hfz40_2 := blk_frozen BK130.out 2
          have hfz40_3 := blk_frozen BK130.out 3
          have hfz40_4 := blk_frozen BK130.out 4
          have hnb41 := NB124_127.out
          have hnc41 := NB127_124.out
          have hcz42_0 : wc.cell? ⟨gb124, 0, none⟩ = some (.bool x125000_1) := (blk_cell BK124.out 0).trans rfl
          have hcz42_1 : wc.cell? ⟨gb124, 1, none⟩ = some (.int .i64 x125001_1) := (blk_cell BK124.out 1).trans rfl
          have hcz42_2 : wc.cell? ⟨gb124, 2, none⟩ = some (.int .i64 x125002_1) := (blk_cell BK124.out 2).trans rfl
          have hcz42_3 : wc.cell? ⟨gb124, 3, none⟩ = some (.int .i64 x125003_1) := (blk_cell BK124.out 3).trans rfl
          have hfz42_0 := blk_frozen BK124.out 0
          have hfz42_1 := blk_frozen BK124.out 1
          have hfz42_2 := blk_frozen BK124.out 2
          have hfz42_3 := blk_frozen BK124.out 3
          go_wp2
          refine bodyPost_ret (results_ct rfl _ _ gb124 33 #[.bool false, .int .i64 0, .int .i64 0, .int .i64 0] (0, 0) _ rfl (by (with_reducible repeat (first | refine blk_drewN ?_ _ | refine blk_drew ?_ | refine blk_alloc ?_ _)); refine blk_put (cs := #[.bool false, .int .i64 0, .int .i64 0, .int .i64 x125003_1]) ?_ 3 _ rfl; (with_reducible repeat (first | refine blk_drewN ?_ _ | refine blk_drew ?_ | refine blk_alloc ?_ _)); refine blk_put (cs := #[.bool false, .int .i64 0, .int .i64 x125002_1, .int .i64 x125003_1]) ?_ 2 _ rfl; (with_reducible repeat (first | refine blk_drewN ?_ _ | refine blk_drew ?_ | refine blk_alloc ?_ _)); refine blk_put (cs := #[.bool false, .int .i64 x125001_1, .int .i64 x125002_1, .int .i64 x125003_1]) ?_ 1 _ rfl; (with_reducible repeat (first | refine blk_drewN ?_ _ | refine blk_drew ?_ | refine blk_alloc ?_ _)); refine blk_put (cs := #[.bool x125000_1, .int .i64 x125001_1, .int .i64 x125002_1, .int .i64 x125003_1]) ?_ 0 _ rfl; (with_reducible repeat (first | refine blk_drewN ?_ _ | refine blk_drew ?_ | refine blk_alloc ?_ _)); exact BK124.out) Try.underlying33 rfl (by kernel_rfl)) rfl ?_
          exact ⟨by first | rfl | (simp [errW_none, errW_some] <;> rfl) | (simp [*, errW_none, errW_some] <;> rfl), zw4 HB.out GE124.out GE127.out GE129.out GE130.out⟩
         ·rw [if_neg c33] at H
          have c33b0 : (!(((rd_T51 l0 x19_1).f0) == x131000_12) || (!(((rd_T51 l0 x19_1).f1) == x131001_12) || (!(((rd_T51 l0 x19_1).f2) == x131002_12) || (!(((rd_T51 l0 x19_1).f3) == x131003_12) || (!(((rd_T51 l0 x19_1).f4) == x131004_12)))))) = false := by simpa using c33
          clear c33
          have H' := Aside0.mk H
          clear H
          have hnb43 := NB129_124.out
          have hnc43 := NB124_129.out
          have hnb44 := NB129_127.out
          have hnc44 := NB127_129.out
          have hnb45 := NB129_130.out
          have hnc45 := NB130_129.out
          have hcz46_0 : wc.cell? ⟨gb129, 0, none⟩ = some (.int .i64 ((rd_T51 l0 x19_1).f0)) := (blk_cell BK129.out 0).trans rfl
          have hcz46_1 : wc.cell? ⟨gb129, 1, none⟩ = some (.int .i64 ((rd_T51 l0 x19_1).f1)) := (blk_cell BK129.out 1).trans rfl
          have hcz46_2 : wc.cell? ⟨gb129, 2, none⟩ = some (.int .i64 ((rd_T51 l0 x19_1).f2)) := (blk_cell BK129.out 2).trans rfl
          have hcz46_3 : wc.cell? ⟨gb129, 3, none⟩ = some (.int .i64 ((rd_T51 l0 x19_1).f3)) := (blk_cell BK129.out 3).trans rfl
          have hcz46_4 : wc.cell? ⟨gb129, 4, none⟩ = some (.int .i64 ((rd_T51 l0 x19_1).f4)) := (blk_cell BK129.out 4).trans rfl
          have hfz46_0 := blk_frozen BK129.out 0
          have hfz46_1 := blk_frozen BK129.out 1
          have hfz46_2 := blk_frozen BK129.out 2
          have hfz46_3 := blk_frozen BK129.out 3
          have hfz46_4 := blk_frozen BK129.out 4
          have hnb47 := NB130_124.out
          have hnc47 := NB124_130.out
          have hnb48 := NB130_127.out
          have hnc48 := NB127_130.out
          have hcz49_0 : wc.cell? ⟨gb130, 0, none⟩ = some (.int .i64 x131000_12) := (blk_cell BK130.out 0).trans rfl
          have hcz49_1 : wc.cell? ⟨gb130, 1, none⟩ = some (.int .i64 x131001_12) := (blk_cell BK130.out 1).trans rfl
          have hcz49_2 : wc.cell? ⟨gb130, 2, none⟩ = some (.int .i64 x131002_12) := (blk_cell BK130.out 2).trans rfl
          have hcz49_3 : wc.cell? ⟨gb130, 3, none⟩ = some (.int .i64 x131003_12) := (blk_cell BK130.out 3).trans rfl
          have hcz49_4 : wc.cell? ⟨gb130, 4, none⟩ = some (.int .i64 x131004_12) := (blk_cell BK130.out 4).trans rfl
          have hfz49_0 := blk_frozen BK130.out 0
          have hfz49_1 := blk_frozen BK130.out 1
          have hfz49_2 := blk_frozen BK130.out 2
          have hfz49_3 := blk_frozen BK130.out 3
          have hfz49_4 := blk_frozen BK130.out 4
          go_wp2
          go_roundg kj12
          case measure => have := HK1.out; have := HJ12.out; omega
          case rel => exact ⟨(wrap64 (x19_1 + 1)), (x125000_1), (x125001_1), (x125002_1), (x125003_1), (by first | rfl | (simp; done) | (simp [*]; done)), H', ⟨by have := HK1.out; have := HJ12.out; omega⟩, ⟨zb BK124.out⟩, ⟨zb BK127.out⟩, ⟨zw4 HB.out GE124.out GE127.out GE129.out GE130.out⟩⟩
      ·rw [if_neg c12] at H
       exact absurd H (by simp)
     ·rw [if_neg c11] at H
      exact absurd H (by simp)
    ·rw [if_neg c10] at H
     have c10b0 : decide (x19_1 < (l0.length : Int)) = false := decide_eq_false c10
     clear c10
     simp only [Option.some.injEq, Prod.mk.injEq] at H
     obtain ⟨rfl, rfl, rfl, rfl, rfl⟩ := H
     have hnb50 := NB127_124.out
     have hnc50 := NB124_127.out
     have hcz51_0 : wr.cell? ⟨gb127, 0, none⟩ = some (.bool true) := (blk_cell BK127.out 0).trans rfl
     have hcz51_1 : wr.cell? ⟨gb127, 1, none⟩ = some (.int .i64 0) := (blk_cell BK127.out 1).trans rfl
     have hcz51_2 : wr.cell? ⟨gb127, 2, none⟩ = some (.int .i64 ((rd_T51 l0 0).f2)) := (blk_cell BK127.out 2).trans rfl
     have hcz51_3 : wr.cell? ⟨gb127, 3, none⟩ = some (.int .i64 ((rd_T51 l0 0).f3)) := (blk_cell BK127.out 3).trans rfl
     have hfz51_0 := blk_frozen BK127.out 0
     have hfz51_1 := blk_frozen BK127.out 1
     have hfz51_2 := blk_frozen BK127.out 2
     have hfz51_3 := blk_frozen BK127.out 3
     have hcz52_0 : wr.cell? ⟨gb124, 0, none⟩ = some (.bool x125000_1) := (blk_cell BK124.out 0).trans rfl
     have hcz52_1 : wr.cell? ⟨gb124, 1, none⟩ = some (.int .i64 x125001_1) := (blk_cell BK124.out 1).trans rfl
     have hcz52_2 : wr.cell? ⟨gb124, 2, none⟩ = some (.int .i64 x125002_1) := (blk_cell BK124.out 2).trans rfl
     have hcz52_3 : wr.cell? ⟨gb124, 3, none⟩ = some (.int .i64 x125003_1) := (blk_cell BK124.out 3).trans rfl
     have hfz52_0 := blk_frozen BK124.out 0
     have hfz52_1 := blk_frozen BK124.out 1
     have hfz52_2 := blk_frozen BK124.out 2
     have hfz52_3 := blk_frozen BK124.out 3
     go_wp2
     refine bodyPost_ret (results_ct rfl _ _ gb124 33 #[.bool true, .int .i64 0, .int .i64 ((rd_T51 l0 0).f2), .int .i64 ((rd_T51 l0 0).f3)] (0, 0) _ rfl (by (with_reducible repeat (first | refine blk_drewN ?_ _ | refine blk_drew ?_ | refine blk_alloc ?_ _)); refine blk_put (cs := #[.bool true, .int .i64 0, .int .i64 ((rd_T51 l0 0).f2), .int .i64 x125003_1]) ?_ 3 _ rfl; (with_reducible repeat (first | refine blk_drewN ?_ _ | refine blk_drew ?_ | refine blk_alloc ?_ _)); refine blk_put (cs := #[.bool true, .int .i64 0, .int .i64 x125002_1, .int .i64 x125003_1]) ?_ 2 _ rfl; (with_reducible repeat (first | refine blk_drewN ?_ _ | refine blk_drew ?_ | refine blk_alloc ?_ _)); refine blk_put (cs := #[.bool true, .int .i64 x125001_1, .int .i64 x125002_1, .int .i64 x125003_1]) ?_ 1 _ rfl; (with_reducible repeat (first | refine blk_drewN ?_ _ | refine blk_drew ?_ | refine blk_alloc ?_ _)); refine blk_put (cs := #[.bool x125000_1, .int .i64 x125001_1, .int .i64 x125002_1, .int .i64 x125003_1]) ?_ 0 _ rfl; (with_reducible repeat (first | refine blk_drewN ?_ _ | refine blk_drew ?_ | refine blk_alloc ?_ _)); exact BK124.out) Try.underlying33 rfl (by kernel_rfl)) rfl ?_
     exact ⟨by first | rfl | (simp [errW_none, errW_some] <;> rfl) | (simp [*, errW_none, errW_some] <;> rfl), zw2 HB.out GE124.out GE127.out⟩
 ·rw [if_neg c2] at H
  exact absurd H (by simp)

end Go.Proofs.Ythhdmanpjeminaa.C
