-- Written by this session's own edition of the print.
import Derived.Test.YtjoplkillkhiaaaDx0
import Derived.Test.YtjoplkillkhiaaaDx2
import Derived.Test.YtjoplkillkhiaaaSq
import Derived.Test.YtjoplkillkhiaaaSq2
namespace Go.Proofs.Ytjoplkillkhiaaa.D
open Go.RowKit Go.Proofs.Ytjoplkillkhiaaa.Fn Go.Proofs.YtjoplkillkhiaaaW.PrintWords Go.Proofs.YtjoplkillkhiaaaW.PrintLast Go.Proofs.YtjoplkillkhiaaaW.PrintMore
attribute [local go_sem] max2_int min2_int max_two min_two max_three min_three max_four min_four   -- for this text's walks alone
set_option linter.unusedVariables false
set_option linter.unusedSimpArgs false

attribute [local go_sem high] eqA74
/-! bytes_pointer -/
mutual
def bytes_pointer.l0 : Nat → List (S74) → Int → Int → Bool → Int → Int → Int → Option (Bool × Int × Int × Int × Int)
 | 0, _, _, _, _, _, _, _ => none
 | k + 1, x17, x18, x19, x238000, x238001, x238002, x238003 => if x19 < x18 then (if 0 ≤ x19 then (if x19 < (x17.length : Int) then (if x238002 > 0 then (bytes_pointer.j1 k x17 x18 x19 x238000 x238001 x238002 x238003 ((rd_T74 x17 x19).f0) ((rd_T74 x17 x19).f1) ((rd_T74 x17 x19).f2) ((rd_T74 x17 x19).f3) ((rd_T74 x17 x19).f4) 2 0 x238002 x238003 x19) else (bytes_pointer.j1 k x17 x18 x19 x238000 x238001 x238002 x238003 ((rd_T74 x17 x19).f0) ((rd_T74 x17 x19).f1) ((rd_T74 x17 x19).f2) ((rd_T74 x17 x19).f3) ((rd_T74 x17 x19).f4) 1 0 0 0 0)) else (none)) else (none)) else (some (x238000, x238001, x238002, x238003, 0))
def bytes_pointer.j1 : Nat → List (S74) → Int → Int → Bool → Int → Int → Int → Int → Int → Int → Int → Int → Int → Int → Int → Int → Int → Option (Bool × Int × Int × Int × Int)
 | 0, _, _, _, _, _, _, _, _, _, _, _, _, _, _, _, _, _ => none
 | k + 1, x17, x18, x19, x238000, x238001, x238002, x238003, x240000, x240001, x240002, x240003, x240004, x241000, x241001, x241002, x241003, x241004 => if (!(x240000 == x241000) || (!(x240001 == x241001) || (!(x240002 == x241002) || (!(x240003 == x241003) || (!(x240004 == x241004)))))) = true then (some (false, 0, 0, 0, 8)) else (bytes_pointer.l0 k x17 x18 (wrap64 (x19 + 1)) x238000 x238001 x238002 x238003)
end
def bytes_pointer.f (k : Nat) (l0 : List (S74)) : Option (Bool × Int × Int × Int × Int) := if 0 < (l0.length : Int) then (bytes_pointer.l0 k l0 (l0.length : Int) 0 true 0 ((rd_T74 l0 0).f2) ((rd_T74 l0 0).f3)) else (none)
theorem bytes_pointer.mono_l : ∀ k, (∀ y0 y1 y2 y3 y4 y5 y6, LeO (bytes_pointer.l0 k y0 y1 y2 y3 y4 y5 y6) (bytes_pointer.l0 (k + 1) y0 y1 y2 y3 y4 y5 y6)) ∧ (∀ y0 y1 y2 y3 y4 y5 y6 y7 y8 y9 y10 y11 y12 y13 y14 y15 y16, LeO (bytes_pointer.j1 k y0 y1 y2 y3 y4 y5 y6 y7 y8 y9 y10 y11 y12 y13 y14 y15 y16) (bytes_pointer.j1 (k + 1) y0 y1 y2 y3 y4 y5 y6 y7 y8 y9 y10 y11 y12 y13 y14 y15 y16))
 | 0 => ⟨fun _ _ _ _ _ _ _ r h => by simp [bytes_pointer.l0] at h, fun _ _ _ _ _ _ _ _ _ _ _ _ _ _ _ _ _ r h => by simp [bytes_pointer.j1] at h⟩
 | k + 1 => by
  obtain ⟨ih0, ih1⟩ := bytes_pointer.mono_l k
  refine ⟨?_, ?_⟩
  ·intro y0 y1 y2 y3 y4 y5 y6
   unfold bytes_pointer.l0
   repeat' first
   | (with_reducible apply ih0)
   | (with_reducible apply ih1)
   | (with_reducible apply LeO.refl)
   | (with_reducible apply LeO.none)
   | (with_reducible refine LeO.ite ?_ ?_)
   | (with_reducible refine LeO.bind ?_ (fun _ => ?_))
  ·intro y0 y1 y2 y3 y4 y5 y6 y7 y8 y9 y10 y11 y12 y13 y14 y15 y16
   unfold bytes_pointer.j1
   repeat' first
   | (with_reducible apply ih0)
   | (with_reducible apply ih1)
   | (with_reducible apply LeO.refl)
   | (with_reducible apply LeO.none)
   | (with_reducible refine LeO.ite ?_ ?_)
   | (with_reducible refine LeO.bind ?_ (fun _ => ?_))
theorem bytes_pointer.mono : ∀ a0 k, LeO (bytes_pointer.f k a0) (bytes_pointer.f (k + 1) a0) := by
 intro a0 k
 obtain ⟨ih0, ih1⟩ := bytes_pointer.mono_l k
 unfold bytes_pointer.f
 repeat' first
   | (with_reducible apply ih0)
   | (with_reducible apply ih1)
   | (with_reducible apply LeO.refl)
   | (with_reducible apply LeO.none)
   | (with_reducible refine LeO.ite ?_ ?_)
   | (with_reducible refine LeO.bind ?_ (fun _ => ?_))
def bytes_pointer.T1 : Bool × List (List Nat × List Nat) := (true, [([], []), ([0], [0]), ([1], [1]), ([2], [2]), ([], []), ([4], [4]), ([5], [5]), ([6], [6]), ([3, 7], [3, 7]), ([], []), ([9, 8, 0, 1, 2, 3, 4, 5, 6, 7, 8, 9], [8, 9])])
def bytes_pointer.B1 : List Nat := [0, 1, 3, 7, 0, 16, 48, 112, 255, 0, 1023]
theorem bytes_pointer.tab1 : rtab .any (opsOf Try.f120 1) = bytes_pointer.T1 := by kernel_rfl
theorem bytes_pointer.bits1 : waitsOk bytes_pointer.T1.2 bytes_pointer.B1 = true := by kernel_rfl
set_option maxHeartbeats 8000000 in
set_option maxRecDepth 100000 in
theorem bytes_pointer.calls (k : Nat) (A0 : Option Addr) (c0 : Nat) (l0 : List (S74)) (r1 : Bool) (r2 : Int) (r3 : Int) (r4 : Int) (r5 : Int) (w : World) (hr0 : Kd.C k74 w A0 l0.length l0) (hc0 : l0.length ≤ c0) (h : bytes_pointer.f k l0 = some (r1, r2, r3, r4, r5)) :
  Calls Try.prog 120 #[.slice A0 l0.length c0] w fun e w' => e = .returned (.tuple #[.agg #[.bool r1, .int .i64 r2, .int .i64 r3, .int .i64 r4], .int .i64 r5]) ∧ Below w.heap.size w w' := by
 have hu62 := Try.underlying62
 have hu74 := Try.underlying74
 have HR0 := Aside0.mk hr0
 have HC0 := Aside0.mk hc0
 clear hr0 hc0
 have HB := Aside0.mk (Below.refl w.heap.size w)
 have H : (if 0 < (l0.length : Int) then (bytes_pointer.l0 k l0 (l0.length : Int) 0 true 0 ((rd_T74 l0 0).f2) ((rd_T74 l0 0).f3)) else (none)) = some (r1, r2, r3, r4, r5) := h
 clear h
 by_cases c2 : 0 < (l0.length : Int)
 ·rw [if_pos c2] at H
  have c2b0 : decide (0 < (l0.length : Int)) = true := decide_eq_true c2
  have c2b1 : decide (0 < l0.length) = true := decide_eq_true (by omega)
  clear c2
  have H' := Aside0.mk H
  clear H
  go_enter Try.func120, Try.ntmps120
  try go_wp2_with (first | ((with_reducible refine gate_dst (N := 2) rfl ?_); refine zbox (N := 2) (cs := #[.bool false, .int .i64 0, .int .i64 0, .int .i64 0]) (t := 62) ?_; intro gb234 hg w3 hbox hb; have n0_ := Aside0.mk (below_step (zw0 HB.out) hb); have BK234 := Aside0.mk (hbox); have GW234 := Aside0.mk (zg hg (below_size (zw0 HB.out))); have GE234 := GW234; clear HB; have HB := n0_; clear n0_; clear hb hbox hg))
  have n0_ := Aside0.mk (blk_drew BK234.out)
  have n1_ := Aside0.mk (below_drew1 HB.out)
  clear BK234
  clear HB
  have BK234 := n0_
  have HB := n1_
  clear n0_ n1_
  have p235 : 0 ≤ (0 : Int) := (by omega)
  have q235 : 0 < (l0.length : Int) := zdec
  obtain ⟨ad235, e235, hx235_0, hx235_1, hx235_2, hx235_3, hx235_4⟩ := at_T74 HR0.out 0 p235 q235
  have hw235_4 := hx235_4
  (try rw [show ((0 : Int)).toNat = 0 from rfl] at hw235_4)
  (try rw [show 0 * 5 = 0 from rfl] at hw235_4)
  (try rw [Addr.add_zero'] at hw235_4)
  have hw235_3 := hx235_3
  (try rw [show ((0 : Int)).toNat = 0 from rfl] at hw235_3)
  (try rw [show 0 * 5 = 0 from rfl] at hw235_3)
  (try rw [Addr.add_zero'] at hw235_3)
  have hw235_2 := hx235_2
  (try rw [show ((0 : Int)).toNat = 0 from rfl] at hw235_2)
  (try rw [show 0 * 5 = 0 from rfl] at hw235_2)
  (try rw [Addr.add_zero'] at hw235_2)
  have hw235_1 := hx235_1
  (try rw [show ((0 : Int)).toNat = 0 from rfl] at hw235_1)
  (try rw [show 0 * 5 = 0 from rfl] at hw235_1)
  (try rw [Addr.add_zero'] at hw235_1)
  have hw235_0 := hx235_0
  (try rw [show ((0 : Int)).toNat = 0 from rfl] at hw235_0)
  (try rw [show 0 * 5 = 0 from rfl] at hw235_0)
  (try rw [Addr.add_zero'] at hw235_0)
  cases e235
  have qi235 : (0 < l0.length) = True := eq_true (by omega)
  (try rw [show ((0 : Int)).toNat = 0 from rfl] at hx235_0)
  (try rw [show 0 * 5 = 0 from rfl] at hx235_0)
  (try rw [Addr.add_zero'] at hx235_0)
  (try rw [show ((0 : Int)).toNat = 0 from rfl] at hx235_1)
  (try rw [show 0 * 5 = 0 from rfl] at hx235_1)
  (try rw [Addr.add_zero'] at hx235_1)
  (try rw [show ((0 : Int)).toNat = 0 from rfl] at hx235_2)
  (try rw [show 0 * 5 = 0 from rfl] at hx235_2)
  (try rw [Addr.add_zero'] at hx235_2)
  (try rw [show ((0 : Int)).toNat = 0 from rfl] at hx235_3)
  (try rw [show 0 * 5 = 0 from rfl] at hx235_3)
  (try rw [Addr.add_zero'] at hx235_3)
  (try rw [show ((0 : Int)).toNat = 0 from rfl] at hx235_4)
  (try rw [show 0 * 5 = 0 from rfl] at hx235_4)
  (try rw [Addr.add_zero'] at hx235_4)
  replace hx235_0 := zh HB.out hx235_0
  replace hx235_1 := zh HB.out hx235_1
  replace hx235_2 := zh HB.out hx235_2
  replace hx235_3 := zh HB.out hx235_3
  replace hx235_4 := zh HB.out hx235_4
  replace p235 := eq_true p235
  replace q235 := eq_true q235
  have p236 : 0 ≤ (0 : Int) := (by omega)
  have q236 : 0 < (l0.length : Int) := zdec
  obtain ⟨ad236, e236, hx236_0, hx236_1, hx236_2, hx236_3, hx236_4⟩ := at_T74 HR0.out 0 p236 q236
  have hw236_4 := hx236_4
  (try rw [show ((0 : Int)).toNat = 0 from rfl] at hw236_4)
  (try rw [show 0 * 5 = 0 from rfl] at hw236_4)
  (try rw [Addr.add_zero'] at hw236_4)
  have hw236_3 := hx236_3
  (try rw [show ((0 : Int)).toNat = 0 from rfl] at hw236_3)
  (try rw [show 0 * 5 = 0 from rfl] at hw236_3)
  (try rw [Addr.add_zero'] at hw236_3)
  have hw236_2 := hx236_2
  (try rw [show ((0 : Int)).toNat = 0 from rfl] at hw236_2)
  (try rw [show 0 * 5 = 0 from rfl] at hw236_2)
  (try rw [Addr.add_zero'] at hw236_2)
  have hw236_1 := hx236_1
  (try rw [show ((0 : Int)).toNat = 0 from rfl] at hw236_1)
  (try rw [show 0 * 5 = 0 from rfl] at hw236_1)
  (try rw [Addr.add_zero'] at hw236_1)
  have hw236_0 := hx236_0
  (try rw [show ((0 : Int)).toNat = 0 from rfl] at hw236_0)
  (try rw [show 0 * 5 = 0 from rfl] at hw236_0)
  (try rw [Addr.add_zero'] at hw236_0)
  obtain rfl : ad235 = ad236 := (by injection e236)
  have qi236 : (0 < l0.length) = True := eq_true (by omega)
  (try rw [show ((0 : Int)).toNat = 0 from rfl] at hx236_0)
  (try rw [show 0 * 5 = 0 from rfl] at hx236_0)
  (try rw [Addr.add_zero'] at hx236_0)
  (try rw [show ((0 : Int)).toNat = 0 from rfl] at hx236_1)
  (try rw [show 0 * 5 = 0 from rfl] at hx236_1)
  (try rw [Addr.add_zero'] at hx236_1)
  (try rw [show ((0 : Int)).toNat = 0 from rfl] at hx236_2)
  (try rw [show 0 * 5 = 0 from rfl] at hx236_2)
  (try rw [Addr.add_zero'] at hx236_2)
  (try rw [show ((0 : Int)).toNat = 0 from rfl] at hx236_3)
  (try rw [show 0 * 5 = 0 from rfl] at hx236_3)
  (try rw [Addr.add_zero'] at hx236_3)
  (try rw [show ((0 : Int)).toNat = 0 from rfl] at hx236_4)
  (try rw [show 0 * 5 = 0 from rfl] at hx236_4)
  (try rw [Addr.add_zero'] at hx236_4)
  replace hx236_0 := zh HB.out hx236_0
  replace hx236_1 := zh HB.out hx236_1
  replace hx236_2 := zh HB.out hx236_2
  replace hx236_3 := zh HB.out hx236_3
  replace hx236_4 := zh HB.out hx236_4
  replace p236 := eq_true p236
  replace q236 := eq_true q236
  refine start_ (n := 11) (S := fun w' => w'.cell? ad235 = some (.int .i64 ((rd_T74 l0 0).f0)) ∧ w'.cell? ⟨ad235.block, ad235.off + 1, none⟩ = some (.int .i64 ((rd_T74 l0 0).f1)) ∧ w'.cell? ⟨ad235.block, ad235.off + 2, none⟩ = some (.int .i64 ((rd_T74 l0 0).f2)) ∧ w'.cell? ⟨ad235.block, ad235.off + 3, none⟩ = some (.int .i64 ((rd_T74 l0 0).f3)) ∧ w'.cell? ⟨ad235.block, ad235.off + 4, none⟩ = some (.int .i64 ((rd_T74 l0 0).f4)) ∧ w'.cell? ad235 = some (.int .i64 ((rd_T74 l0 0).f0)) ∧ w'.cell? ⟨ad235.block, ad235.off + 1, none⟩ = some (.int .i64 ((rd_T74 l0 0).f1)) ∧ w'.cell? ⟨ad235.block, ad235.off + 2, none⟩ = some (.int .i64 ((rd_T74 l0 0).f2)) ∧ w'.cell? ⟨ad235.block, ad235.off + 3, none⟩ = some (.int .i64 ((rd_T74 l0 0).f3)) ∧ w'.cell? ⟨ad235.block, ad235.off + 4, none⟩ = some (.int .i64 ((rd_T74 l0 0).f4))) (ds := []) #[false,false,false,false,false,false,false,false,false,false,false] (by kernel_rfl) rfl rfl ⟨((HB.out.cell (World.block_lt_of_cell? w _ hw235_0)).trans hw235_0), ((HB.out.cell (World.block_lt_of_cell? w _ hw235_1)).trans hw235_1), ((HB.out.cell (World.block_lt_of_cell? w _ hw235_2)).trans hw235_2), ((HB.out.cell (World.block_lt_of_cell? w _ hw235_3)).trans hw235_3), ((HB.out.cell (World.block_lt_of_cell? w _ hw235_4)).trans hw235_4), ((HB.out.cell (World.block_lt_of_cell? w _ hw236_0)).trans hw236_0), ((HB.out.cell (World.block_lt_of_cell? w _ hw236_1)).trans hw236_1), ((HB.out.cell (World.block_lt_of_cell? w _ hw236_2)).trans hw236_2), ((HB.out.cell (World.block_lt_of_cell? w _ hw236_3)).trans hw236_3), ((HB.out.cell (World.block_lt_of_cell? w _ hw236_4)).trans hw236_4)⟩ (fun hHeld => ?_); refine with_tabW bytes_pointer.tab1 bytes_pointer.bits1 (fun HT_ HW_ => ?_)
  generalize w3.drew = w4 at BK234 HB hx235_0 hx235_1 hx235_2 hx235_3 hx235_4 hx236_0 hx236_1 hx236_2 hx236_3 hx236_4 hHeld ⊢
  refine zp (i := 0) (N := some 8) #[true,false,false,false,false,false,false,false,false,false,false] (any_of HT_.out (by kernel_rfl)) ?_
  refine zp (i := 1) (N := some 9) #[true,true,false,false,false,false,false,false,false,false,false] (any_of HT_.out (by kernel_rfl)) ?_
  refine zp (i := 2) (N := some 10) #[true,true,true,false,false,false,false,false,false,false,false] (any_of HT_.out (by kernel_rfl)) ?_
  refine zp (i := 4) (N := some 12) #[true,true,true,false,true,false,false,false,false,false,false] (any_of HT_.out (by kernel_rfl)) ?_
  refine zp (i := 5) (N := some 13) #[true,true,true,false,true,true,false,false,false,false,false] (any_of HT_.out (by kernel_rfl)) ?_
  refine zp (i := 6) (N := some 14) #[true,true,true,false,true,true,true,false,false,false,false] (any_of HT_.out (by kernel_rfl)) ?_
  refine take_ (i := 3) (N := some 11) (v := ?_) (a' := ?_) #[true,true,true,true,true,true,true,false,false,false,false] rfl rfl (take_ofW HT_.out HW_.out (by kernel_rfl)) (fun _ _ _ h => h) (Or.inl ⟨by rfl, ?_⟩) hHeld ?_ ?_
  rotate_left
  ·rintro w' ⟨s0, s1, s2, s3, s4, s5, s6, s7, s8, s9⟩
   go_simp
   with_reducible rfl
  rotate_left
  ·simp only [Act.put, List.setIfInBounds_toArray, List.set_cons_zero, List.set_cons_succ, i64_w, i32_w]
   rfl
  refine take_ (i := 7) (N := some 15) (v := ?_) (a' := ?_) #[true,true,true,true,true,true,true,true,false,false,false] rfl rfl (take_ofW HT_.out HW_.out (by kernel_rfl)) (fun _ _ _ h => h) (Or.inl ⟨by rfl, ?_⟩) hHeld ?_ ?_
  rotate_left
  ·rintro w' ⟨s0, s1, s2, s3, s4, s5, s6, s7, s8, s9⟩
   go_simp
   with_reducible rfl
  rotate_left
  ·simp only [Act.put, List.setIfInBounds_toArray, List.set_cons_zero, List.set_cons_succ, i64_w, i32_w]
   rfl
  refine zp (i := 8) (N := some 16) #[true,true,true,true,true,true,true,true,true,false,false] (any_of HT_.out (by kernel_rfl)) ?_
  refine one_ (i := 9) (N := some 4) #[true,true,true,true,true,true,true,true,true,true,false] rfl rfl (one_of HT_.out (by kernel_rfl)) (by decide) (fun K hK => ?_)
  refine box_step ?hg (N := 4) ?hd (cs := #[.bool false, .int .i64 0, .int .i64 0, .int .i64 0]) (t := 62) ?hr ?_; (case hd => rfl); (case hg => rfl); (case hr => first | (go_simp; done) | (go_simp; rfl))
  intro gb237 hg w5 hbox hb
  have n0_ := Aside0.mk (zbb BK234.out hb)
  have n1_ := Aside0.mk (below_step (zw1 HB.out GE234.out) hb)
  have n2_ := Aside0.mk (hbox)
  have n3_ := Aside0.mk (zg hg (below_size (zw1 HB.out GE234.out)))
  have n4_ := Aside0.mk (zg hg (below_size (zw1 HB.out GE234.out)))
  have n5_ := Aside0.mk (zlt hg BK234.out)
  have n6_ := Aside0.mk (zgt hg BK234.out)
  clear BK234
  clear HB
  have BK234 := n0_
  have HB := n1_
  have BK237 := n2_
  have GW237 := n3_
  have GE237 := n4_
  have NB234_237 := n5_
  have NB237_234 := n6_
  clear n0_ n1_ n2_ n3_ n4_ n5_ n6_
  clear hb hbox hg
  refine hK.out _ _ ⟨((HB.out.cell (World.block_lt_of_cell? w _ hw235_0)).trans hw235_0), ((HB.out.cell (World.block_lt_of_cell? w _ hw235_1)).trans hw235_1), ((HB.out.cell (World.block_lt_of_cell? w _ hw235_2)).trans hw235_2), ((HB.out.cell (World.block_lt_of_cell? w _ hw235_3)).trans hw235_3), ((HB.out.cell (World.block_lt_of_cell? w _ hw235_4)).trans hw235_4), ((HB.out.cell (World.block_lt_of_cell? w _ hw236_0)).trans hw236_0), ((HB.out.cell (World.block_lt_of_cell? w _ hw236_1)).trans hw236_1), ((HB.out.cell (World.block_lt_of_cell? w _ hw236_2)).trans hw236_2), ((HB.out.cell (World.block_lt_of_cell? w _ hw236_3)).trans hw236_3), ((HB.out.cell (World.block_lt_of_cell? w _ hw236_4)).trans hw236_4)⟩ (fun hHeld => ?_)
  clear hK K
  refine norm_ (a' := ?_) ?_ ?_
  rotate_left
  ·show Act.put _ (some 4) _ = _
   simp only [Act.put, List.setIfInBounds_toArray, List.set_cons_zero, List.set_cons_succ, i64_w, i32_w]
   rfl
  refine one_ (i := 10) (N := none) #[true,true,true,true,true,true,true,true,true,true,true] rfl rfl (one_of HT_.out (by kernel_rfl)) (by decide) (fun K hK => ?_)
  have hs6 : w5.cell? ⟨gb237, 0, none⟩ = some (.bool false) := (blk_cell BK237.out 0).trans rfl
  have hfs6 := blk_frozen BK237.out 0
  have hns6_0 := NB234_237.out
  have hms6_0 := NB237_234.out
  have hs7 : w5.cell? ⟨gb237, 1, none⟩ = some (.int .i64 0) := (blk_cell BK237.out 1).trans rfl
  have hfs7 := blk_frozen BK237.out 1
  have hns7_0 := NB234_237.out
  have hms7_0 := NB237_234.out
  have hs8 : w5.cell? ⟨gb237, 2, none⟩ = some (.int .i64 0) := (blk_cell BK237.out 2).trans rfl
  have hfs8 := blk_frozen BK237.out 2
  have hns8_0 := NB234_237.out
  have hms8_0 := NB237_234.out
  have hs9 : w5.cell? ⟨gb237, 3, none⟩ = some (.int .i64 0) := (blk_cell BK237.out 3).trans rfl
  have hfs9 := blk_frozen BK237.out 3
  have hns9_0 := NB234_237.out
  have hms9_0 := NB237_234.out
  refine skip_ (w1 := ?_) (by rfl) rfl ?_ ?_
  rotate_left
  ·go_simp
   rfl
  refine hK.out _ _ ⟨((cell_far (p := ⟨gb237, _, none⟩) (zx (zfar hw235_0 GW237.out)) _).trans (((cell_far (p := ⟨gb237, _, none⟩) (zx (zfar hw235_0 GW237.out)) _).trans (((cell_far (p := ⟨gb237, _, none⟩) (zx (zfar hw235_0 GW237.out)) _).trans (((cell_far (p := ⟨gb237, _, none⟩) (zx (zfar hw235_0 GW237.out)) _).trans (hHeld.1)))))))), ((cell_far (p := ⟨gb237, _, none⟩) (zx (zfar hw235_1 GW237.out)) _).trans (((cell_far (p := ⟨gb237, _, none⟩) (zx (zfar hw235_1 GW237.out)) _).trans (((cell_far (p := ⟨gb237, _, none⟩) (zx (zfar hw235_1 GW237.out)) _).trans (((cell_far (p := ⟨gb237, _, none⟩) (zx (zfar hw235_1 GW237.out)) _).trans (hHeld.2.1)))))))), ((cell_far (p := ⟨gb237, _, none⟩) (zx (zfar hw235_2 GW237.out)) _).trans (((cell_far (p := ⟨gb237, _, none⟩) (zx (zfar hw235_2 GW237.out)) _).trans (((cell_far (p := ⟨gb237, _, none⟩) (zx (zfar hw235_2 GW237.out)) _).trans (((cell_far (p := ⟨gb237, _, none⟩) (zx (zfar hw235_2 GW237.out)) _).trans (hHeld.2.2.1)))))))), ((cell_far (p := ⟨gb237, _, none⟩) (zx (zfar hw235_3 GW237.out)) _).trans (((cell_far (p := ⟨gb237, _, none⟩) (zx (zfar hw235_3 GW237.out)) _).trans (((cell_far (p := ⟨gb237, _, none⟩) (zx (zfar hw235_3 GW237.out)) _).trans (((cell_far (p := ⟨gb237, _, none⟩) (zx (zfar hw235_3 GW237.out)) _).trans (hHeld.2.2.2.1)))))))), ((cell_far (p := ⟨gb237, _, none⟩) (zx (zfar hw235_4 GW237.out)) _).trans (((cell_far (p := ⟨gb237, _, none⟩) (zx (zfar hw235_4 GW237.out)) _).trans (((cell_far (p := ⟨gb237, _, none⟩) (zx (zfar hw235_4 GW237.out)) _).trans (((cell_far (p := ⟨gb237, _, none⟩) (zx (zfar hw235_4 GW237.out)) _).trans (hHeld.2.2.2.2.1)))))))), ((cell_far (p := ⟨gb237, _, none⟩) (zx (zfar hw236_0 GW237.out)) _).trans (((cell_far (p := ⟨gb237, _, none⟩) (zx (zfar hw236_0 GW237.out)) _).trans (((cell_far (p := ⟨gb237, _, none⟩) (zx (zfar hw236_0 GW237.out)) _).trans (((cell_far (p := ⟨gb237, _, none⟩) (zx (zfar hw236_0 GW237.out)) _).trans (hHeld.2.2.2.2.2.1)))))))), ((cell_far (p := ⟨gb237, _, none⟩) (zx (zfar hw236_1 GW237.out)) _).trans (((cell_far (p := ⟨gb237, _, none⟩) (zx (zfar hw236_1 GW237.out)) _).trans (((cell_far (p := ⟨gb237, _, none⟩) (zx (zfar hw236_1 GW237.out)) _).trans (((cell_far (p := ⟨gb237, _, none⟩) (zx (zfar hw236_1 GW237.out)) _).trans (hHeld.2.2.2.2.2.2.1)))))))), ((cell_far (p := ⟨gb237, _, none⟩) (zx (zfar hw236_2 GW237.out)) _).trans (((cell_far (p := ⟨gb237, _, none⟩) (zx (zfar hw236_2 GW237.out)) _).trans (((cell_far (p := ⟨gb237, _, none⟩) (zx (zfar hw236_2 GW237.out)) _).trans (((cell_far (p := ⟨gb237, _, none⟩) (zx (zfar hw236_2 GW237.out)) _).trans (hHeld.2.2.2.2.2.2.2.1)))))))), ((cell_far (p := ⟨gb237, _, none⟩) (zx (zfar hw236_3 GW237.out)) _).trans (((cell_far (p := ⟨gb237, _, none⟩) (zx (zfar hw236_3 GW237.out)) _).trans (((cell_far (p := ⟨gb237, _, none⟩) (zx (zfar hw236_3 GW237.out)) _).trans (((cell_far (p := ⟨gb237, _, none⟩) (zx (zfar hw236_3 GW237.out)) _).trans (hHeld.2.2.2.2.2.2.2.2.1)))))))), ((cell_far (p := ⟨gb237, _, none⟩) (zx (zfar hw236_4 GW237.out)) _).trans (((cell_far (p := ⟨gb237, _, none⟩) (zx (zfar hw236_4 GW237.out)) _).trans (((cell_far (p := ⟨gb237, _, none⟩) (zx (zfar hw236_4 GW237.out)) _).trans (((cell_far (p := ⟨gb237, _, none⟩) (zx (zfar hw236_4 GW237.out)) _).trans (hHeld.2.2.2.2.2.2.2.2.2))))))))⟩ (fun hHeld => ?_)
  clear hK K
  refine done_ (done_of HT_.out (by kernel_rfl)) ?_
  try go_wp2
  go_loopg [19] k (fun kq v19 w' => ∃ (x19_1 : Int) (x235000_1 : Bool) (x235001_1 : Int) (x235002_1 : Int) (x235003_1 : Int), v19 = .int .i64 x19_1 ∧ Aside0 (bytes_pointer.l0 kq l0 (l0.length : Int) x19_1 true 0 ((rd_T74 l0 0).f2) ((rd_T74 l0 0).f3) = some (r1, r2, r3, r4, r5)) ∧ Aside0 (kq ≤ k) ∧ Aside0 (w'.heap[gb234]? = some (.cells #[.bool x235000_1, .int .i64 x235001_1, .int .i64 x235002_1, .int .i64 x235003_1] 62 (0, 0))) ∧ Aside0 (w'.heap[gb237]? = some (.cells #[.bool true, .int .i64 0, .int .i64 ((rd_T74 l0 0).f2), .int .i64 ((rd_T74 l0 0).f3)] 62 (0, 0))) ∧ Aside0 (Below w.heap.size w w'))
  case atStart => exact ⟨(0), (false), (0), (0), (0), (zr), H', ⟨Nat.le_refl _⟩, ⟨zf1 BK234.out NB234_237.out⟩, ⟨by (with_reducible repeat (first | refine blk_drewN ?_ _ | refine blk_drew ?_ | refine blk_alloc ?_ _)); refine blk_put (cs := #[.bool true, .int .i64 0, .int .i64 ((rd_T74 l0 0).f2), .int .i64 0]) ?_ 3 _ rfl; (with_reducible repeat (first | refine blk_drewN ?_ _ | refine blk_drew ?_ | refine blk_alloc ?_ _)); refine blk_put (cs := #[.bool true, .int .i64 0, .int .i64 0, .int .i64 0]) ?_ 2 _ rfl; (with_reducible repeat (first | refine blk_drewN ?_ _ | refine blk_drew ?_ | refine blk_alloc ?_ _)); refine blk_put (cs := #[.bool true, .int .i64 0, .int .i64 0, .int .i64 0]) ?_ 1 _ rfl; (with_reducible repeat (first | refine blk_drewN ?_ _ | refine blk_drew ?_ | refine blk_alloc ?_ _)); refine blk_put (cs := #[.bool false, .int .i64 0, .int .i64 0, .int .i64 0]) ?_ 0 _ rfl; (with_reducible repeat (first | refine blk_drewN ?_ _ | refine blk_drew ?_ | refine blk_alloc ?_ _)); exact BK237.out⟩, ⟨zw2 HB.out GE234.out GE237.out⟩⟩
  case round =>
   clear H'
   try clear c1
   try clear c2
   try clear c2b0
   try clear c2b1
   try clear p2
   try clear q2
   try clear hx2
   try clear qi2
   try clear hx235_0
   try clear hx235_1
   try clear hx235_2
   try clear hx235_3
   try clear hx235_4
   try clear hx236_0
   try clear hx236_1
   try clear hx236_2
   try clear hx236_3
   try clear hx236_4
   try clear p235
   try clear p236
   try clear q235
   try clear q236
   obtain ⟨x19_1, x235000_1, x235001_1, x235002_1, x235003_1, rfl, HA, HK1, BK234, BK237, HB⟩ := hrel
   cases gk with
   | zero => exact absurd HA.out (by simp [bytes_pointer.l0])
   | succ k1 =>
    have H := HA.out
    clear HA
    simp only [bytes_pointer.l0] at H
    by_cases c10 : x19_1 < (l0.length : Int)
    rotate_left
    ·rw [if_neg c10] at H
     have c10b0 : decide (x19_1 < (l0.length : Int)) = false := decide_eq_false c10
     clear c10
     simp only [Option.some.injEq, Prod.mk.injEq] at H
     obtain ⟨rfl, rfl, rfl, rfl, rfl⟩ := H
     have hnb50 := NB237_234.out
     have hnc50 := NB234_237.out
     have hcz51_0 := zc BK237.out 0
     have hcz51_1 := zc BK237.out 1
     have hcz51_2 := zc BK237.out 2
     have hcz51_3 := zc BK237.out 3
     have hfz51_0 := blk_frozen BK237.out 0
     have hfz51_1 := blk_frozen BK237.out 1
     have hfz51_2 := blk_frozen BK237.out 2
     have hfz51_3 := blk_frozen BK237.out 3
     have hcz52_0 := zc BK234.out 0
     have hcz52_1 := zc BK234.out 1
     have hcz52_2 := zc BK234.out 2
     have hcz52_3 := zc BK234.out 3
     have hfz52_0 := blk_frozen BK234.out 0
     have hfz52_1 := blk_frozen BK234.out 1
     have hfz52_2 := blk_frozen BK234.out 2
     have hfz52_3 := blk_frozen BK234.out 3
     go_wp2
     refine bodyPost_ret (results_ct rfl _ _ gb234 62 #[.bool true, .int .i64 0, .int .i64 ((rd_T74 l0 0).f2), .int .i64 ((rd_T74 l0 0).f3)] (0, 0) _ rfl (by (with_reducible repeat (first | refine blk_drewN ?_ _ | refine blk_drew ?_ | refine blk_alloc ?_ _)); refine blk_put (cs := #[.bool true, .int .i64 0, .int .i64 ((rd_T74 l0 0).f2), .int .i64 x235003_1]) ?_ 3 _ rfl; (with_reducible repeat (first | refine blk_drewN ?_ _ | refine blk_drew ?_ | refine blk_alloc ?_ _)); refine blk_put (cs := #[.bool true, .int .i64 0, .int .i64 x235002_1, .int .i64 x235003_1]) ?_ 2 _ rfl; (with_reducible repeat (first | refine blk_drewN ?_ _ | refine blk_drew ?_ | refine blk_alloc ?_ _)); refine blk_put (cs := #[.bool true, .int .i64 x235001_1, .int .i64 x235002_1, .int .i64 x235003_1]) ?_ 1 _ rfl; (with_reducible repeat (first | refine blk_drewN ?_ _ | refine blk_drew ?_ | refine blk_alloc ?_ _)); refine blk_put (cs := #[.bool x235000_1, .int .i64 x235001_1, .int .i64 x235002_1, .int .i64 x235003_1]) ?_ 0 _ rfl; (with_reducible repeat (first | refine blk_drewN ?_ _ | refine blk_drew ?_ | refine blk_alloc ?_ _)); exact BK234.out) Try.underlying62 rfl (by kernel_rfl)) rfl ?_
     exact ⟨ze, zw2 HB.out GE234.out GE237.out⟩
    rw [if_pos c10] at H
    have c10b0 : decide (x19_1 < (l0.length : Int)) = true := decide_eq_true c10
    clear c10
    by_cases c11 : 0 ≤ x19_1
    rotate_left
    ·rw [if_neg c11] at H
     exact absurd H (by simp)
    rw [if_pos c11] at H
    have c11b0 : decide (0 ≤ x19_1) = true := decide_eq_true c11
    clear c11
    by_cases c12 : x19_1 < (l0.length : Int)
    rotate_left
    ·rw [if_neg c12] at H
     exact absurd H (by simp)
    rw [if_pos c12] at H
    have c12b0 : decide (x19_1 < (l0.length : Int)) = true := decide_eq_true c12
    clear c12
    have HC13 := Aside0.mk H
    clear H
    have p238 : 0 ≤ (x19_1 : Int) := zdec
    have q238 : x19_1 < (l0.length : Int) := zdec
    obtain ⟨ad238, e238, hx238_0, hx238_1, hx238_2, hx238_3, hx238_4⟩ := at_T74 HR0.out x19_1 p238 q238
    obtain rfl : ad235 = ad238 := (by injection e238)
    replace hx238_0 := zh HB.out hx238_0
    replace hx238_1 := zh HB.out hx238_1
    replace hx238_2 := zh HB.out hx238_2
    replace hx238_3 := zh HB.out hx238_3
    replace hx238_4 := zh HB.out hx238_4
    replace p238 := eq_true p238
    replace q238 := eq_true q238
    go_upto_if 27 with (first | ((with_reducible refine gate_dst (N := 6) rfl ?_); refine zbox (N := 6) (cs := #[.int .i64 0, .int .i64 0, .int .i64 0, .int .i64 0, .int .i64 0]) (t := 74) ?_; intro gb239 hg w14 hbox hb; have n0_ := Aside0.mk (zbb BK234.out hb); have n1_ := Aside0.mk (zbb BK237.out hb); have n2_ := Aside0.mk (below_step (zw2 HB.out GE234.out GE237.out) hb); have BK239 := Aside0.mk (hbox); have GW239 := Aside0.mk (zg hg (below_size (zw2 HB.out GE234.out GE237.out))); have GE239 := GW239; have NB234_239 := Aside0.mk (zlt hg BK234.out); have NB239_234 := Aside0.mk (zgt hg BK234.out); have NB237_239 := Aside0.mk (zlt hg BK237.out); have NB239_237 := Aside0.mk (zgt hg BK237.out); clear BK234 BK237 HB; have BK234 := n0_; have BK237 := n1_; have HB := n2_; clear n0_ n1_ n2_; clear hb hbox hg; have hnb15 := NB239_234.out; have hnc15 := NB234_239.out; have hnb16 := NB239_237.out; have hnc16 := NB237_239.out; have hcz17_0 := zc BK239.out 0; have hcz17_1 := zc BK239.out 1; have hcz17_2 := zc BK239.out 2; have hcz17_3 := zc BK239.out 3; have hcz17_4 := zc BK239.out 4; have hfz17_0 := blk_frozen BK239.out 0; have hfz17_1 := blk_frozen BK239.out 1; have hfz17_2 := blk_frozen BK239.out 2; have hfz17_3 := blk_frozen BK239.out 3; have hfz17_4 := blk_frozen BK239.out 4) | ((with_reducible refine gate_dst (N := 7) rfl ?_); refine zbox (N := 7) (cs := #[.int .i64 0, .int .i64 0, .int .i64 0, .int .i64 0, .int .i64 0]) (t := 74) ?_; intro gb240 hg w18 hbox hb; have n0_ := Aside0.mk (blk_below (g := gb234) (o := .cells #[.bool x235000_1, .int .i64 x235001_1, .int .i64 x235002_1, .int .i64 x235003_1] 62 (0, 0)) (zf1 BK234.out NB234_239.out) hb); have n1_ := Aside0.mk (blk_below (g := gb237) (o := .cells #[.bool true, .int .i64 0, .int .i64 ((rd_T74 l0 0).f2), .int .i64 ((rd_T74 l0 0).f3)] 62 (0, 0)) (zf1 BK237.out NB237_239.out) hb); have n2_ := Aside0.mk (blk_below (g := gb239) (o := .cells #[.int .i64 ((rd_T74 l0 x19_1).f0), .int .i64 ((rd_T74 l0 x19_1).f1), .int .i64 ((rd_T74 l0 x19_1).f2), .int .i64 ((rd_T74 l0 x19_1).f3), .int .i64 ((rd_T74 l0 x19_1).f4)] 74 (0, 0)) (by (with_reducible repeat (first | refine blk_drewN ?_ _ | refine blk_drew ?_ | refine blk_alloc ?_ _)); refine blk_put (cs := #[.int .i64 ((rd_T74 l0 x19_1).f0), .int .i64 ((rd_T74 l0 x19_1).f1), .int .i64 ((rd_T74 l0 x19_1).f2), .int .i64 ((rd_T74 l0 x19_1).f3), .int .i64 0]) ?_ 4 _ rfl; (with_reducible repeat (first | refine blk_drewN ?_ _ | refine blk_drew ?_ | refine blk_alloc ?_ _)); refine blk_put (cs := #[.int .i64 ((rd_T74 l0 x19_1).f0), .int .i64 ((rd_T74 l0 x19_1).f1), .int .i64 ((rd_T74 l0 x19_1).f2), .int .i64 0, .int .i64 0]) ?_ 3 _ rfl; (with_reducible repeat (first | refine blk_drewN ?_ _ | refine blk_drew ?_ | refine blk_alloc ?_ _)); refine blk_put (cs := #[.int .i64 ((rd_T74 l0 x19_1).f0), .int .i64 ((rd_T74 l0 x19_1).f1), .int .i64 0, .int .i64 0, .int .i64 0]) ?_ 2 _ rfl; (with_reducible repeat (first | refine blk_drewN ?_ _ | refine blk_drew ?_ | refine blk_alloc ?_ _)); refine blk_put (cs := #[.int .i64 ((rd_T74 l0 x19_1).f0), .int .i64 0, .int .i64 0, .int .i64 0, .int .i64 0]) ?_ 1 _ rfl; (with_reducible repeat (first | refine blk_drewN ?_ _ | refine blk_drew ?_ | refine blk_alloc ?_ _)); refine blk_put (cs := #[.int .i64 0, .int .i64 0, .int .i64 0, .int .i64 0, .int .i64 0]) ?_ 0 _ rfl; (with_reducible repeat (first | refine blk_drewN ?_ _ | refine blk_drew ?_ | refine blk_alloc ?_ _)); exact BK239.out) hb); have n3_ := Aside0.mk (below_step (zw3 HB.out GE234.out GE237.out GE239.out) hb); have BK240 := Aside0.mk (hbox); have GW240 := Aside0.mk (zg hg (below_size (zw3 HB.out GE234.out GE237.out GE239.out))); have GE240 := GW240; have NB234_240 := Aside0.mk ((by rw [hg]; exact Nat.ne_of_lt (blk_lt (g := gb234) (o := .cells #[.bool x235000_1, .int .i64 x235001_1, .int .i64 x235002_1, .int .i64 x235003_1] 62 (0, 0)) (zf1 BK234.out NB234_239.out)) : gb234 ≠ gb240)); have NB240_234 := Aside0.mk ((by rw [hg]; exact Nat.ne_of_gt (blk_lt (g := gb234) (o := .cells #[.bool x235000_1, .int .i64 x235001_1, .int .i64 x235002_1, .int .i64 x235003_1] 62 (0, 0)) (zf1 BK234.out NB234_239.out)) : gb240 ≠ gb234)); have NB237_240 := Aside0.mk ((by rw [hg]; exact Nat.ne_of_lt (blk_lt (g := gb237) (o := .cells #[.bool true, .int .i64 0, .int .i64 ((rd_T74 l0 0).f2), .int .i64 ((rd_T74 l0 0).f3)] 62 (0, 0)) (zf1 BK237.out NB237_239.out)) : gb237 ≠ gb240)); have NB240_237 := Aside0.mk ((by rw [hg]; exact Nat.ne_of_gt (blk_lt (g := gb237) (o := .cells #[.bool true, .int .i64 0, .int .i64 ((rd_T74 l0 0).f2), .int .i64 ((rd_T74 l0 0).f3)] 62 (0, 0)) (zf1 BK237.out NB237_239.out)) : gb240 ≠ gb237)); have NB239_240 := Aside0.mk ((by rw [hg]; exact Nat.ne_of_lt (blk_lt (g := gb239) (o := .cells #[.int .i64 ((rd_T74 l0 x19_1).f0), .int .i64 ((rd_T74 l0 x19_1).f1), .int .i64 ((rd_T74 l0 x19_1).f2), .int .i64 ((rd_T74 l0 x19_1).f3), .int .i64 ((rd_T74 l0 x19_1).f4)] 74 (0, 0)) (by (with_reducible repeat (first | refine blk_drewN ?_ _ | refine blk_drew ?_ | refine blk_alloc ?_ _)); refine blk_put (cs := #[.int .i64 ((rd_T74 l0 x19_1).f0), .int .i64 ((rd_T74 l0 x19_1).f1), .int .i64 ((rd_T74 l0 x19_1).f2), .int .i64 ((rd_T74 l0 x19_1).f3), .int .i64 0]) ?_ 4 _ rfl; (with_reducible repeat (first | refine blk_drewN ?_ _ | refine blk_drew ?_ | refine blk_alloc ?_ _)); refine blk_put (cs := #[.int .i64 ((rd_T74 l0 x19_1).f0), .int .i64 ((rd_T74 l0 x19_1).f1), .int .i64 ((rd_T74 l0 x19_1).f2), .int .i64 0, .int .i64 0]) ?_ 3 _ rfl; (with_reducible repeat (first | refine blk_drewN ?_ _ | refine blk_drew ?_ | refine blk_alloc ?_ _)); refine blk_put (cs := #[.int .i64 ((rd_T74 l0 x19_1).f0), .int .i64 ((rd_T74 l0 x19_1).f1), .int .i64 0, .int .i64 0, .int .i64 0]) ?_ 2 _ rfl; (with_reducible repeat (first | refine blk_drewN ?_ _ | refine blk_drew ?_ | refine blk_alloc ?_ _)); refine blk_put (cs := #[.int .i64 ((rd_T74 l0 x19_1).f0), .int .i64 0, .int .i64 0, .int .i64 0, .int .i64 0]) ?_ 1 _ rfl; (with_reducible repeat (first | refine blk_drewN ?_ _ | refine blk_drew ?_ | refine blk_alloc ?_ _)); refine blk_put (cs := #[.int .i64 0, .int .i64 0, .int .i64 0, .int .i64 0, .int .i64 0]) ?_ 0 _ rfl; (with_reducible repeat (first | refine blk_drewN ?_ _ | refine blk_drew ?_ | refine blk_alloc ?_ _)); exact BK239.out)) : gb239 ≠ gb240)); have NB240_239 := Aside0.mk ((by rw [hg]; exact Nat.ne_of_gt (blk_lt (g := gb239) (o := .cells #[.int .i64 ((rd_T74 l0 x19_1).f0), .int .i64 ((rd_T74 l0 x19_1).f1), .int .i64 ((rd_T74 l0 x19_1).f2), .int .i64 ((rd_T74 l0 x19_1).f3), .int .i64 ((rd_T74 l0 x19_1).f4)] 74 (0, 0)) (by (with_reducible repeat (first | refine blk_drewN ?_ _ | refine blk_drew ?_ | refine blk_alloc ?_ _)); refine blk_put (cs := #[.int .i64 ((rd_T74 l0 x19_1).f0), .int .i64 ((rd_T74 l0 x19_1).f1), .int .i64 ((rd_T74 l0 x19_1).f2), .int .i64 ((rd_T74 l0 x19_1).f3), .int .i64 0]) ?_ 4 _ rfl; (with_reducible repeat (first | refine blk_drewN ?_ _ | refine blk_drew ?_ | refine blk_alloc ?_ _)); refine blk_put (cs := #[.int .i64 ((rd_T74 l0 x19_1).f0), .int .i64 ((rd_T74 l0 x19_1).f1), .int .i64 ((rd_T74 l0 x19_1).f2), .int .i64 0, .int .i64 0]) ?_ 3 _ rfl; (with_reducible repeat (first | refine blk_drewN ?_ _ | refine blk_drew ?_ | refine blk_alloc ?_ _)); refine blk_put (cs := #[.int .i64 ((rd_T74 l0 x19_1).f0), .int .i64 ((rd_T74 l0 x19_1).f1), .int .i64 0, .int .i64 0, .int .i64 0]) ?_ 2 _ rfl; (with_reducible repeat (first | refine blk_drewN ?_ _ | refine blk_drew ?_ | refine blk_alloc ?_ _)); refine blk_put (cs := #[.int .i64 ((rd_T74 l0 x19_1).f0), .int .i64 0, .int .i64 0, .int .i64 0, .int .i64 0]) ?_ 1 _ rfl; (with_reducible repeat (first | refine blk_drewN ?_ _ | refine blk_drew ?_ | refine blk_alloc ?_ _)); refine blk_put (cs := #[.int .i64 0, .int .i64 0, .int .i64 0, .int .i64 0, .int .i64 0]) ?_ 0 _ rfl; (with_reducible repeat (first | refine blk_drewN ?_ _ | refine blk_drew ?_ | refine blk_alloc ?_ _)); exact BK239.out)) : gb240 ≠ gb239)); clear BK234 BK237 BK239 HB; have BK234 := n0_; have BK237 := n1_; have BK239 := n2_; have HB := n3_; clear n0_ n1_ n2_ n3_; clear hb hbox hg; have hnb19 := NB240_234.out; have hnc19 := NB234_240.out; have hnb20 := NB240_237.out; have hnc20 := NB237_240.out; have hnb21 := NB240_239.out; have hnc21 := NB239_240.out; have hcz22_0 := zc BK240.out 0; have hcz22_1 := zc BK240.out 1; have hcz22_2 := zc BK240.out 2; have hcz22_3 := zc BK240.out 3; have hcz22_4 := zc BK240.out 4; have hfz22_0 := blk_frozen BK240.out 0; have hfz22_1 := blk_frozen BK240.out 1; have hfz22_2 := blk_frozen BK240.out 2; have hfz22_3 := blk_frozen BK240.out 3; have hfz22_4 := blk_frozen BK240.out 4; have hnb23 := NB237_234.out; have hnc23 := NB234_237.out; have hcz24_0 := zc BK237.out 0; have hcz24_1 := zc BK237.out 1; have hcz24_2 := zc BK237.out 2; have hcz24_3 := zc BK237.out 3; have hfz24_0 := blk_frozen BK237.out 0; have hfz24_1 := blk_frozen BK237.out 1; have hfz24_2 := blk_frozen BK237.out 2; have hfz24_3 := blk_frozen BK237.out 3))
    (try simp only [Act.put, List.setIfInBounds_toArray, List.set_cons_zero, List.set_cons_succ])
    go_cut [] (fun wc => ∃ (kq : Nat) (x241000_12 : Int) (x241001_12 : Int) (x241002_12 : Int) (x241003_12 : Int) (x241004_12 : Int), Aside0 (bytes_pointer.j1 kq l0 (l0.length : Int) x19_1 true 0 ((rd_T74 l0 0).f2) ((rd_T74 l0 0).f3) ((rd_T74 l0 x19_1).f0) ((rd_T74 l0 x19_1).f1) ((rd_T74 l0 x19_1).f2) ((rd_T74 l0 x19_1).f3) ((rd_T74 l0 x19_1).f4) x241000_12 x241001_12 x241002_12 x241003_12 x241004_12 = some (r1, r2, r3, r4, r5)) ∧ Aside0 (kq ≤ k1) ∧ Aside0 (wc.heap[gb234]? = some (.cells #[.bool x235000_1, .int .i64 x235001_1, .int .i64 x235002_1, .int .i64 x235003_1] 62 (0, 0))) ∧ Aside0 (wc.heap[gb237]? = some (.cells #[.bool true, .int .i64 0, .int .i64 ((rd_T74 l0 0).f2), .int .i64 ((rd_T74 l0 0).f3)] 62 (0, 0))) ∧ Aside0 (wc.heap[gb239]? = some (.cells #[.int .i64 ((rd_T74 l0 x19_1).f0), .int .i64 ((rd_T74 l0 x19_1).f1), .int .i64 ((rd_T74 l0 x19_1).f2), .int .i64 ((rd_T74 l0 x19_1).f3), .int .i64 ((rd_T74 l0 x19_1).f4)] 74 (0, 0))) ∧ Aside0 (wc.heap[gb240]? = some (.cells #[.int .i64 x241000_12, .int .i64 x241001_12, .int .i64 x241002_12, .int .i64 x241003_12, .int .i64 x241004_12] 74 (0, 0))) ∧ Aside0 (Below w.heap.size w wc))
    case first =>
     have H := HC13.out
     clear HC13
     by_cases c25 : ((rd_T74 l0 0).f2) > 0
     rotate_left
     ·rw [if_neg c25] at H
      have c25b0 : decide (0 < ((rd_T74 l0 0).f2)) = false := decide_eq_false c25
      clear c25
      (first | rw [c25b0] | (simp only [i64_w, i32_w]; rw [c25b0]) | skip)
      have H' := Aside0.mk H
      clear H
      go_wp2
      go_meet
      case rel => exact ⟨_, (1), (0), (0), (0), (0), H', ⟨by have := HK1.out; first | omega | exact Nat.le_refl _⟩, ⟨zf1 BK234.out NB234_240.out⟩, ⟨zf1 BK237.out NB237_240.out⟩, ⟨zf1 BK239.out NB239_240.out⟩, ⟨by (with_reducible repeat (first | refine blk_drewN ?_ _ | refine blk_drew ?_ | refine blk_alloc ?_ _)); refine blk_put (cs := #[.int .i64 1, .int .i64 0, .int .i64 0, .int .i64 0, .int .i64 0]) ?_ 4 _ rfl; (with_reducible repeat (first | refine blk_drewN ?_ _ | refine blk_drew ?_ | refine blk_alloc ?_ _)); refine blk_put (cs := #[.int .i64 1, .int .i64 0, .int .i64 0, .int .i64 0, .int .i64 0]) ?_ 3 _ rfl; (with_reducible repeat (first | refine blk_drewN ?_ _ | refine blk_drew ?_ | refine blk_alloc ?_ _)); refine blk_put (cs := #[.int .i64 1, .int .i64 0, .int .i64 0, .int .i64 0, .int .i64 0]) ?_ 2 _ rfl; (with_reducible repeat (first | refine blk_drewN ?_ _ | refine blk_drew ?_ | refine blk_alloc ?_ _)); refine blk_put (cs := #[.int .i64 1, .int .i64 0, .int .i64 0, .int .i64 0, .int .i64 0]) ?_ 1 _ rfl; (with_reducible repeat (first | refine blk_drewN ?_ _ | refine blk_drew ?_ | refine blk_alloc ?_ _)); refine blk_put (cs := #[.int .i64 0, .int .i64 0, .int .i64 0, .int .i64 0, .int .i64 0]) ?_ 0 _ rfl; (with_reducible repeat (first | refine blk_drewN ?_ _ | refine blk_drew ?_ | refine blk_alloc ?_ _)); exact BK240.out⟩, ⟨zw4 HB.out GE234.out GE237.out GE239.out GE240.out⟩⟩
     rw [if_pos c25] at H
     have c25b0 : decide (0 < ((rd_T74 l0 0).f2)) = true := decide_eq_true c25
     clear c25
     (first | rw [c25b0] | (simp only [i64_w, i32_w]; rw [c25b0]) | skip)
     have H' := Aside0.mk H
     clear H
     have hnb26 := NB237_234.out
     have hnc26 := NB234_237.out
     have hnb27 := NB237_239.out
     have hnc27 := NB239_237.out
     have hnb28 := NB237_240.out
     have hnc28 := NB240_237.out
     have hcz29_0 := zc BK237.out 0
     have hcz29_1 := zc BK237.out 1
     have hcz29_2 := zc BK237.out 2
     have hcz29_3 := zc BK237.out 3
     have hfz29_0 := blk_frozen BK237.out 0
     have hfz29_1 := blk_frozen BK237.out 1
     have hfz29_2 := blk_frozen BK237.out 2
     have hfz29_3 := blk_frozen BK237.out 3
     have hnb30 := NB240_234.out
     have hnc30 := NB234_240.out
     have hnb31 := NB240_239.out
     have hnc31 := NB239_240.out
     have hcz32_0 := zc BK240.out 0
     have hcz32_1 := zc BK240.out 1
     have hcz32_2 := zc BK240.out 2
     have hcz32_3 := zc BK240.out 3
     have hcz32_4 := zc BK240.out 4
     have hfz32_0 := blk_frozen BK240.out 0
     have hfz32_1 := blk_frozen BK240.out 1
     have hfz32_2 := blk_frozen BK240.out 2
     have hfz32_3 := blk_frozen BK240.out 3
     have hfz32_4 := blk_frozen BK240.out 4
     go_wp2
     go_meet
     case rel => exact ⟨_, (2), (0), (((rd_T74 l0 0).f2)), (((rd_T74 l0 0).f3)), (x19_1), H', ⟨by have := HK1.out; first | omega | exact Nat.le_refl _⟩, ⟨zf1 BK234.out NB234_240.out⟩, ⟨zf1 BK237.out NB237_240.out⟩, ⟨zf1 BK239.out NB239_240.out⟩, ⟨by (with_reducible repeat (first | refine blk_drewN ?_ _ | refine blk_drew ?_ | refine blk_alloc ?_ _)); refine blk_put (cs := #[.int .i64 2, .int .i64 0, .int .i64 ((rd_T74 l0 0).f2), .int .i64 ((rd_T74 l0 0).f3), .int .i64 0]) ?_ 4 _ rfl; (with_reducible repeat (first | refine blk_drewN ?_ _ | refine blk_drew ?_ | refine blk_alloc ?_ _)); refine blk_put (cs := #[.int .i64 2, .int .i64 0, .int .i64 ((rd_T74 l0 0).f2), .int .i64 0, .int .i64 0]) ?_ 3 _ rfl; (with_reducible repeat (first | refine blk_drewN ?_ _ | refine blk_drew ?_ | refine blk_alloc ?_ _)); refine blk_put (cs := #[.int .i64 2, .int .i64 0, .int .i64 0, .int .i64 0, .int .i64 0]) ?_ 2 _ rfl; (with_reducible repeat (first | refine blk_drewN ?_ _ | refine blk_drew ?_ | refine blk_alloc ?_ _)); refine blk_put (cs := #[.int .i64 2, .int .i64 0, .int .i64 0, .int .i64 0, .int .i64 0]) ?_ 1 _ rfl; (with_reducible repeat (first | refine blk_drewN ?_ _ | refine blk_drew ?_ | refine blk_alloc ?_ _)); refine blk_put (cs := #[.int .i64 1, .int .i64 0, .int .i64 0, .int .i64 0, .int .i64 0]) ?_ 0 _ rfl; (with_reducible repeat (first | refine blk_drewN ?_ _ | refine blk_drew ?_ | refine blk_alloc ?_ _)); refine blk_put (cs := #[.int .i64 1, .int .i64 0, .int .i64 0, .int .i64 0, .int .i64 0]) ?_ 4 _ rfl; (with_reducible repeat (first | refine blk_drewN ?_ _ | refine blk_drew ?_ | refine blk_alloc ?_ _)); refine blk_put (cs := #[.int .i64 1, .int .i64 0, .int .i64 0, .int .i64 0, .int .i64 0]) ?_ 3 _ rfl; (with_reducible repeat (first | refine blk_drewN ?_ _ | refine blk_drew ?_ | refine blk_alloc ?_ _)); refine blk_put (cs := #[.int .i64 1, .int .i64 0, .int .i64 0, .int .i64 0, .int .i64 0]) ?_ 2 _ rfl; (with_reducible repeat (first | refine blk_drewN ?_ _ | refine blk_drew ?_ | refine blk_alloc ?_ _)); refine blk_put (cs := #[.int .i64 1, .int .i64 0, .int .i64 0, .int .i64 0, .int .i64 0]) ?_ 1 _ rfl; (with_reducible repeat (first | refine blk_drewN ?_ _ | refine blk_drew ?_ | refine blk_alloc ?_ _)); refine blk_put (cs := #[.int .i64 0, .int .i64 0, .int .i64 0, .int .i64 0, .int .i64 0]) ?_ 0 _ rfl; (with_reducible repeat (first | refine blk_drewN ?_ _ | refine blk_drew ?_ | refine blk_alloc ?_ _)); exact BK240.out⟩, ⟨zw4 HB.out GE234.out GE237.out GE239.out GE240.out⟩⟩
    case rest =>
     clear HC13
     try clear c1
     try clear c2
     try clear c2b0
     try clear c2b1
     try clear p2
     try clear q2
     try clear hx2
     try clear qi2
     try clear c3
     try clear c10
     try clear c10b0
     try clear c11
     try clear c11b0
     try clear c12
     try clear c12b0
     try clear c15
     try clear c16
     try clear c19
     try clear c20
     try clear c21
     try clear c23
     try clear p23
     try clear q23
     try clear hx23
     try clear qi23
     try clear c25
     try clear c25b0
     try clear c26
     try clear c27
     try clear c28
     try clear c30
     try clear c31
     try clear hcz17_0
     try clear hcz17_1
     try clear hcz17_2
     try clear hcz17_3
     try clear hcz17_4
     try clear hcz22_0
     try clear hcz22_1
     try clear hcz22_2
     try clear hcz22_3
     try clear hcz22_4
     try clear hcz24_0
     try clear hcz24_1
     try clear hcz24_2
     try clear hcz24_3
     try clear hcz29_0
     try clear hcz29_1
     try clear hcz29_2
     try clear hcz29_3
     try clear hcz32_0
     try clear hcz32_1
     try clear hcz32_2
     try clear hcz32_3
     try clear hcz32_4
     try clear hfz17_0
     try clear hfz17_1
     try clear hfz17_2
     try clear hfz17_3
     try clear hfz17_4
     try clear hfz22_0
     try clear hfz22_1
     try clear hfz22_2
     try clear hfz22_3
     try clear hfz22_4
     try clear hfz24_0
     try clear hfz24_1
     try clear hfz24_2
     try clear hfz24_3
     try clear hfz29_0
     try clear hfz29_1
     try clear hfz29_2
     try clear hfz29_3
     try clear hfz32_0
     try clear hfz32_1
     try clear hfz32_2
     try clear hfz32_3
     try clear hfz32_4
     try clear hx235_0
     try clear hx235_1
     try clear hx235_2
     try clear hx235_3
     try clear hx235_4
     try clear hx236_0
     try clear hx236_1
     try clear hx236_2
     try clear hx236_3
     try clear hx236_4
     try clear hx238_0
     try clear hx238_1
     try clear hx238_2
     try clear hx238_3
     try clear hx238_4
     try clear p2
     try clear p235
     try clear p236
     try clear p238
     try clear q2
     try clear q235
     try clear q236
     try clear q238
     obtain ⟨kq, x241000_12, x241001_12, x241002_12, x241003_12, x241004_12, HA, HJ12, BK234, BK237, BK239, BK240, HB⟩ := hcut
     cases kq with
     | zero => exact absurd HA.out (by simp [bytes_pointer.j1])
     | succ kj12 =>
      have H := HA.out
      clear HA
      simp only [bytes_pointer.j1] at H
      by_cases c33 : (!(((rd_T74 l0 x19_1).f0) == x241000_12) || (!(((rd_T74 l0 x19_1).f1) == x241001_12) || (!(((rd_T74 l0 x19_1).f2) == x241002_12) || (!(((rd_T74 l0 x19_1).f3) == x241003_12) || (!(((rd_T74 l0 x19_1).f4) == x241004_12)))))) = true
      rotate_left
      ·rw [if_neg c33] at H
       have c33b0 : (!(((rd_T74 l0 x19_1).f0) == x241000_12) || (!(((rd_T74 l0 x19_1).f1) == x241001_12) || (!(((rd_T74 l0 x19_1).f2) == x241002_12) || (!(((rd_T74 l0 x19_1).f3) == x241003_12) || (!(((rd_T74 l0 x19_1).f4) == x241004_12)))))) = false := by simpa using c33
       clear c33
       have H' := Aside0.mk H
       clear H
       have hnb43 := NB239_234.out
       have hnc43 := NB234_239.out
       have hnb44 := NB239_237.out
       have hnc44 := NB237_239.out
       have hnb45 := NB239_240.out
       have hnc45 := NB240_239.out
       have hcz46_0 := zc BK239.out 0
       have hcz46_1 := zc BK239.out 1
       have hcz46_2 := zc BK239.out 2
       have hcz46_3 := zc BK239.out 3
       have hcz46_4 := zc BK239.out 4
       have hfz46_0 := blk_frozen BK239.out 0
       have hfz46_1 := blk_frozen BK239.out 1
       have hfz46_2 := blk_frozen BK239.out 2
       have hfz46_3 := blk_frozen BK239.out 3
       have hfz46_4 := blk_frozen BK239.out 4
       have hnb47 := NB240_234.out
       have hnc47 := NB234_240.out
       have hnb48 := NB240_237.out
       have hnc48 := NB237_240.out
       have hcz49_0 := zc BK240.out 0
       have hcz49_1 := zc BK240.out 1
       have hcz49_2 := zc BK240.out 2
       have hcz49_3 := zc BK240.out 3
       have hcz49_4 := zc BK240.out 4
       have hfz49_0 := blk_frozen BK240.out 0
       have hfz49_1 := blk_frozen BK240.out 1
       have hfz49_2 := blk_frozen BK240.out 2
       have hfz49_3 := blk_frozen BK240.out 3
       have hfz49_4 := blk_frozen BK240.out 4
       go_wp2
       go_roundg kj12
       case measure => have := HK1.out; have := HJ12.out; omega
       case rel => exact ⟨(wrap64 (x19_1 + 1)), (x235000_1), (x235001_1), (x235002_1), (x235003_1), (zr), H', ⟨by have := HK1.out; have := HJ12.out; omega⟩, ⟨zb BK234.out⟩, ⟨zb BK237.out⟩, ⟨zw4 HB.out GE234.out GE237.out GE239.out GE240.out⟩⟩
      rw [if_pos c33] at H
      have c33b0 : (!(((rd_T74 l0 x19_1).f0) == x241000_12) || (!(((rd_T74 l0 x19_1).f1) == x241001_12) || (!(((rd_T74 l0 x19_1).f2) == x241002_12) || (!(((rd_T74 l0 x19_1).f3) == x241003_12) || (!(((rd_T74 l0 x19_1).f4) == x241004_12)))))) = true := c33
      clear c33
      simp only [Option.some.injEq, Prod.mk.injEq] at H
      obtain ⟨rfl, rfl, rfl, rfl, rfl⟩ := H
      have hnb34 := NB239_234.out
      have hnc34 := NB234_239.out
      have hnb35 := NB239_237.out
      have hnc35 := NB237_239.out
      have hnb36 := NB239_240.out
      have hnc36 := NB240_239.out
      have hcz37_0 := zc BK239.out 0
      have hcz37_1 := zc BK239.out 1
      have hcz37_2 := zc BK239.out 2
      have hcz37_3 := zc BK239.out 3
      have hcz37_4 := zc BK239.out 4
      have hfz37_0 := blk_frozen BK239.out 0
      have hfz37_1 := blk_frozen BK239.out 1
      have hfz37_2 := blk_frozen BK239.out 2
      have hfz37_3 := blk_frozen BK239.out 3
      have hfz37_4 := blk_frozen BK239.out 4
      have hnb38 := NB240_234.out
      have hnc38 := NB234_240.out
      have hnb39 := NB240_237.out
      have hnc39 := NB237_240.out
      have hcz40_0 := zc BK240.out 0
      have hcz40_1 := zc BK240.out 1
      have hcz40_2 := zc BK240.out 2
      have hcz40_3 := zc BK240.out 3
      have hcz40_4 := zc BK240.out 4
      have hfz40_0 := blk_frozen BK240.out 0
      have hfz40_1 := blk_frozen BK240.out 1
      have hfz40_2 := blk_frozen BK240.out 2
      have hfz40_3 := blk_frozen BK240.out 3
      have hfz40_4 := blk_frozen BK240.out 4
      have hnb41 := NB234_237.out
      have hnc41 := NB237_234.out
      have hcz42_0 := zc BK234.out 0
      have hcz42_1 := zc BK234.out 1
      have hcz42_2 := zc BK234.out 2
      have hcz42_3 := zc BK234.out 3
      have hfz42_0 := blk_frozen BK234.out 0
      have hfz42_1 := blk_frozen BK234.out 1
      have hfz42_2 := blk_frozen BK234.out 2
      have hfz42_3 := blk_frozen BK234.out 3
      go_wp2
      refine bodyPost_ret (results_ct rfl _ _ gb234 62 #[.bool false, .int .i64 0, .int .i64 0, .int .i64 0] (0, 0) _ rfl (by (with_reducible repeat (first | refine blk_drewN ?_ _ | refine blk_drew ?_ | refine blk_alloc ?_ _)); refine blk_put (cs := #[.bool false, .int .i64 0, .int .i64 0, .int .i64 x235003_1]) ?_ 3 _ rfl; (with_reducible repeat (first | refine blk_drewN ?_ _ | refine blk_drew ?_ | refine blk_alloc ?_ _)); refine blk_put (cs := #[.bool false, .int .i64 0, .int .i64 x235002_1, .int .i64 x235003_1]) ?_ 2 _ rfl; (with_reducible repeat (first | refine blk_drewN ?_ _ | refine blk_drew ?_ | refine blk_alloc ?_ _)); refine blk_put (cs := #[.bool false, .int .i64 x235001_1, .int .i64 x235002_1, .int .i64 x235003_1]) ?_ 1 _ rfl; (with_reducible repeat (first | refine blk_drewN ?_ _ | refine blk_drew ?_ | refine blk_alloc ?_ _)); refine blk_put (cs := #[.bool x235000_1, .int .i64 x235001_1, .int .i64 x235002_1, .int .i64 x235003_1]) ?_ 0 _ rfl; (with_reducible repeat (first | refine blk_drewN ?_ _ | refine blk_drew ?_ | refine blk_alloc ?_ _)); exact BK234.out) Try.underlying62 rfl (by kernel_rfl)) rfl ?_
      exact ⟨ze, zw4 HB.out GE234.out GE237.out GE239.out GE240.out⟩
 ·rw [if_neg c2] at H
  exact absurd H (by simp)

end Go.Proofs.Ytjoplkillkhiaaa.D
