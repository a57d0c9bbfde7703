-- Written by this session's own edition of the print.
import Derived.Test.YtjoplkillkhiaaaMx0
import Derived.Test.YtjoplkillkhiaaaMx2
import Derived.Test.YtjoplkillkhiaaaSq
import Derived.Test.YtjoplkillkhiaaaSq2
namespace Go.Proofs.Ytjoplkillkhiaaa.M
open Go.RowKit Go.Proofs.Ytjoplkillkhiaaa.Fn Go.Proofs.YtjoplkillkhiaaaW.PrintWords Go.Proofs.YtjoplkillkhiaaaW.PrintLast Go.Proofs.YtjoplkillkhiaaaW.PrintMore
attribute [local go_sem] max2_int min2_int max_two min_two max_three min_three max_four min_four   -- for this text's walks alone
set_option linter.unusedVariables false
set_option linter.unusedSimpArgs false

attribute [local go_sem high] eqA74
/-! bytes_pointer -/
mutual
def bytes_pointer.l0 : Nat → List (S74) → Int → Int → Bool → Int → Int → Int → Option (Bool × Int × Int × Int × Int)
 | 0, _, _, _, _, _, _, _ => none
 | k + 1, x17, x18, x19, x228000, x228001, x228002, x228003 => if x19 < x18 then (if 0 ≤ x19 then (if x19 < (x17.length : Int) then (if x228002 > 0 then (bytes_pointer.j1 k x17 x18 x19 x228000 x228001 x228002 x228003 ((rd_T74 x17 x19).f0) ((rd_T74 x17 x19).f1) ((rd_T74 x17 x19).f2) ((rd_T74 x17 x19).f3) ((rd_T74 x17 x19).f4) 2 0 x228002 x228003 x19) else (bytes_pointer.j1 k x17 x18 x19 x228000 x228001 x228002 x228003 ((rd_T74 x17 x19).f0) ((rd_T74 x17 x19).f1) ((rd_T74 x17 x19).f2) ((rd_T74 x17 x19).f3) ((rd_T74 x17 x19).f4) 1 0 0 0 0)) else (none)) else (none)) else (some (x228000, x228001, x228002, x228003, 0))
def bytes_pointer.j1 : Nat → List (S74) → Int → Int → Bool → Int → Int → Int → Int → Int → Int → Int → Int → Int → Int → Int → Int → Int → Option (Bool × Int × Int × Int × Int)
 | 0, _, _, _, _, _, _, _, _, _, _, _, _, _, _, _, _, _ => none
 | k + 1, x17, x18, x19, x228000, x228001, x228002, x228003, x230000, x230001, x230002, x230003, x230004, x231000, x231001, x231002, x231003, x231004 => if (!(x230000 == x231000) || (!(x230001 == x231001) || (!(x230002 == x231002) || (!(x230003 == x231003) || (!(x230004 == x231004)))))) = true then (some (false, 0, 0, 0, 8)) else (bytes_pointer.l0 k x17 x18 (wrap64 (x19 + 1)) x228000 x228001 x228002 x228003)
end
def bytes_pointer.f (k : Nat) (l0 : List (S74)) : Option (Bool × Int × Int × Int × Int) := if 0 < (l0.length : Int) then (bytes_pointer.l0 k l0 (l0.length : Int) 0 true 0 ((rd_T74 l0 0).f2) ((rd_T74 l0 0).f3)) else (none)
theorem bytes_pointer.mono_l : ∀ k, (∀ y0 y1 y2 y3 y4 y5 y6, LeO (bytes_pointer.l0 k y0 y1 y2 y3 y4 y5 y6) (bytes_pointer.l0 (k + 1) y0 y1 y2 y3 y4 y5 y6)) ∧ (∀ y0 y1 y2 y3 y4 y5 y6 y7 y8 y9 y10 y11 y12 y13 y14 y15 y16, LeO (bytes_pointer.j1 k y0 y1 y2 y3 y4 y5 y6 y7 y8 y9 y10 y11 y12 y13 y14 y15 y16) (bytes_pointer.j1 (k + 1) y0 y1 y2 y3 y4 y5 y6 y7 y8 y9 y10 y11 y12 y13 y14 y15 y16))
 | 0 => ⟨fun _ _ _ _ _ _ _ r h => by simp [bytes_pointer.l0] at h, fun _ _ _ _ _ _ _ _ _ _ _ _ _ _ _ _ _ r h => by simp [bytes_pointer.j1] at h⟩
 | k + 1 => by
  obtain ⟨ih0, ih1⟩ := bytes_pointer.mono_l k
  refine ⟨?_, ?_⟩
  ·intro y0 y1 y2 y3 y4 y5 y6
   unfold bytes_pointer.l0
   repeat' first
   | (with_reducible apply ih0)
   | (with_reducible apply ih1)
   | (with_reducible apply LeO.refl)
   | (with_reducible apply LeO.none)
   | (with_reducible refine LeO.ite ?_ ?_)
   | (with_reducible refine LeO.bind ?_ (fun _ => ?_))
  ·intro y0 y1 y2 y3 y4 y5 y6 y7 y8 y9 y10 y11 y12 y13 y14 y15 y16
   unfold bytes_pointer.j1
   repeat' first
   | (with_reducible apply ih0)
   | (with_reducible apply ih1)
   | (with_reducible apply LeO.refl)
   | (with_reducible apply LeO.none)
   | (with_reducible refine LeO.ite ?_ ?_)
   | (with_reducible refine LeO.bind ?_ (fun _ => ?_))
theorem bytes_pointer.mono : ∀ a0 k, LeO (bytes_pointer.f k a0) (bytes_pointer.f (k + 1) a0) := by
 intro a0 k
 obtain ⟨ih0, ih1⟩ := bytes_pointer.mono_l k
 unfold bytes_pointer.f
 repeat' first
   | (with_reducible apply ih0)
   | (with_reducible apply ih1)
   | (with_reducible apply LeO.refl)
   | (with_reducible apply LeO.none)
   | (with_reducible refine LeO.ite ?_ ?_)
   | (with_reducible refine LeO.bind ?_ (fun _ => ?_))
def bytes_pointer.T1 : Bool × List (List Nat × List Nat) := (true, [([], []), ([0], [0]), ([1], [1]), ([2], [2]), ([], []), ([4], [4]), ([5], [5]), ([6], [6]), ([3, 7], [3, 7]), ([], []), ([9, 8, 0, 1, 2, 3, 4, 5, 6, 7, 8, 9], [8, 9])])
def bytes_pointer.B1 : List Nat := [0, 1, 3, 7, 0, 16, 48, 112, 255, 0, 1023]
theorem bytes_pointer.tab1 : rtab .any (opsOf Try.f120 1) = bytes_pointer.T1 := by kernel_rfl
theorem bytes_pointer.bits1 : waitsOk bytes_pointer.T1.2 bytes_pointer.B1 = true := by kernel_rfl
set_option maxHeartbeats 8000000 in
set_option maxRecDepth 100000 in
theorem bytes_pointer.calls (k : Nat) (A0 : Option Addr) (c0 : Nat) (l0 : List (S74)) (r1 : Bool) (r2 : Int) (r3 : Int) (r4 : Int) (r5 : Int) (w : World) (hr0 : Kd.C k74 w A0 l0.length l0) (hc0 : l0.length ≤ c0) (h : bytes_pointer.f k l0 = some (r1, r2, r3, r4, r5)) :
  Calls Try.prog 120 #[.slice A0 l0.length c0] w fun e w' => e = .returned (.tuple #[.agg #[.bool r1, .int .i64 r2, .int .i64 r3, .int .i64 r4], .int .i64 r5]) ∧ Below w.heap.size w w' := by
 have hu62 := Try.underlying62
 have hu74 := Try.underlying74
 have HR0 := Aside0.mk hr0
 have HC0 := Aside0.mk hc0
 clear hr0 hc0
 have HB := Aside0.mk (Below.refl w.heap.size w)
 have H : (if 0 < (l0.length : Int) then (bytes_pointer.l0 k l0 (l0.length : Int) 0 true 0 ((rd_T74 l0 0).f2) ((rd_T74 l0 0).f3)) else (none)) = some (r1, r2, r3, r4, r5) := h
 clear h
 by_cases c2 : 0 < (l0.length : Int)
 ·rw [if_pos c2] at H
  have c2b0 : decide (0 < (l0.length : Int)) = true := decide_eq_true c2
  have c2b1 : decide (0 < l0.length) = true := decide_eq_true (by omega)
  clear c2
  have H' := Aside0.mk H
  clear H
  go_enter Try.func120, Try.ntmps120
  try go_wp2_with (first | ((with_reducible refine gate_dst (N := 2) rfl ?_); refine zbox (N := 2) (cs := #[.bool false, .int .i64 0, .int .i64 0, .int .i64 0]) (t := 62) ?_; intro gb224 hg w3 hbox hb; have n0_ := Aside0.mk (below_step (zw0 HB.out) hb); have BK224 := Aside0.mk (hbox); have GW224 := Aside0.mk (zg hg (below_size (zw0 HB.out))); have GE224 := GW224; clear HB; have HB := n0_; clear n0_; clear hb hbox hg))
  have n0_ := Aside0.mk (blk_drew BK224.out)
  have n1_ := Aside0.mk (below_drew1 HB.out)
  clear BK224
  clear HB
  have BK224 := n0_
  have HB := n1_
  clear n0_ n1_
  have p225 : 0 ≤ (0 : Int) := (by omega)
  have q225 : 0 < (l0.length : Int) := zdec
  obtain ⟨ad225, e225, hx225_0, hx225_1, hx225_2, hx225_3, hx225_4⟩ := at_T74 HR0.out 0 p225 q225
  have hw225_4 := hx225_4
  (try rw [show ((0 : Int)).toNat = 0 from rfl] at hw225_4)
  (try rw [show 0 * 5 = 0 from rfl] at hw225_4)
  (try rw [Addr.add_zero'] at hw225_4)
  have hw225_3 := hx225_3
  (try rw [show ((0 : Int)).toNat = 0 from rfl] at hw225_3)
  (try rw [show 0 * 5 = 0 from rfl] at hw225_3)
  (try rw [Addr.add_zero'] at hw225_3)
  have hw225_2 := hx225_2
  (try rw [show ((0 : Int)).toNat = 0 from rfl] at hw225_2)
  (try rw [show 0 * 5 = 0 from rfl] at hw225_2)
  (try rw [Addr.add_zero'] at hw225_2)
  have hw225_1 := hx225_1
  (try rw [show ((0 : Int)).toNat = 0 from rfl] at hw225_1)
  (try rw [show 0 * 5 = 0 from rfl] at hw225_1)
  (try rw [Addr.add_zero'] at hw225_1)
  have hw225_0 := hx225_0
  (try rw [show ((0 : Int)).toNat = 0 from rfl] at hw225_0)
  (try rw [show 0 * 5 = 0 from rfl] at hw225_0)
  (try rw [Addr.add_zero'] at hw225_0)
  cases e225
  have qi225 : (0 < l0.length) = True := eq_true (by omega)
  (try rw [show ((0 : Int)).toNat = 0 from rfl] at hx225_0)
  (try rw [show 0 * 5 = 0 from rfl] at hx225_0)
  (try rw [Addr.add_zero'] at hx225_0)
  (try rw [show ((0 : Int)).toNat = 0 from rfl] at hx225_1)
  (try rw [show 0 * 5 = 0 from rfl] at hx225_1)
  (try rw [Addr.add_zero'] at hx225_1)
  (try rw [show ((0 : Int)).toNat = 0 from rfl] at hx225_2)
  (try rw [show 0 * 5 = 0 from rfl] at hx225_2)
  (try rw [Addr.add_zero'] at hx225_2)
  (try rw [show ((0 : Int)).toNat = 0 from rfl] at hx225_3)
  (try rw [show 0 * 5 = 0 from rfl] at hx225_3)
  (try rw [Addr.add_zero'] at hx225_3)
  (try rw [show ((0 : Int)).toNat = 0 from rfl] at hx225_4)
  (try rw [show 0 * 5 = 0 from rfl] at hx225_4)
  (try rw [Addr.add_zero'] at hx225_4)
  replace hx225_0 := zh HB.out hx225_0
  replace hx225_1 := zh HB.out hx225_1
  replace hx225_2 := zh HB.out hx225_2
  replace hx225_3 := zh HB.out hx225_3
  replace hx225_4 := zh HB.out hx225_4
  replace p225 := eq_true p225
  replace q225 := eq_true q225
  have p226 : 0 ≤ (0 : Int) := (by omega)
  have q226 : 0 < (l0.length : Int) := zdec
  obtain ⟨ad226, e226, hx226_0, hx226_1, hx226_2, hx226_3, hx226_4⟩ := at_T74 HR0.out 0 p226 q226
  have hw226_4 := hx226_4
  (try rw [show ((0 : Int)).toNat = 0 from rfl] at hw226_4)
  (try rw [show 0 * 5 = 0 from rfl] at hw226_4)
  (try rw [Addr.add_zero'] at hw226_4)
  have hw226_3 := hx226_3
  (try rw [show ((0 : Int)).toNat = 0 from rfl] at hw226_3)
  (try rw [show 0 * 5 = 0 from rfl] at hw226_3)
  (try rw [Addr.add_zero'] at hw226_3)
  have hw226_2 := hx226_2
  (try rw [show ((0 : Int)).toNat = 0 from rfl] at hw226_2)
  (try rw [show 0 * 5 = 0 from rfl] at hw226_2)
  (try rw [Addr.add_zero'] at hw226_2)
  have hw226_1 := hx226_1
  (try rw [show ((0 : Int)).toNat = 0 from rfl] at hw226_1)
  (try rw [show 0 * 5 = 0 from rfl] at hw226_1)
  (try rw [Addr.add_zero'] at hw226_1)
  have hw226_0 := hx226_0
  (try rw [show ((0 : Int)).toNat = 0 from rfl] at hw226_0)
  (try rw [show 0 * 5 = 0 from rfl] at hw226_0)
  (try rw [Addr.add_zero'] at hw226_0)
  obtain rfl : ad225 = ad226 := (by injection e226)
  have qi226 : (0 < l0.length) = True := eq_true (by omega)
  (try rw [show ((0 : Int)).toNat = 0 from rfl] at hx226_0)
  (try rw [show 0 * 5 = 0 from rfl] at hx226_0)
  (try rw [Addr.add_zero'] at hx226_0)
  (try rw [show ((0 : Int)).toNat = 0 from rfl] at hx226_1)
  (try rw [show 0 * 5 = 0 from rfl] at hx226_1)
  (try rw [Addr.add_zero'] at hx226_1)
  (try rw [show ((0 : Int)).toNat = 0 from rfl] at hx226_2)
  (try rw [show 0 * 5 = 0 from rfl] at hx226_2)
  (try rw [Addr.add_zero'] at hx226_2)
  (try rw [show ((0 : Int)).toNat = 0 from rfl] at hx226_3)
  (try rw [show 0 * 5 = 0 from rfl] at hx226_3)
  (try rw [Addr.add_zero'] at hx226_3)
  (try rw [show ((0 : Int)).toNat = 0 from rfl] at hx226_4)
  (try rw [show 0 * 5 = 0 from rfl] at hx226_4)
  (try rw [Addr.add_zero'] at hx226_4)
  replace hx226_0 := zh HB.out hx226_0
  replace hx226_1 := zh HB.out hx226_1
  replace hx226_2 := zh HB.out hx226_2
  replace hx226_3 := zh HB.out hx226_3
  replace hx226_4 := zh HB.out hx226_4
  replace p226 := eq_true p226
  replace q226 := eq_true q226
  refine start_ (n := 11) (S := fun w' => w'.cell? ad225 = some (.int .i64 ((rd_T74 l0 0).f0)) ∧ w'.cell? ⟨ad225.block, ad225.off + 1, none⟩ = some (.int .i64 ((rd_T74 l0 0).f1)) ∧ w'.cell? ⟨ad225.block, ad225.off + 2, none⟩ = some (.int .i64 ((rd_T74 l0 0).f2)) ∧ w'.cell? ⟨ad225.block, ad225.off + 3, none⟩ = some (.int .i64 ((rd_T74 l0 0).f3)) ∧ w'.cell? ⟨ad225.block, ad225.off + 4, none⟩ = some (.int .i64 ((rd_T74 l0 0).f4)) ∧ w'.cell? ad225 = some (.int .i64 ((rd_T74 l0 0).f0)) ∧ w'.cell? ⟨ad225.block, ad225.off + 1, none⟩ = some (.int .i64 ((rd_T74 l0 0).f1)) ∧ w'.cell? ⟨ad225.block, ad225.off + 2, none⟩ = some (.int .i64 ((rd_T74 l0 0).f2)) ∧ w'.cell? ⟨ad225.block, ad225.off + 3, none⟩ = some (.int .i64 ((rd_T74 l0 0).f3)) ∧ w'.cell? ⟨ad225.block, ad225.off + 4, none⟩ = some (.int .i64 ((rd_T74 l0 0).f4))) (ds := []) #[false,false,false,false,false,false,false,false,false,false,false] (by kernel_rfl) rfl rfl ⟨((HB.out.cell (World.block_lt_of_cell? w _ hw225_0)).trans hw225_0), ((HB.out.cell (World.block_lt_of_cell? w _ hw225_1)).trans hw225_1), ((HB.out.cell (World.block_lt_of_cell? w _ hw225_2)).trans hw225_2), ((HB.out.cell (World.block_lt_of_cell? w _ hw225_3)).trans hw225_3), ((HB.out.cell (World.block_lt_of_cell? w _ hw225_4)).trans hw225_4), ((HB.out.cell (World.block_lt_of_cell? w _ hw226_0)).trans hw226_0), ((HB.out.cell (World.block_lt_of_cell? w _ hw226_1)).trans hw226_1), ((HB.out.cell (World.block_lt_of_cell? w _ hw226_2)).trans hw226_2), ((HB.out.cell (World.block_lt_of_cell? w _ hw226_3)).trans hw226_3), ((HB.out.cell (World.block_lt_of_cell? w _ hw226_4)).trans hw226_4)⟩ (fun hHeld => ?_); refine with_tabW bytes_pointer.tab1 bytes_pointer.bits1 (fun HT_ HW_ => ?_)
  generalize w3.drew = w4 at BK224 HB hx225_0 hx225_1 hx225_2 hx225_3 hx225_4 hx226_0 hx226_1 hx226_2 hx226_3 hx226_4 hHeld ⊢
  refine zp (i := 0) (N := some 8) #[true,false,false,false,false,false,false,false,false,false,false] (any_of HT_.out (by kernel_rfl)) ?_
  refine zp (i := 1) (N := some 9) #[true,true,false,false,false,false,false,false,false,false,false] (any_of HT_.out (by kernel_rfl)) ?_
  refine zp (i := 2) (N := some 10) #[true,true,true,false,false,false,false,false,false,false,false] (any_of HT_.out (by kernel_rfl)) ?_
  refine zp (i := 4) (N := some 12) #[true,true,true,false,true,false,false,false,false,false,false] (any_of HT_.out (by kernel_rfl)) ?_
  refine zp (i := 5) (N := some 13) #[true,true,true,false,true,true,false,false,false,false,false] (any_of HT_.out (by kernel_rfl)) ?_
  refine zp (i := 6) (N := some 14) #[true,true,true,false,true,true,true,false,false,false,false] (any_of HT_.out (by kernel_rfl)) ?_
  refine take_ (i := 3) (N := some 11) (v := ?_) (a' := ?_) #[true,true,true,true,true,true,true,false,false,false,false] rfl rfl (take_ofW HT_.out HW_.out (by kernel_rfl)) (fun _ _ _ h => h) (Or.inl ⟨by rfl, ?_⟩) hHeld ?_ ?_
  rotate_left
  ·rintro w' ⟨s0, s1, s2, s3, s4, s5, s6, s7, s8, s9⟩
   go_simp
   with_reducible rfl
  rotate_left
  ·simp only [Act.put, List.setIfInBounds_toArray, List.set_cons_zero, List.set_cons_succ, i64_w, i32_w]
   rfl
  refine take_ (i := 7) (N := some 15) (v := ?_) (a' := ?_) #[true,true,true,true,true,true,true,true,false,false,false] rfl rfl (take_ofW HT_.out HW_.out (by kernel_rfl)) (fun _ _ _ h => h) (Or.inl ⟨by rfl, ?_⟩) hHeld ?_ ?_
  rotate_left
  ·rintro w' ⟨s0, s1, s2, s3, s4, s5, s6, s7, s8, s9⟩
   go_simp
   with_reducible rfl
  rotate_left
  ·simp only [Act.put, List.setIfInBounds_toArray, List.set_cons_zero, List.set_cons_succ, i64_w, i32_w]
   rfl
  refine zp (i := 8) (N := some 16) #[true,true,true,true,true,true,true,true,true,false,false] (any_of HT_.out (by kernel_rfl)) ?_
  refine one_ (i := 9) (N := some 4) #[true,true,true,true,true,true,true,true,true,true,false] rfl rfl (one_of HT_.out (by kernel_rfl)) (by decide) (fun K hK => ?_)
  refine box_step ?hg (N := 4) ?hd (cs := #[.bool false, .int .i64 0, .int .i64 0, .int .i64 0]) (t := 62) ?hr ?_; (case hd => rfl); (case hg => rfl); (case hr => first | (go_simp; done) | (go_simp; rfl))
  intro gb227 hg w5 hbox hb
  have n0_ := Aside0.mk (zbb BK224.out hb)
  have n1_ := Aside0.mk (below_step (zw1 HB.out GE224.out) hb)
  have n2_ := Aside0.mk (hbox)
  have n3_ := Aside0.mk (zg hg (below_size (zw1 HB.out GE224.out)))
  have n4_ := Aside0.mk (zg hg (below_size (zw1 HB.out GE224.out)))
  have n5_ := Aside0.mk (zlt hg BK224.out)
  have n6_ := Aside0.mk (zgt hg BK224.out)
  clear BK224
  clear HB
  have BK224 := n0_
  have HB := n1_
  have BK227 := n2_
  have GW227 := n3_
  have GE227 := n4_
  have NB224_227 := n5_
  have NB227_224 := n6_
  clear n0_ n1_ n2_ n3_ n4_ n5_ n6_
  clear hb hbox hg
  refine hK.out _ _ ⟨((HB.out.cell (World.block_lt_of_cell? w _ hw225_0)).trans hw225_0), ((HB.out.cell (World.block_lt_of_cell? w _ hw225_1)).trans hw225_1), ((HB.out.cell (World.block_lt_of_cell? w _ hw225_2)).trans hw225_2), ((HB.out.cell (World.block_lt_of_cell? w _ hw225_3)).trans hw225_3), ((HB.out.cell (World.block_lt_of_cell? w _ hw225_4)).trans hw225_4), ((HB.out.cell (World.block_lt_of_cell? w _ hw226_0)).trans hw226_0), ((HB.out.cell (World.block_lt_of_cell? w _ hw226_1)).trans hw226_1), ((HB.out.cell (World.block_lt_of_cell? w _ hw226_2)).trans hw226_2), ((HB.out.cell (World.block_lt_of_cell? w _ hw226_3)).trans hw226_3), ((HB.out.cell (World.block_lt_of_cell? w _ hw226_4)).trans hw226_4)⟩ (fun hHeld => ?_)
  clear hK K
  refine norm_ (a' := ?_) ?_ ?_
  rotate_left
  ·show Act.put _ (some 4) _ = _
   simp only [Act.put, List.setIfInBounds_toArray, List.set_cons_zero, List.set_cons_succ, i64_w, i32_w]
   rfl
  refine one_ (i := 10) (N := none) #[true,true,true,true,true,true,true,true,true,true,true] rfl rfl (one_of HT_.out (by kernel_rfl)) (by decide) (fun K hK => ?_)
  have hs6 : w5.cell? ⟨gb227, 0, none⟩ = some (.bool false) := (blk_cell BK227.out 0).trans rfl
  have hfs6 := blk_frozen BK227.out 0
  have hns6_0 := NB224_227.out
  have hms6_0 := NB227_224.out
  have hs7 : w5.cell? ⟨gb227, 1, none⟩ = some (.int .i64 0) := (blk_cell BK227.out 1).trans rfl
  have hfs7 := blk_frozen BK227.out 1
  have hns7_0 := NB224_227.out
  have hms7_0 := NB227_224.out
  have hs8 : w5.cell? ⟨gb227, 2, none⟩ = some (.int .i64 0) := (blk_cell BK227.out 2).trans rfl
  have hfs8 := blk_frozen BK227.out 2
  have hns8_0 := NB224_227.out
  have hms8_0 := NB227_224.out
  have hs9 : w5.cell? ⟨gb227, 3, none⟩ = some (.int .i64 0) := (blk_cell BK227.out 3).trans rfl
  have hfs9 := blk_frozen BK227.out 3
  have hns9_0 := NB224_227.out
  have hms9_0 := NB227_224.out
  refine skip_ (w1 := ?_) (by rfl) rfl ?_ ?_
  rotate_left
  ·go_simp
   rfl
  refine hK.out _ _ ⟨((cell_far (p := ⟨gb227, _, none⟩) (zx (zfar hw225_0 GW227.out)) _).trans (((cell_far (p := ⟨gb227, _, none⟩) (zx (zfar hw225_0 GW227.out)) _).trans (((cell_far (p := ⟨gb227, _, none⟩) (zx (zfar hw225_0 GW227.out)) _).trans (((cell_far (p := ⟨gb227, _, none⟩) (zx (zfar hw225_0 GW227.out)) _).trans (hHeld.1)))))))), ((cell_far (p := ⟨gb227, _, none⟩) (zx (zfar hw225_1 GW227.out)) _).trans (((cell_far (p := ⟨gb227, _, none⟩) (zx (zfar hw225_1 GW227.out)) _).trans (((cell_far (p := ⟨gb227, _, none⟩) (zx (zfar hw225_1 GW227.out)) _).trans (((cell_far (p := ⟨gb227, _, none⟩) (zx (zfar hw225_1 GW227.out)) _).trans (hHeld.2.1)))))))), ((cell_far (p := ⟨gb227, _, none⟩) (zx (zfar hw225_2 GW227.out)) _).trans (((cell_far (p := ⟨gb227, _, none⟩) (zx (zfar hw225_2 GW227.out)) _).trans (((cell_far (p := ⟨gb227, _, none⟩) (zx (zfar hw225_2 GW227.out)) _).trans (((cell_far (p := ⟨gb227, _, none⟩) (zx (zfar hw225_2 GW227.out)) _).trans (hHeld.2.2.1)))))))), ((cell_far (p := ⟨gb227, _, none⟩) (zx (zfar hw225_3 GW227.out)) _).trans (((cell_far (p := ⟨gb227, _, none⟩) (zx (zfar hw225_3 GW227.out)) _).trans (((cell_far (p := ⟨gb227, _, none⟩) (zx (zfar hw225_3 GW227.out)) _).trans (((cell_far (p := ⟨gb227, _, none⟩) (zx (zfar hw225_3 GW227.out)) _).trans (hHeld.2.2.2.1)))))))), ((cell_far (p := ⟨gb227, _, none⟩) (zx (zfar hw225_4 GW227.out)) _).trans (((cell_far (p := ⟨gb227, _, none⟩) (zx (zfar hw225_4 GW227.out)) _).trans (((cell_far (p := ⟨gb227, _, none⟩) (zx (zfar hw225_4 GW227.out)) _).trans (((cell_far (p := ⟨gb227, _, none⟩) (zx (zfar hw225_4 GW227.out)) _).trans (hHeld.2.2.2.2.1)))))))), ((cell_far (p := ⟨gb227, _, none⟩) (zx (zfar hw226_0 GW227.out)) _).trans (((cell_far (p := ⟨gb227, _, none⟩) (zx (zfar hw226_0 GW227.out)) _).trans (((cell_far (p := ⟨gb227, _, none⟩) (zx (zfar hw226_0 GW227.out)) _).trans (((cell_far (p := ⟨gb227, _, none⟩) (zx (zfar hw226_0 GW227.out)) _).trans (hHeld.2.2.2.2.2.1)))))))), ((cell_far (p := ⟨gb227, _, none⟩) (zx (zfar hw226_1 GW227.out)) _).trans (((cell_far (p := ⟨gb227, _, none⟩) (zx (zfar hw226_1 GW227.out)) _).trans (((cell_far (p := ⟨gb227, _, none⟩) (zx (zfar hw226_1 GW227.out)) _).trans (((cell_far (p := ⟨gb227, _, none⟩) (zx (zfar hw226_1 GW227.out)) _).trans (hHeld.2.2.2.2.2.2.1)))))))), ((cell_far (p := ⟨gb227, _, none⟩) (zx (zfar hw226_2 GW227.out)) _).trans (((cell_far (p := ⟨gb227, _, none⟩) (zx (zfar hw226_2 GW227.out)) _).trans (((cell_far (p := ⟨gb227, _, none⟩) (zx (zfar hw226_2 GW227.out)) _).trans (((cell_far (p := ⟨gb227, _, none⟩) (zx (zfar hw226_2 GW227.out)) _).trans (hHeld.2.2.2.2.2.2.2.1)))))))), ((cell_far (p := ⟨gb227, _, none⟩) (zx (zfar hw226_3 GW227.out)) _).trans (((cell_far (p := ⟨gb227, _, none⟩) (zx (zfar hw226_3 GW227.out)) _).trans (((cell_far (p := ⟨gb227, _, none⟩) (zx (zfar hw226_3 GW227.out)) _).trans (((cell_far (p := ⟨gb227, _, none⟩) (zx (zfar hw226_3 GW227.out)) _).trans (hHeld.2.2.2.2.2.2.2.2.1)))))))), ((cell_far (p := ⟨gb227, _, none⟩) (zx (zfar hw226_4 GW227.out)) _).trans (((cell_far (p := ⟨gb227, _, none⟩) (zx (zfar hw226_4 GW227.out)) _).trans (((cell_far (p := ⟨gb227, _, none⟩) (zx (zfar hw226_4 GW227.out)) _).trans (((cell_far (p := ⟨gb227, _, none⟩) (zx (zfar hw226_4 GW227.out)) _).trans (hHeld.2.2.2.2.2.2.2.2.2))))))))⟩ (fun hHeld => ?_)
  clear hK K
  refine done_ (done_of HT_.out (by kernel_rfl)) ?_
  try go_wp2
  go_loopg [19] k (fun kq v19 w' => ∃ (x19_1 : Int) (x225000_1 : Bool) (x225001_1 : Int) (x225002_1 : Int) (x225003_1 : Int), v19 = .int .i64 x19_1 ∧ Aside0 (bytes_pointer.l0 kq l0 (l0.length : Int) x19_1 true 0 ((rd_T74 l0 0).f2) ((rd_T74 l0 0).f3) = some (r1, r2, r3, r4, r5)) ∧ Aside0 (kq ≤ k) ∧ Aside0 (w'.heap[gb224]? = some (.cells #[.bool x225000_1, .int .i64 x225001_1, .int .i64 x225002_1, .int .i64 x225003_1] 62 (0, 0))) ∧ Aside0 (w'.heap[gb227]? = some (.cells #[.bool true, .int .i64 0, .int .i64 ((rd_T74 l0 0).f2), .int .i64 ((rd_T74 l0 0).f3)] 62 (0, 0))) ∧ Aside0 (Below w.heap.size w w'))
  case atStart => exact ⟨(0), (false), (0), (0), (0), (zr), H', ⟨Nat.le_refl _⟩, ⟨zf1 BK224.out NB224_227.out⟩, ⟨by (with_reducible repeat (first | refine blk_drewN ?_ _ | refine blk_drew ?_ | refine blk_alloc ?_ _)); refine blk_put (cs := #[.bool true, .int .i64 0, .int .i64 ((rd_T74 l0 0).f2), .int .i64 0]) ?_ 3 _ rfl; (with_reducible repeat (first | refine blk_drewN ?_ _ | refine blk_drew ?_ | refine blk_alloc ?_ _)); refine blk_put (cs := #[.bool true, .int .i64 0, .int .i64 0, .int .i64 0]) ?_ 2 _ rfl; (with_reducible repeat (first | refine blk_drewN ?_ _ | refine blk_drew ?_ | refine blk_alloc ?_ _)); refine blk_put (cs := #[.bool true, .int .i64 0, .int .i64 0, .int .i64 0]) ?_ 1 _ rfl; (with_reducible repeat (first | refine blk_drewN ?_ _ | refine blk_drew ?_ | refine blk_alloc ?_ _)); refine blk_put (cs := #[.bool false, .int .i64 0, .int .i64 0, .int .i64 0]) ?_ 0 _ rfl; (with_reducible repeat (first | refine blk_drewN ?_ _ | refine blk_drew ?_ | refine blk_alloc ?_ _)); exact BK227.out⟩, ⟨zw2 HB.out GE224.out GE227.out⟩⟩
  case round =>
   clear H'
   try clear c1; try clear c2; try clear c2b0; try clear c2b1; try clear p2; try clear q2; try clear qi2; try clear p225; try clear p226; try clear q225; try clear q226
   obtain ⟨x19_1, x225000_1, x225001_1, x225002_1, x225003_1, rfl, HA, HK1, BK224, BK227, HB⟩ := hrel
   cases gk with
   | zero => exact absurd HA.out (by simp [bytes_pointer.l0])
   | succ k1 =>
    have H := HA.out
    clear HA
    simp only [bytes_pointer.l0] at H
    by_cases c10 : x19_1 < (l0.length : Int)
    rotate_left
    ·rw [if_neg c10] at H
     have c10b0 : decide (x19_1 < (l0.length : Int)) = false := decide_eq_false c10
     clear c10
     simp only [Option.some.injEq, Prod.mk.injEq] at H
     obtain ⟨rfl, rfl, rfl, rfl, rfl⟩ := H
     have hnb50 := NB227_224.out
     have hnc50 := NB224_227.out
     have hcz51_0 := zc BK227.out 0
     have hcz51_1 := zc BK227.out 1
     have hcz51_2 := zc BK227.out 2
     have hcz51_3 := zc BK227.out 3
     have hfz51_0 := blk_frozen BK227.out 0
     have hfz51_1 := blk_frozen BK227.out 1
     have hfz51_2 := blk_frozen BK227.out 2
     have hfz51_3 := blk_frozen BK227.out 3
     have hcz52_0 := zc BK224.out 0
     have hcz52_1 := zc BK224.out 1
     have hcz52_2 := zc BK224.out 2
     have hcz52_3 := zc BK224.out 3
     have hfz52_0 := blk_frozen BK224.out 0
     have hfz52_1 := blk_frozen BK224.out 1
     have hfz52_2 := blk_frozen BK224.out 2
     have hfz52_3 := blk_frozen BK224.out 3
     go_wp2
     refine bodyPost_ret (results_ct rfl _ _ gb224 62 #[.bool true, .int .i64 0, .int .i64 ((rd_T74 l0 0).f2), .int .i64 ((rd_T74 l0 0).f3)] (0, 0) _ rfl (by (with_reducible repeat (first | refine blk_drewN ?_ _ | refine blk_drew ?_ | refine blk_alloc ?_ _)); refine blk_put (cs := #[.bool true, .int .i64 0, .int .i64 ((rd_T74 l0 0).f2), .int .i64 x225003_1]) ?_ 3 _ rfl; (with_reducible repeat (first | refine blk_drewN ?_ _ | refine blk_drew ?_ | refine blk_alloc ?_ _)); refine blk_put (cs := #[.bool true, .int .i64 0, .int .i64 x225002_1, .int .i64 x225003_1]) ?_ 2 _ rfl; (with_reducible repeat (first | refine blk_drewN ?_ _ | refine blk_drew ?_ | refine blk_alloc ?_ _)); refine blk_put (cs := #[.bool true, .int .i64 x225001_1, .int .i64 x225002_1, .int .i64 x225003_1]) ?_ 1 _ rfl; (with_reducible repeat (first | refine blk_drewN ?_ _ | refine blk_drew ?_ | refine blk_alloc ?_ _)); refine blk_put (cs := #[.bool x225000_1, .int .i64 x225001_1, .int .i64 x225002_1, .int .i64 x225003_1]) ?_ 0 _ rfl; (with_reducible repeat (first | refine blk_drewN ?_ _ | refine blk_drew ?_ | refine blk_alloc ?_ _)); exact BK224.out) Try.underlying62 rfl (by kernel_rfl)) rfl ?_
     exact ⟨ze, zw2 HB.out GE224.out GE227.out⟩
    rw [if_pos c10] at H
    have c10b0 : decide (x19_1 < (l0.length : Int)) = true := decide_eq_true c10
    clear c10
    by_cases c11 : 0 ≤ x19_1
    rotate_left
    ·rw [if_neg c11] at H
     exact absurd H (by simp)
    rw [if_pos c11] at H
    have c11b0 : decide (0 ≤ x19_1) = true := decide_eq_true c11
    clear c11
    by_cases c12 : x19_1 < (l0.length : Int)
    rotate_left
    ·rw [if_neg c12] at H
     exact absurd H (by simp)
    rw [if_pos c12] at H
    have c12b0 : decide (x19_1 < (l0.length : Int)) = true := decide_eq_true c12
    clear c12
    have HC13 := Aside0.mk H
    clear H
    have p228 : 0 ≤ (x19_1 : Int) := zdec
    have q228 : x19_1 < (l0.length : Int) := zdec
    obtain ⟨ad228, e228, hx228_0, hx228_1, hx228_2, hx228_3, hx228_4⟩ := at_T74 HR0.out x19_1 p228 q228
    obtain rfl : ad225 = ad228 := (by injection e228)
    replace hx228_0 := zh HB.out hx228_0
    replace hx228_1 := zh HB.out hx228_1
    replace hx228_2 := zh HB.out hx228_2
    replace hx228_3 := zh HB.out hx228_3
    replace hx228_4 := zh HB.out hx228_4
    replace p228 := eq_true p228
    replace q228 := eq_true q228
    go_upto_if 27 with (first | ((with_reducible refine gate_dst (N := 6) rfl ?_); refine zbox (N := 6) (cs := #[.int .i64 0, .int .i64 0, .int .i64 0, .int .i64 0, .int .i64 0]) (t := 74) ?_; intro gb229 hg w14 hbox hb; have n0_ := Aside0.mk (zbb BK224.out hb); have n1_ := Aside0.mk (zbb BK227.out hb); have n2_ := Aside0.mk (below_step (zw2 HB.out GE224.out GE227.out) hb); have BK229 := Aside0.mk (hbox); have GW229 := Aside0.mk (zg hg (below_size (zw2 HB.out GE224.out GE227.out))); have GE229 := GW229; have NB224_229 := Aside0.mk (zlt hg BK224.out); have NB229_224 := Aside0.mk (zgt hg BK224.out); have NB227_229 := Aside0.mk (zlt hg BK227.out); have NB229_227 := Aside0.mk (zgt hg BK227.out); clear BK224 BK227 HB; have BK224 := n0_; have BK227 := n1_; have HB := n2_; clear n0_ n1_ n2_; clear hb hbox hg; have hnb15 := NB229_224.out; have hnc15 := NB224_229.out; have hnb16 := NB229_227.out; have hnc16 := NB227_229.out; have hcz17_0 := zc BK229.out 0; have hcz17_1 := zc BK229.out 1; have hcz17_2 := zc BK229.out 2; have hcz17_3 := zc BK229.out 3; have hcz17_4 := zc BK229.out 4; have hfz17_0 := blk_frozen BK229.out 0; have hfz17_1 := blk_frozen BK229.out 1; have hfz17_2 := blk_frozen BK229.out 2; have hfz17_3 := blk_frozen BK229.out 3; have hfz17_4 := blk_frozen BK229.out 4) | ((with_reducible refine gate_dst (N := 7) rfl ?_); refine zbox (N := 7) (cs := #[.int .i64 0, .int .i64 0, .int .i64 0, .int .i64 0, .int .i64 0]) (t := 74) ?_; intro gb230 hg w18 hbox hb; have n0_ := Aside0.mk (blk_below (g := gb224) (o := .cells #[.bool x225000_1, .int .i64 x225001_1, .int .i64 x225002_1, .int .i64 x225003_1] 62 (0, 0)) (zf1 BK224.out NB224_229.out) hb); have n1_ := Aside0.mk (blk_below (g := gb227) (o := .cells #[.bool true, .int .i64 0, .int .i64 ((rd_T74 l0 0).f2), .int .i64 ((rd_T74 l0 0).f3)] 62 (0, 0)) (zf1 BK227.out NB227_229.out) hb); have n2_ := Aside0.mk (blk_below (g := gb229) (o := .cells #[.int .i64 ((rd_T74 l0 x19_1).f0), .int .i64 ((rd_T74 l0 x19_1).f1), .int .i64 ((rd_T74 l0 x19_1).f2), .int .i64 ((rd_T74 l0 x19_1).f3), .int .i64 ((rd_T74 l0 x19_1).f4)] 74 (0, 0)) (by (with_reducible repeat (first | refine blk_drewN ?_ _ | refine blk_drew ?_ | refine blk_alloc ?_ _)); refine blk_put (cs := #[.int .i64 ((rd_T74 l0 x19_1).f0), .int .i64 ((rd_T74 l0 x19_1).f1), .int .i64 ((rd_T74 l0 x19_1).f2), .int .i64 ((rd_T74 l0 x19_1).f3), .int .i64 0]) ?_ 4 _ rfl; (with_reducible repeat (first | refine blk_drewN ?_ _ | refine blk_drew ?_ | refine blk_alloc ?_ _)); refine blk_put (cs := #[.int .i64 ((rd_T74 l0 x19_1).f0), .int .i64 ((rd_T74 l0 x19_1).f1), .int .i64 ((rd_T74 l0 x19_1).f2), .int .i64 0, .int .i64 0]) ?_ 3 _ rfl; (with_reducible repeat (first | refine blk_drewN ?_ _ | refine blk_drew ?_ | refine blk_alloc ?_ _)); refine blk_put (cs := #[.int .i64 ((rd_T74 l0 x19_1).f0), .int .i64 ((rd_T74 l0 x19_1).f1), .int .i64 0, .int .i64 0, .int .i64 0]) ?_ 2 _ rfl; (with_reducible repeat (first | refine blk_drewN ?_ _ | refine blk_drew ?_ | refine blk_alloc ?_ _)); refine blk_put (cs := #[.int .i64 ((rd_T74 l0 x19_1).f0), .int .i64 0, .int .i64 0, .int .i64 0, .int .i64 0]) ?_ 1 _ rfl; (with_reducible repeat (first | refine blk_drewN ?_ _ | refine blk_drew ?_ | refine blk_alloc ?_ _)); refine blk_put (cs := #[.int .i64 0, .int .i64 0, .int .i64 0, .int .i64 0, .int .i64 0]) ?_ 0 _ rfl; (with_reducible repeat (first | refine blk_drewN ?_ _ | refine blk_drew ?_ | refine blk_alloc ?_ _)); exact BK229.out) hb); have n3_ := Aside0.mk (below_step (zw3 HB.out GE224.out GE227.out GE229.out) hb); have BK230 := Aside0.mk (hbox); have GW230 := Aside0.mk (zg hg (below_size (zw3 HB.out GE224.out GE227.out GE229.out))); have GE230 := GW230; have NB224_230 := Aside0.mk ((by rw [hg]; exact Nat.ne_of_lt (blk_lt (g := gb224) (o := .cells #[.bool x225000_1, .int .i64 x225001_1, .int .i64 x225002_1, .int .i64 x225003_1] 62 (0, 0)) (zf1 BK224.out NB224_229.out)) : gb224 ≠ gb230)); have NB230_224 := Aside0.mk ((by rw [hg]; exact Nat.ne_of_gt (blk_lt (g := gb224) (o := .cells #[.bool x225000_1, .int .i64 x225001_1, .int .i64 x225002_1, .int .i64 x225003_1] 62 (0, 0)) (zf1 BK224.out NB224_229.out)) : gb230 ≠ gb224)); have NB227_230 := Aside0.mk ((by rw [hg]; exact Nat.ne_of_lt (blk_lt (g := gb227) (o := .cells #[.bool true, .int .i64 0, .int .i64 ((rd_T74 l0 0).f2), .int .i64 ((rd_T74 l0 0).f3)] 62 (0, 0)) (zf1 BK227.out NB227_229.out)) : gb227 ≠ gb230)); have NB230_227 := Aside0.mk ((by rw [hg]; exact Nat.ne_of_gt (blk_lt (g := gb227) (o := .cells #[.bool true, .int .i64 0, .int .i64 ((rd_T74 l0 0).f2), .int .i64 ((rd_T74 l0 0).f3)] 62 (0, 0)) (zf1 BK227.out NB227_229.out)) : gb230 ≠ gb227)); have NB229_230 := Aside0.mk ((by rw [hg]; exact Nat.ne_of_lt (blk_lt (g := gb229) (o := .cells #[.int .i64 ((rd_T74 l0 x19_1).f0), .int .i64 ((rd_T74 l0 x19_1).f1), .int .i64 ((rd_T74 l0 x19_1).f2), .int .i64 ((rd_T74 l0 x19_1).f3), .int .i64 ((rd_T74 l0 x19_1).f4)] 74 (0, 0)) (by (with_reducible repeat (first | refine blk_drewN ?_ _ | refine blk_drew ?_ | refine blk_alloc ?_ _)); refine blk_put (cs := #[.int .i64 ((rd_T74 l0 x19_1).f0), .int .i64 ((rd_T74 l0 x19_1).f1), .int .i64 ((rd_T74 l0 x19_1).f2), .int .i64 ((rd_T74 l0 x19_1).f3), .int .i64 0]) ?_ 4 _ rfl; (with_reducible repeat (first | refine blk_drewN ?_ _ | refine blk_drew ?_ | refine blk_alloc ?_ _)); refine blk_put (cs := #[.int .i64 ((rd_T74 l0 x19_1).f0), .int .i64 ((rd_T74 l0 x19_1).f1), .int .i64 ((rd_T74 l0 x19_1).f2), .int .i64 0, .int .i64 0]) ?_ 3 _ rfl; (with_reducible repeat (first | refine blk_drewN ?_ _ | refine blk_drew ?_ | refine blk_alloc ?_ _)); refine blk_put (cs := #[.int .i64 ((rd_T74 l0 x19_1).f0), .int .i64 ((rd_T74 l0 x19_1).f1), .int .i64 0, .int .i64 0, .int .i64 0]) ?_ 2 _ rfl; (with_reducible repeat (first | refine blk_drewN ?_ _ | refine blk_drew ?_ | refine blk_alloc ?_ _)); refine blk_put (cs := #[.int .i64 ((rd_T74 l0 x19_1).f0), .int .i64 0, .int .i64 0, .int .i64 0, .int .i64 0]) ?_ 1 _ rfl; (with_reducible repeat (first | refine blk_drewN ?_ _ | refine blk_drew ?_ | refine blk_alloc ?_ _)); refine blk_put (cs := #[.int .i64 0, .int .i64 0, .int .i64 0, .int .i64 0, .int .i64 0]) ?_ 0 _ rfl; (with_reducible repeat (first | refine blk_drewN ?_ _ | refine blk_drew ?_ | refine blk_alloc ?_ _)); exact BK229.out)) : gb229 ≠ gb230)); have NB230_229 := Aside0.mk ((by rw [hg]; exact Nat.ne_of_gt (blk_lt (g := gb229) (o := .cells #[.int .i64 ((rd_T74 l0 x19_1).f0), .int .i64 ((rd_T74 l0 x19_1).f1), .int .i64 ((rd_T74 l0 x19_1).f2), .int .i64 ((rd_T74 l0 x19_1).f3), .int .i64 ((rd_T74 l0 x19_1).f4)] 74 (0, 0)) (by (with_reducible repeat (first | refine blk_drewN ?_ _ | refine blk_drew ?_ | refine blk_alloc ?_ _)); refine blk_put (cs := #[.int .i64 ((rd_T74 l0 x19_1).f0), .int .i64 ((rd_T74 l0 x19_1).f1), .int .i64 ((rd_T74 l0 x19_1).f2), .int .i64 ((rd_T74 l0 x19_1).f3), .int .i64 0]) ?_ 4 _ rfl; (with_reducible repeat (first | refine blk_drewN ?_ _ | refine blk_drew ?_ | refine blk_alloc ?_ _)); refine blk_put (cs := #[.int .i64 ((rd_T74 l0 x19_1).f0), .int .i64 ((rd_T74 l0 x19_1).f1), .int .i64 ((rd_T74 l0 x19_1).f2), .int .i64 0, .int .i64 0]) ?_ 3 _ rfl; (with_reducible repeat (first | refine blk_drewN ?_ _ | refine blk_drew ?_ | refine blk_alloc ?_ _)); refine blk_put (cs := #[.int .i64 ((rd_T74 l0 x19_1).f0), .int .i64 ((rd_T74 l0 x19_1).f1), .int .i64 0, .int .i64 0, .int .i64 0]) ?_ 2 _ rfl; (with_reducible repeat (first | refine blk_drewN ?_ _ | refine blk_drew ?_ | refine blk_alloc ?_ _)); refine blk_put (cs := #[.int .i64 ((rd_T74 l0 x19_1).f0), .int .i64 0, .int .i64 0, .int .i64 0, .int .i64 0]) ?_ 1 _ rfl; (with_reducible repeat (first | refine blk_drewN ?_ _ | refine blk_drew ?_ | refine blk_alloc ?_ _)); refine blk_put (cs := #[.int .i64 0, .int .i64 0, .int .i64 0, .int .i64 0, .int .i64 0]) ?_ 0 _ rfl; (with_reducible repeat (first | refine blk_drewN ?_ _ | refine blk_drew ?_ | refine blk_alloc ?_ _)); exact BK229.out)) : gb230 ≠ gb229)); clear BK224 BK227 BK229 HB; have BK224 := n0_; have BK227 := n1_; have BK229 := n2_; have HB := n3_; clear n0_ n1_ n2_ n3_; clear hb hbox hg; have hnb19 := NB230_224.out; have hnc19 := NB224_230.out; have hnb20 := NB230_227.out; have hnc20 := NB227_230.out; have hnb21 := NB230_229.out; have hnc21 := NB229_230.out; have hcz22_0 := zc BK230.out 0; have hcz22_1 := zc BK230.out 1; have hcz22_2 := zc BK230.out 2; have hcz22_3 := zc BK230.out 3; have hcz22_4 := zc BK230.out 4; have hfz22_0 := blk_frozen BK230.out 0; have hfz22_1 := blk_frozen BK230.out 1; have hfz22_2 := blk_frozen BK230.out 2; have hfz22_3 := blk_frozen BK230.out 3; have hfz22_4 := blk_frozen BK230.out 4; have hnb23 := NB227_224.out; have hnc23 := NB224_227.out; have hcz24_0 := zc BK227.out 0; have hcz24_1 := zc BK227.out 1; have hcz24_2 := zc BK227.out 2; have hcz24_3 := zc BK227.out 3; have hfz24_0 := blk_frozen BK227.out 0; have hfz24_1 := blk_frozen BK227.out 1; have hfz24_2 := blk_frozen BK227.out 2; have hfz24_3 := blk_frozen BK227.out 3))
    (try simp only [Act.put, List.setIfInBounds_toArray, List.set_cons_zero, List.set_cons_succ])
    go_cut [] (fun wc => ∃ (kq : Nat) (x231000_12 : Int) (x231001_12 : Int) (x231002_12 : Int) (x231003_12 : Int) (x231004_12 : Int), Aside0 (bytes_pointer.j1 kq l0 (l0.length : Int) x19_1 true 0 ((rd_T74 l0 0).f2) ((rd_T74 l0 0).f3) ((rd_T74 l0 x19_1).f0) ((rd_T74 l0 x19_1).f1) ((rd_T74 l0 x19_1).f2) ((rd_T74 l0 x19_1).f3) ((rd_T74 l0 x19_1).f4) x231000_12 x231001_12 x231002_12 x231003_12 x231004_12 = some (r1, r2, r3, r4, r5)) ∧ Aside0 (kq ≤ k1) ∧ Aside0 (wc.heap[gb224]? = some (.cells #[.bool x225000_1, .int .i64 x225001_1, .int .i64 x225002_1, .int .i64 x225003_1] 62 (0, 0))) ∧ Aside0 (wc.heap[gb227]? = some (.cells #[.bool true, .int .i64 0, .int .i64 ((rd_T74 l0 0).f2), .int .i64 ((rd_T74 l0 0).f3)] 62 (0, 0))) ∧ Aside0 (wc.heap[gb229]? = some (.cells #[.int .i64 ((rd_T74 l0 x19_1).f0), .int .i64 ((rd_T74 l0 x19_1).f1), .int .i64 ((rd_T74 l0 x19_1).f2), .int .i64 ((rd_T74 l0 x19_1).f3), .int .i64 ((rd_T74 l0 x19_1).f4)] 74 (0, 0))) ∧ Aside0 (wc.heap[gb230]? = some (.cells #[.int .i64 x231000_12, .int .i64 x231001_12, .int .i64 x231002_12, .int .i64 x231003_12, .int .i64 x231004_12] 74 (0, 0))) ∧ Aside0 (Below w.heap.size w wc))
    case first =>
     have H := HC13.out
     clear HC13
     by_cases c25 : ((rd_T74 l0 0).f2) > 0
     rotate_left
     ·rw [if_neg c25] at H
      have c25b0 : decide (0 < ((rd_T74 l0 0).f2)) = false := decide_eq_false c25
      clear c25
      (first | rw [c25b0] | (simp only [i64_w, i32_w]; rw [c25b0]) | skip)
      have H' := Aside0.mk H
      clear H
      go_wp2
      go_meet
      case rel => exact ⟨_, (1), (0), (0), (0), (0), H', ⟨by have := HK1.out; first | omega | exact Nat.le_refl _⟩, ⟨zf1 BK224.out NB224_230.out⟩, ⟨zf1 BK227.out NB227_230.out⟩, ⟨zf1 BK229.out NB229_230.out⟩, ⟨by (with_reducible repeat (first | refine blk_drewN ?_ _ | refine blk_drew ?_ | refine blk_alloc ?_ _)); refine blk_put (cs := #[.int .i64 1, .int .i64 0, .int .i64 0, .int .i64 0, .int .i64 0]) ?_ 4 _ rfl; (with_reducible repeat (first | refine blk_drewN ?_ _ | refine blk_drew ?_ | refine blk_alloc ?_ _)); refine blk_put (cs := #[.int .i64 1, .int .i64 0, .int .i64 0, .int .i64 0, .int .i64 0]) ?_ 3 _ rfl; (with_reducible repeat (first | refine blk_drewN ?_ _ | refine blk_drew ?_ | refine blk_alloc ?_ _)); refine blk_put (cs := #[.int .i64 1, .int .i64 0, .int .i64 0, .int .i64 0, .int .i64 0]) ?_ 2 _ rfl; (with_reducible repeat (first | refine blk_drewN ?_ _ | refine blk_drew ?_ | refine blk_alloc ?_ _)); refine blk_put (cs := #[.int .i64 1, .int .i64 0, .int .i64 0, .int .i64 0, .int .i64 0]) ?_ 1 _ rfl; (with_reducible repeat (first | refine blk_drewN ?_ _ | refine blk_drew ?_ | refine blk_alloc ?_ _)); refine blk_put (cs := #[.int .i64 0, .int .i64 0, .int .i64 0, .int .i64 0, .int .i64 0]) ?_ 0 _ rfl; (with_reducible repeat (first | refine blk_drewN ?_ _ | refine blk_drew ?_ | refine blk_alloc ?_ _)); exact BK230.out⟩, ⟨zw4 HB.out GE224.out GE227.out GE229.out GE230.out⟩⟩
     rw [if_pos c25] at H
     have c25b0 : decide (0 < ((rd_T74 l0 0).f2)) = true := decide_eq_true c25
     clear c25
     (first | rw [c25b0] | (simp only [i64_w, i32_w]; rw [c25b0]) | skip)
     have H' := Aside0.mk H
     clear H
     have hnb26 := NB227_224.out
     have hnc26 := NB224_227.out
     have hnb27 := NB227_229.out
     have hnc27 := NB229_227.out
     have hnb28 := NB227_230.out
     have hnc28 := NB230_227.out
     have hcz29_0 := zc BK227.out 0
     have hcz29_1 := zc BK227.out 1
     have hcz29_2 := zc BK227.out 2
     have hcz29_3 := zc BK227.out 3
     have hfz29_0 := blk_frozen BK227.out 0
     have hfz29_1 := blk_frozen BK227.out 1
     have hfz29_2 := blk_frozen BK227.out 2
     have hfz29_3 := blk_frozen BK227.out 3
     have hnb30 := NB230_224.out
     have hnc30 := NB224_230.out
     have hnb31 := NB230_229.out
     have hnc31 := NB229_230.out
     have hcz32_0 := zc BK230.out 0
     have hcz32_1 := zc BK230.out 1
     have hcz32_2 := zc BK230.out 2
     have hcz32_3 := zc BK230.out 3
     have hcz32_4 := zc BK230.out 4
     have hfz32_0 := blk_frozen BK230.out 0
     have hfz32_1 := blk_frozen BK230.out 1
     have hfz32_2 := blk_frozen BK230.out 2
     have hfz32_3 := blk_frozen BK230.out 3
     have hfz32_4 := blk_frozen BK230.out 4
     go_wp2
     go_meet
     case rel => exact ⟨_, (2), (0), (((rd_T74 l0 0).f2)), (((rd_T74 l0 0).f3)), (x19_1), H', ⟨by have := HK1.out; first | omega | exact Nat.le_refl _⟩, ⟨zf1 BK224.out NB224_230.out⟩, ⟨zf1 BK227.out NB227_230.out⟩, ⟨zf1 BK229.out NB229_230.out⟩, ⟨by (with_reducible repeat (first | refine blk_drewN ?_ _ | refine blk_drew ?_ | refine blk_alloc ?_ _)); refine blk_put (cs := #[.int .i64 2, .int .i64 0, .int .i64 ((rd_T74 l0 0).f2), .int .i64 ((rd_T74 l0 0).f3), .int .i64 0]) ?_ 4 _ rfl; (with_reducible repeat (first | refine blk_drewN ?_ _ | refine blk_drew ?_ | refine blk_alloc ?_ _)); refine blk_put (cs := #[.int .i64 2, .int .i64 0, .int .i64 ((rd_T74 l0 0).f2), .int .i64 0, .int .i64 0]) ?_ 3 _ rfl; (with_reducible repeat (first | refine blk_drewN ?_ _ | refine blk_drew ?_ | refine blk_alloc ?_ _)); refine blk_put (cs := #[.int .i64 2, .int .i64 0, .int .i64 0, .int .i64 0, .int .i64 0]) ?_ 2 _ rfl; (with_reducible repeat (first | refine blk_drewN ?_ _ | refine blk_drew ?_ | refine blk_alloc ?_ _)); refine blk_put (cs := #[.int .i64 2, .int .i64 0, .int .i64 0, .int .i64 0, .int .i64 0]) ?_ 1 _ rfl; (with_reducible repeat (first | refine blk_drewN ?_ _ | refine blk_drew ?_ | refine blk_alloc ?_ _)); refine blk_put (cs := #[.int .i64 1, .int .i64 0, .int .i64 0, .int .i64 0, .int .i64 0]) ?_ 0 _ rfl; (with_reducible repeat (first | refine blk_drewN ?_ _ | refine blk_drew ?_ | refine blk_alloc ?_ _)); refine blk_put (cs := #[.int .i64 1, .int .i64 0, .int .i64 0, .int .i64 0, .int .i64 0]) ?_ 4 _ rfl; (with_reducible repeat (first | refine blk_drewN ?_ _ | refine blk_drew ?_ | refine blk_alloc ?_ _)); refine blk_put (cs := #[.int .i64 1, .int .i64 0, .int .i64 0, .int .i64 0, .int .i64 0]) ?_ 3 _ rfl; (with_reducible repeat (first | refine blk_drewN ?_ _ | refine blk_drew ?_ | refine blk_alloc ?_ _)); refine blk_put (cs := #[.int .i64 1, .int .i64 0, .int .i64 0, .int .i64 0, .int .i64 0]) ?_ 2 _ rfl; (with_reducible repeat (first | refine blk_drewN ?_ _ | refine blk_drew ?_ | refine blk_alloc ?_ _)); refine blk_put (cs := #[.int .i64 1, .int .i64 0, .int .i64 0, .int .i64 0, .int .i64 0]) ?_ 1 _ rfl; (with_reducible repeat (first | refine blk_drewN ?_ _ | refine blk_drew ?_ | refine blk_alloc ?_ _)); refine blk_put (cs := #[.int .i64 0, .int .i64 0, .int .i64 0, .int .i64 0, .int .i64 0]) ?_ 0 _ rfl; (with_reducible repeat (first | refine blk_drewN ?_ _ | refine blk_drew ?_ | refine blk_alloc ?_ _)); exact BK230.out⟩, ⟨zw4 HB.out GE224.out GE227.out GE229.out GE230.out⟩⟩
    case rest =>
     clear HC13
     try clear c1; try clear c2; try clear c2b0; try clear c2b1; try clear p2; try clear q2; try clear qi2; try clear c3; try clear c10; try clear c10b0; try clear c11; try clear c11b0; try clear c12; try clear c12b0; try clear c15; try clear c16; try clear c19; try clear c20; try clear c21; try clear p22; try clear q22; try clear qi22; try clear c23; try clear c25; try clear c25b0; try clear c26; try clear c27; try clear c28; try clear c30; try clear c31; try clear p2; try clear p225; try clear p226; try clear p228; try clear q2; try clear q225; try clear q226; try clear q228
     obtain ⟨kq, x231000_12, x231001_12, x231002_12, x231003_12, x231004_12, HA, HJ12, BK224, BK227, BK229, BK230, HB⟩ := hcut
     cases kq with
     | zero => exact absurd HA.out (by simp [bytes_pointer.j1])
     | succ kj12 =>
      have H := HA.out
      clear HA
      simp only [bytes_pointer.j1] at H
      by_cases c33 : (!(((rd_T74 l0 x19_1).f0) == x231000_12) || (!(((rd_T74 l0 x19_1).f1) == x231001_12) || (!(((rd_T74 l0 x19_1).f2) == x231002_12) || (!(((rd_T74 l0 x19_1).f3) == x231003_12) || (!(((rd_T74 l0 x19_1).f4) == x231004_12)))))) = true
      rotate_left
      ·rw [if_neg c33] at H
       have c33b0 : (!(((rd_T74 l0 x19_1).f0) == x231000_12) || (!(((rd_T74 l0 x19_1).f1) == x231001_12) || (!(((rd_T74 l0 x19_1).f2) == x231002_12) || (!(((rd_T74 l0 x19_1).f3) == x231003_12) || (!(((rd_T74 l0 x19_1).f4) == x231004_12)))))) = false := by simpa using c33
       clear c33
       have H' := Aside0.mk H
       clear H
       have hnb43 := NB229_224.out
       have hnc43 := NB224_229.out
       have hnb44 := NB229_227.out
       have hnc44 := NB227_229.out
       have hnb45 := NB229_230.out
       have hnc45 := NB230_229.out
       have hcz46_0 := zc BK229.out 0
       have hcz46_1 := zc BK229.out 1
       have hcz46_2 := zc BK229.out 2
       have hcz46_3 := zc BK229.out 3
       have hcz46_4 := zc BK229.out 4
       have hfz46_0 := blk_frozen BK229.out 0
       have hfz46_1 := blk_frozen BK229.out 1
       have hfz46_2 := blk_frozen BK229.out 2
       have hfz46_3 := blk_frozen BK229.out 3
       have hfz46_4 := blk_frozen BK229.out 4
       have hnb47 := NB230_224.out
       have hnc47 := NB224_230.out
       have hnb48 := NB230_227.out
       have hnc48 := NB227_230.out
       have hcz49_0 := zc BK230.out 0
       have hcz49_1 := zc BK230.out 1
       have hcz49_2 := zc BK230.out 2
       have hcz49_3 := zc BK230.out 3
       have hcz49_4 := zc BK230.out 4
       have hfz49_0 := blk_frozen BK230.out 0
       have hfz49_1 := blk_frozen BK230.out 1
       have hfz49_2 := blk_frozen BK230.out 2
       have hfz49_3 := blk_frozen BK230.out 3
       have hfz49_4 := blk_frozen BK230.out 4
       go_wp2
       go_roundg kj12
       case measure => have := HK1.out; have := HJ12.out; omega
       case rel => exact ⟨(wrap64 (x19_1 + 1)), (x225000_1), (x225001_1), (x225002_1), (x225003_1), (zr), H', ⟨by have := HK1.out; have := HJ12.out; omega⟩, ⟨zb BK224.out⟩, ⟨zb BK227.out⟩, ⟨zw4 HB.out GE224.out GE227.out GE229.out GE230.out⟩⟩
      rw [if_pos c33] at H
      have c33b0 : (!(((rd_T74 l0 x19_1).f0) == x231000_12) || (!(((rd_T74 l0 x19_1).f1) == x231001_12) || (!(((rd_T74 l0 x19_1).f2) == x231002_12) || (!(((rd_T74 l0 x19_1).f3) == x231003_12) || (!(((rd_T74 l0 x19_1).f4) == x231004_12)))))) = true := c33
      clear c33
      simp only [Option.some.injEq, Prod.mk.injEq] at H
      obtain ⟨rfl, rfl, rfl, rfl, rfl⟩ := H
      have hnb34 := NB229_224.out
      have hnc34 := NB224_229.out
      have hnb35 := NB229_227.out
      have hnc35 := NB227_229.out
      have hnb36 := NB229_230.out
      have hnc36 := NB230_229.out
      have hcz37_0 := zc BK229.out 0
      have hcz37_1 := zc BK229.out 1
      have hcz37_2 := zc BK229.out 2
      have hcz37_3 := zc BK229.out 3
      have hcz37_4 := zc BK229.out 4
      have hfz37_0 := blk_frozen BK229.out 0
      have hfz37_1 := blk_frozen BK229.out 1
      have hfz37_2 := blk_frozen BK229.out 2
      have hfz37_3 := blk_frozen BK229.out 3
      have hfz37_4 := blk_frozen BK229.out 4
      have hnb38 := NB230_224.out
      have hnc38 := NB224_230.out
      have hnb39 := NB230_227.out
      have hnc39 := NB227_230.out
      have hcz40_0 := zc BK230.out 0
      have hcz40_1 := zc BK230.out 1
      have hcz40_2 := zc BK230.out 2
      have hcz40_3 := zc BK230.out 3
      have hcz40_4 := zc BK230.out 4
      have hfz40_0 := blk_frozen BK230.out 0
      have hfz40_1 := blk_frozen BK230.out 1
      have hfz40_2 := blk_frozen BK230.out 2
      have hfz40_3 := blk_frozen BK230.out 3
      have hfz40_4 := blk_frozen BK230.out 4
      have hnb41 := NB224_227.out
      have hnc41 := NB227_224.out
      have hcz42_0 := zc BK224.out 0
      have hcz42_1 := zc BK224.out 1
      have hcz42_2 := zc BK224.out 2
      have hcz42_3 := zc BK224.out 3
      have hfz42_0 := blk_frozen BK224.out 0
      have hfz42_1 := blk_frozen BK224.out 1
      have hfz42_2 := blk_frozen BK224.out 2
      have hfz42_3 := blk_frozen BK224.out 3
      go_wp2
      refine bodyPost_ret (results_ct rfl _ _ gb224 62 #[.bool false, .int .i64 0, .int .i64 0, .int .i64 0] (0, 0) _ rfl (by (with_reducible repeat (first | refine blk_drewN ?_ _ | refine blk_drew ?_ | refine blk_alloc ?_ _)); refine blk_put (cs := #[.bool false, .int .i64 0, .int .i64 0, .int .i64 x225003_1]) ?_ 3 _ rfl; (with_reducible repeat (first | refine blk_drewN ?_ _ | refine blk_drew ?_ | refine blk_alloc ?_ _)); refine blk_put (cs := #[.bool false, .int .i64 0, .int .i64 x225002_1, .int .i64 x225003_1]) ?_ 2 _ rfl; (with_reducible repeat (first | refine blk_drewN ?_ _ | refine blk_drew ?_ | refine blk_alloc ?_ _)); refine blk_put (cs := #[.bool false, .int .i64 x225001_1, .int .i64 x225002_1, .int .i64 x225003_1]) ?_ 1 _ rfl; (with_reducible repeat (first | refine blk_drewN ?_ _ | refine blk_drew ?_ | refine blk_alloc ?_ _)); refine blk_put (cs := #[.bool x225000_1, .int .i64 x225001_1, .int .i64 x225002_1, .int .i64 x225003_1]) ?_ 0 _ rfl; (with_reducible repeat (first | refine blk_drewN ?_ _ | refine blk_drew ?_ | refine blk_alloc ?_ _)); exact BK224.out) Try.underlying62 rfl (by kernel_rfl)) rfl ?_
      exact ⟨ze, zw4 HB.out GE224.out GE227.out GE229.out GE230.out⟩
 ·rw [if_neg c2] at H
  exact absurd H (by simp)

end Go.Proofs.Ytjoplkillkhiaaa.M
