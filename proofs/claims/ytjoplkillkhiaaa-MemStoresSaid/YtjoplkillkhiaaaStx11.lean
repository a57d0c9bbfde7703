-- Written by this session's own edition of the print.
import Derived.Test.YtjoplkillkhiaaaStx0
import Derived.Test.YtjoplkillkhiaaaStx1
import Derived.Test.YtjoplkillkhiaaaZSq
import Derived.Test.YtjoplkillkhiaaaZSq2
import Derived.Test.YtjoplkillkhiaaaZSq3
namespace Go.Proofs.Ytjoplkillkhiaaa.St
open Go.RowKit Go.Proofs.Ytjoplkillkhiaaa.Fn Go.Proofs.YtjoplkillkhiaaaW.PrintWords Go.Proofs.YtjoplkillkhiaaaW.PrintLast Go.Proofs.YtjoplkillkhiaaaW.PrintMore
attribute [local go_sem] max2_int min2_int max_two min_two max_three min_three max_four min_four   -- for this text's walks alone
set_option linter.unusedVariables false
set_option linter.unusedSimpArgs false

attribute [local go_sem high] eqA74
/-! bytes_pointer -/
mutual
def bytes_pointer.l0 : Nat → List (S74) → Int → Int → Bool → Int → Int → Int → Option (Bool × Int × Int × Int × Int)
 | 0, _, _, _, _, _, _, _ => none
 | k + 1, x17, x18, x19, x273000, x273001, x273002, x273003 => if x19 < x18 then (if 0 ≤ x19 then (if x19 < (x17.length : Int) then (if x273002 > 0 then (bytes_pointer.j1 k x17 x18 x19 x273000 x273001 x273002 x273003 ((rd_T74 x17 x19).f0) ((rd_T74 x17 x19).f1) ((rd_T74 x17 x19).f2) ((rd_T74 x17 x19).f3) ((rd_T74 x17 x19).f4) 2 0 x273002 x273003 x19) else (bytes_pointer.j1 k x17 x18 x19 x273000 x273001 x273002 x273003 ((rd_T74 x17 x19).f0) ((rd_T74 x17 x19).f1) ((rd_T74 x17 x19).f2) ((rd_T74 x17 x19).f3) ((rd_T74 x17 x19).f4) 1 0 0 0 0)) else (none)) else (none)) else (some (x273000, x273001, x273002, x273003, 0))
def bytes_pointer.j1 : Nat → List (S74) → Int → Int → Bool → Int → Int → Int → Int → Int → Int → Int → Int → Int → Int → Int → Int → Int → Option (Bool × Int × Int × Int × Int)
 | 0, _, _, _, _, _, _, _, _, _, _, _, _, _, _, _, _, _ => none
 | k + 1, x17, x18, x19, x273000, x273001, x273002, x273003, x275000, x275001, x275002, x275003, x275004, x276000, x276001, x276002, x276003, x276004 => if (!(x275000 == x276000) || (!(x275001 == x276001) || (!(x275002 == x276002) || (!(x275003 == x276003) || (!(x275004 == x276004)))))) = true then (some (false, 0, 0, 0, 8)) else (bytes_pointer.l0 k x17 x18 (wrap64 (x19 + 1)) x273000 x273001 x273002 x273003)
end
def bytes_pointer.f (k : Nat) (l0 : List (S74)) : Option (Bool × Int × Int × Int × Int) := if 0 < (l0.length : Int) then (bytes_pointer.l0 k l0 (l0.length : Int) 0 true 0 ((rd_T74 l0 0).f2) ((rd_T74 l0 0).f3)) else (none)
theorem bytes_pointer.mono_l : ∀ k, (∀ y0 y1 y2 y3 y4 y5 y6, LeO (bytes_pointer.l0 k y0 y1 y2 y3 y4 y5 y6) (bytes_pointer.l0 (k + 1) y0 y1 y2 y3 y4 y5 y6)) ∧ (∀ y0 y1 y2 y3 y4 y5 y6 y7 y8 y9 y10 y11 y12 y13 y14 y15 y16, LeO (bytes_pointer.j1 k y0 y1 y2 y3 y4 y5 y6 y7 y8 y9 y10 y11 y12 y13 y14 y15 y16) (bytes_pointer.j1 (k + 1) y0 y1 y2 y3 y4 y5 y6 y7 y8 y9 y10 y11 y12 y13 y14 y15 y16))
 | 0 => ⟨fun _ _ _ _ _ _ _ r h => by simp [bytes_pointer.l0] at h, fun _ _ _ _ _ _ _ _ _ _ _ _ _ _ _ _ _ r h => by simp [bytes_pointer.j1] at h⟩
 | k + 1 => by
  obtain ⟨ih0, ih1⟩ := bytes_pointer.mono_l k
  refine ⟨?_, ?_⟩
  ·intro y0 y1 y2 y3 y4 y5 y6
   unfold bytes_pointer.l0
   repeat' first
   | (with_reducible apply ih0)
   | (with_reducible apply ih1)
   | (with_reducible apply LeO.refl)
   | (with_reducible apply LeO.none)
   | (with_reducible refine LeO.ite ?_ ?_)
   | (with_reducible refine LeO.bind ?_ (fun _ => ?_))
  ·intro y0 y1 y2 y3 y4 y5 y6 y7 y8 y9 y10 y11 y12 y13 y14 y15 y16
   unfold bytes_pointer.j1
   repeat' first
   | (with_reducible apply ih0)
   | (with_reducible apply ih1)
   | (with_reducible apply LeO.refl)
   | (with_reducible apply LeO.none)
   | (with_reducible refine LeO.ite ?_ ?_)
   | (with_reducible refine LeO.bind ?_ (fun _ => ?_))
theorem bytes_pointer.mono : ∀ a0 k, LeO (bytes_pointer.f k a0) (bytes_pointer.f (k + 1) a0) := by
 intro a0 k
 obtain ⟨ih0, ih1⟩ := bytes_pointer.mono_l k
 unfold bytes_pointer.f
 repeat' first
   | (with_reducible apply ih0)
   | (with_reducible apply ih1)
   | (with_reducible apply LeO.refl)
   | (with_reducible apply LeO.none)
   | (with_reducible refine LeO.ite ?_ ?_)
   | (with_reducible refine LeO.bind ?_ (fun _ => ?_))
def bytes_pointer.T1 : Bool × List (List Nat × List Nat) := (true, [([], []), ([0], [0]), ([1], [1]), ([2], [2]), ([], []), ([4], [4]), ([5], [5]), ([6], [6]), ([3, 7], [3, 7]), ([], []), ([9, 8, 0, 1, 2, 3, 4, 5, 6, 7, 8, 9], [8, 9])])
def bytes_pointer.B1 : List Nat := [0, 1, 3, 7, 0, 16, 48, 112, 255, 0, 1023]
theorem bytes_pointer.tab1 : rtab .any (opsOf Try.f120 1) = bytes_pointer.T1 := by kernel_rfl
theorem bytes_pointer.bits1 : waitsOk bytes_pointer.T1.2 bytes_pointer.B1 = true := by kernel_rfl
set_option maxHeartbeats 8000000 in
set_option maxRecDepth 100000 in
theorem bytes_pointer.calls (k : Nat) (A0 : Option Addr) (c0 : Nat) (l0 : List (S74)) (r1 : Bool) (r2 : Int) (r3 : Int) (r4 : Int) (r5 : Int) (w : World) (hr0 : Kd.C k74 w A0 l0.length l0) (hc0 : l0.length ≤ c0) (h : bytes_pointer.f k l0 = some (r1, r2, r3, r4, r5)) :
  Calls Try.prog 120 #[.slice A0 l0.length c0] w fun e w' => e = .returned (.tuple #[.agg #[.bool r1, .int .i64 r2, .int .i64 r3, .int .i64 r4], .int .i64 r5]) ∧ Below w.heap.size w w' := by
 have hu62 := Try.underlying62
 have hu74 := Try.underlying74
 have HR0 := Aside0.mk hr0
 have HC0 := Aside0.mk hc0
 clear hr0 hc0
 have HB := Aside0.mk (Below.refl w.heap.size w)
 have H : (if 0 < (l0.length : Int) then (bytes_pointer.l0 k l0 (l0.length : Int) 0 true 0 ((rd_T74 l0 0).f2) ((rd_T74 l0 0).f3)) else (none)) = some (r1, r2, r3, r4, r5) := h
 clear h
 by_cases c2 : 0 < (l0.length : Int)
 ·rw [if_pos c2] at H
  have c2b0 : decide (0 < (l0.length : Int)) = true := decide_eq_true c2
  have c2b1 : decide (0 < l0.length) = true := decide_eq_true (by omega)
  clear c2
  have H' := Aside0.mk H
  clear H
  go_enter Try.func120, Try.ntmps120
  try go_wp2_with (first | ((with_reducible refine gate_dst (N := 2) rfl ?_); refine zbox (N := 2) (cs := #[.bool false, .int .i64 0, .int .i64 0, .int .i64 0]) (t := 62) ?_; intro gb269 hg w3 hbox hb; have n0_ := Aside0.mk (below_step (zw0 HB.out) hb); have BK269 := Aside0.mk (hbox); have GW269 := Aside0.mk (zg hg (below_size (zw0 HB.out))); have GE269 := GW269; clear HB; have HB := n0_; clear n0_; clear hb hbox hg))
  have n0_ := Aside0.mk (blk_drew BK269.out)
  have n1_ := Aside0.mk (below_drew1 HB.out)
  clear BK269
  clear HB
  have BK269 := n0_
  have HB := n1_
  clear n0_ n1_
  have p270 : 0 ≤ (0 : Int) := (by omega)
  have q270 : 0 < (l0.length : Int) := zdec
  obtain ⟨ad270, e270, hx270_0, hx270_1, hx270_2, hx270_3, hx270_4⟩ := at_T74 HR0.out 0 p270 q270
  have hw270_4 := hx270_4
  (try rw [show ((0 : Int)).toNat = 0 from rfl] at hw270_4)
  (try rw [show 0 * 5 = 0 from rfl] at hw270_4)
  (try rw [Addr.add_zero'] at hw270_4)
  have hw270_3 := hx270_3
  (try rw [show ((0 : Int)).toNat = 0 from rfl] at hw270_3)
  (try rw [show 0 * 5 = 0 from rfl] at hw270_3)
  (try rw [Addr.add_zero'] at hw270_3)
  have hw270_2 := hx270_2
  (try rw [show ((0 : Int)).toNat = 0 from rfl] at hw270_2)
  (try rw [show 0 * 5 = 0 from rfl] at hw270_2)
  (try rw [Addr.add_zero'] at hw270_2)
  have hw270_1 := hx270_1
  (try rw [show ((0 : Int)).toNat = 0 from rfl] at hw270_1)
  (try rw [show 0 * 5 = 0 from rfl] at hw270_1)
  (try rw [Addr.add_zero'] at hw270_1)
  have hw270_0 := hx270_0
  (try rw [show ((0 : Int)).toNat = 0 from rfl] at hw270_0)
  (try rw [show 0 * 5 = 0 from rfl] at hw270_0)
  (try rw [Addr.add_zero'] at hw270_0)
  cases e270
  have qi270 : (0 < l0.length) = True := eq_true (by omega)
  (try rw [show ((0 : Int)).toNat = 0 from rfl] at hx270_0)
  (try rw [show 0 * 5 = 0 from rfl] at hx270_0)
  (try rw [Addr.add_zero'] at hx270_0)
  (try rw [show ((0 : Int)).toNat = 0 from rfl] at hx270_1)
  (try rw [show 0 * 5 = 0 from rfl] at hx270_1)
  (try rw [Addr.add_zero'] at hx270_1)
  (try rw [show ((0 : Int)).toNat = 0 from rfl] at hx270_2)
  (try rw [show 0 * 5 = 0 from rfl] at hx270_2)
  (try rw [Addr.add_zero'] at hx270_2)
  (try rw [show ((0 : Int)).toNat = 0 from rfl] at hx270_3)
  (try rw [show 0 * 5 = 0 from rfl] at hx270_3)
  (try rw [Addr.add_zero'] at hx270_3)
  (try rw [show ((0 : Int)).toNat = 0 from rfl] at hx270_4)
  (try rw [show 0 * 5 = 0 from rfl] at hx270_4)
  (try rw [Addr.add_zero'] at hx270_4)
  replace hx270_0 := zh HB.out hx270_0
  replace hx270_1 := zh HB.out hx270_1
  replace hx270_2 := zh HB.out hx270_2
  replace hx270_3 := zh HB.out hx270_3
  replace hx270_4 := zh HB.out hx270_4
  replace p270 := eq_true p270
  replace q270 := eq_true q270
  have p271 : 0 ≤ (0 : Int) := (by omega)
  have q271 : 0 < (l0.length : Int) := zdec
  obtain ⟨ad271, e271, hx271_0, hx271_1, hx271_2, hx271_3, hx271_4⟩ := at_T74 HR0.out 0 p271 q271
  have hw271_4 := hx271_4
  (try rw [show ((0 : Int)).toNat = 0 from rfl] at hw271_4)
  (try rw [show 0 * 5 = 0 from rfl] at hw271_4)
  (try rw [Addr.add_zero'] at hw271_4)
  have hw271_3 := hx271_3
  (try rw [show ((0 : Int)).toNat = 0 from rfl] at hw271_3)
  (try rw [show 0 * 5 = 0 from rfl] at hw271_3)
  (try rw [Addr.add_zero'] at hw271_3)
  have hw271_2 := hx271_2
  (try rw [show ((0 : Int)).toNat = 0 from rfl] at hw271_2)
  (try rw [show 0 * 5 = 0 from rfl] at hw271_2)
  (try rw [Addr.add_zero'] at hw271_2)
  have hw271_1 := hx271_1
  (try rw [show ((0 : Int)).toNat = 0 from rfl] at hw271_1)
  (try rw [show 0 * 5 = 0 from rfl] at hw271_1)
  (try rw [Addr.add_zero'] at hw271_1)
  have hw271_0 := hx271_0
  (try rw [show ((0 : Int)).toNat = 0 from rfl] at hw271_0)
  (try rw [show 0 * 5 = 0 from rfl] at hw271_0)
  (try rw [Addr.add_zero'] at hw271_0)
  obtain rfl : ad270 = ad271 := (by injection e271)
  have qi271 : (0 < l0.length) = True := eq_true (by omega)
  (try rw [show ((0 : Int)).toNat = 0 from rfl] at hx271_0)
  (try rw [show 0 * 5 = 0 from rfl] at hx271_0)
  (try rw [Addr.add_zero'] at hx271_0)
  (try rw [show ((0 : Int)).toNat = 0 from rfl] at hx271_1)
  (try rw [show 0 * 5 = 0 from rfl] at hx271_1)
  (try rw [Addr.add_zero'] at hx271_1)
  (try rw [show ((0 : Int)).toNat = 0 from rfl] at hx271_2)
  (try rw [show 0 * 5 = 0 from rfl] at hx271_2)
  (try rw [Addr.add_zero'] at hx271_2)
  (try rw [show ((0 : Int)).toNat = 0 from rfl] at hx271_3)
  (try rw [show 0 * 5 = 0 from rfl] at hx271_3)
  (try rw [Addr.add_zero'] at hx271_3)
  (try rw [show ((0 : Int)).toNat = 0 from rfl] at hx271_4)
  (try rw [show 0 * 5 = 0 from rfl] at hx271_4)
  (try rw [Addr.add_zero'] at hx271_4)
  replace hx271_0 := zh HB.out hx271_0
  replace hx271_1 := zh HB.out hx271_1
  replace hx271_2 := zh HB.out hx271_2
  replace hx271_3 := zh HB.out hx271_3
  replace hx271_4 := zh HB.out hx271_4
  replace p271 := eq_true p271
  replace q271 := eq_true q271
  refine start_ (n := 11) (S := fun w' => w'.cell? ad270 = some (.int .i64 ((rd_T74 l0 0).f0)) ∧ w'.cell? ⟨ad270.block, ad270.off + 1, none⟩ = some (.int .i64 ((rd_T74 l0 0).f1)) ∧ w'.cell? ⟨ad270.block, ad270.off + 2, none⟩ = some (.int .i64 ((rd_T74 l0 0).f2)) ∧ w'.cell? ⟨ad270.block, ad270.off + 3, none⟩ = some (.int .i64 ((rd_T74 l0 0).f3)) ∧ w'.cell? ⟨ad270.block, ad270.off + 4, none⟩ = some (.int .i64 ((rd_T74 l0 0).f4)) ∧ w'.cell? ad270 = some (.int .i64 ((rd_T74 l0 0).f0)) ∧ w'.cell? ⟨ad270.block, ad270.off + 1, none⟩ = some (.int .i64 ((rd_T74 l0 0).f1)) ∧ w'.cell? ⟨ad270.block, ad270.off + 2, none⟩ = some (.int .i64 ((rd_T74 l0 0).f2)) ∧ w'.cell? ⟨ad270.block, ad270.off + 3, none⟩ = some (.int .i64 ((rd_T74 l0 0).f3)) ∧ w'.cell? ⟨ad270.block, ad270.off + 4, none⟩ = some (.int .i64 ((rd_T74 l0 0).f4))) (ds := []) #[false,false,false,false,false,false,false,false,false,false,false] (by kernel_rfl) rfl rfl ⟨((HB.out.cell (World.block_lt_of_cell? w _ hw270_0)).trans hw270_0), ((HB.out.cell (World.block_lt_of_cell? w _ hw270_1)).trans hw270_1), ((HB.out.cell (World.block_lt_of_cell? w _ hw270_2)).trans hw270_2), ((HB.out.cell (World.block_lt_of_cell? w _ hw270_3)).trans hw270_3), ((HB.out.cell (World.block_lt_of_cell? w _ hw270_4)).trans hw270_4), ((HB.out.cell (World.block_lt_of_cell? w _ hw271_0)).trans hw271_0), ((HB.out.cell (World.block_lt_of_cell? w _ hw271_1)).trans hw271_1), ((HB.out.cell (World.block_lt_of_cell? w _ hw271_2)).trans hw271_2), ((HB.out.cell (World.block_lt_of_cell? w _ hw271_3)).trans hw271_3), ((HB.out.cell (World.block_lt_of_cell? w _ hw271_4)).trans hw271_4)⟩ (fun hHeld => ?_); refine with_tabW bytes_pointer.tab1 bytes_pointer.bits1 (fun HT_ HW_ => ?_)
  generalize w3.drew = w4 at BK269 HB hx270_0 hx270_1 hx270_2 hx270_3 hx270_4 hx271_0 hx271_1 hx271_2 hx271_3 hx271_4 hHeld ⊢
  refine zq 0 (some 8) HT_ ?_; refine zq 1 (some 9) HT_ ?_; refine zq 2 (some 10) HT_ ?_; refine zq 4 (some 12) HT_ ?_; refine zq 5 (some 13) HT_ ?_; refine zq 6 (some 14) HT_ ?_; refine zt 3 (some 11) HT_ HW_ hHeld ?_; refine zt 7 (some 15) HT_ HW_ hHeld ?_; refine zq 8 (some 16) HT_ ?_
  refine one_ (i := 9) (N := some 4) #[true,true,true,true,true,true,true,true,true,true,false] rfl rfl (one_of HT_.out (by kernel_rfl)) (by decide) (fun K hK => ?_)
  refine box_step ?hg (N := 4) ?hd (cs := #[.bool false, .int .i64 0, .int .i64 0, .int .i64 0]) (t := 62) ?hr ?_; (case hd => rfl); (case hg => rfl); (case hr => first | (go_simp; done) | (go_simp; rfl))
  intro gb272 hg w5 hbox hb
  have n0_ := Aside0.mk (zbb BK269.out hb)
  have n1_ := Aside0.mk (below_step (zw1 HB.out GE269.out) hb)
  have n2_ := Aside0.mk (hbox)
  have n3_ := Aside0.mk (zg hg (below_size (zw1 HB.out GE269.out)))
  have n4_ := Aside0.mk (zg hg (below_size (zw1 HB.out GE269.out)))
  have n5_ := Aside0.mk (zlt hg BK269.out)
  have n6_ := Aside0.mk (zgt hg BK269.out)
  clear BK269
  clear HB
  have BK269 := n0_
  have HB := n1_
  have BK272 := n2_
  have GW272 := n3_
  have GE272 := n4_
  have NB269_272 := n5_
  have NB272_269 := n6_
  clear n0_ n1_ n2_ n3_ n4_ n5_ n6_
  clear hb hbox hg
  refine hK.out _ _ ⟨((HB.out.cell (World.block_lt_of_cell? w _ hw270_0)).trans hw270_0), ((HB.out.cell (World.block_lt_of_cell? w _ hw270_1)).trans hw270_1), ((HB.out.cell (World.block_lt_of_cell? w _ hw270_2)).trans hw270_2), ((HB.out.cell (World.block_lt_of_cell? w _ hw270_3)).trans hw270_3), ((HB.out.cell (World.block_lt_of_cell? w _ hw270_4)).trans hw270_4), ((HB.out.cell (World.block_lt_of_cell? w _ hw271_0)).trans hw271_0), ((HB.out.cell (World.block_lt_of_cell? w _ hw271_1)).trans hw271_1), ((HB.out.cell (World.block_lt_of_cell? w _ hw271_2)).trans hw271_2), ((HB.out.cell (World.block_lt_of_cell? w _ hw271_3)).trans hw271_3), ((HB.out.cell (World.block_lt_of_cell? w _ hw271_4)).trans hw271_4)⟩ (fun hHeld => ?_)
  clear hK K
  refine norm_ (a' := ?_) ?_ ?_
  rotate_left
  ·show Act.put _ (some 4) _ = _
   simp only [Act.put, List.setIfInBounds_toArray, List.set_cons_zero, List.set_cons_succ, i64_w, i32_w]
   rfl
  refine one_ (i := 10) (N := none) #[true,true,true,true,true,true,true,true,true,true,true] rfl rfl (one_of HT_.out (by kernel_rfl)) (by decide) (fun K hK => ?_)
  have hs6 : w5.cell? ⟨gb272, 0, none⟩ = some (.bool false) := (blk_cell BK272.out 0).trans rfl
  have hfs6 := blk_frozen BK272.out 0
  have hns6_0 := NB269_272.out
  have hms6_0 := NB272_269.out
  have hs7 : w5.cell? ⟨gb272, 1, none⟩ = some (.int .i64 0) := (blk_cell BK272.out 1).trans rfl
  have hfs7 := blk_frozen BK272.out 1
  have hns7_0 := NB269_272.out
  have hms7_0 := NB272_269.out
  have hs8 : w5.cell? ⟨gb272, 2, none⟩ = some (.int .i64 0) := (blk_cell BK272.out 2).trans rfl
  have hfs8 := blk_frozen BK272.out 2
  have hns8_0 := NB269_272.out
  have hms8_0 := NB272_269.out
  have hs9 : w5.cell? ⟨gb272, 3, none⟩ = some (.int .i64 0) := (blk_cell BK272.out 3).trans rfl
  have hfs9 := blk_frozen BK272.out 3
  have hns9_0 := NB269_272.out
  have hms9_0 := NB272_269.out
  refine skip_ (w1 := ?_) (by rfl) rfl ?_ ?_
  rotate_left
  ·go_simp
   rfl
  refine hK.out _ _ ⟨((cell_far (p := ⟨gb272, _, none⟩) (zx (zfar hw270_0 GW272.out)) _).trans (((cell_far (p := ⟨gb272, _, none⟩) (zx (zfar hw270_0 GW272.out)) _).trans (((cell_far (p := ⟨gb272, _, none⟩) (zx (zfar hw270_0 GW272.out)) _).trans (((cell_far (p := ⟨gb272, _, none⟩) (zx (zfar hw270_0 GW272.out)) _).trans (hHeld.1)))))))), ((cell_far (p := ⟨gb272, _, none⟩) (zx (zfar hw270_1 GW272.out)) _).trans (((cell_far (p := ⟨gb272, _, none⟩) (zx (zfar hw270_1 GW272.out)) _).trans (((cell_far (p := ⟨gb272, _, none⟩) (zx (zfar hw270_1 GW272.out)) _).trans (((cell_far (p := ⟨gb272, _, none⟩) (zx (zfar hw270_1 GW272.out)) _).trans (hHeld.2.1)))))))), ((cell_far (p := ⟨gb272, _, none⟩) (zx (zfar hw270_2 GW272.out)) _).trans (((cell_far (p := ⟨gb272, _, none⟩) (zx (zfar hw270_2 GW272.out)) _).trans (((cell_far (p := ⟨gb272, _, none⟩) (zx (zfar hw270_2 GW272.out)) _).trans (((cell_far (p := ⟨gb272, _, none⟩) (zx (zfar hw270_2 GW272.out)) _).trans (hHeld.2.2.1)))))))), ((cell_far (p := ⟨gb272, _, none⟩) (zx (zfar hw270_3 GW272.out)) _).trans (((cell_far (p := ⟨gb272, _, none⟩) (zx (zfar hw270_3 GW272.out)) _).trans (((cell_far (p := ⟨gb272, _, none⟩) (zx (zfar hw270_3 GW272.out)) _).trans (((cell_far (p := ⟨gb272, _, none⟩) (zx (zfar hw270_3 GW272.out)) _).trans (hHeld.2.2.2.1)))))))), ((cell_far (p := ⟨gb272, _, none⟩) (zx (zfar hw270_4 GW272.out)) _).trans (((cell_far (p := ⟨gb272, _, none⟩) (zx (zfar hw270_4 GW272.out)) _).trans (((cell_far (p := ⟨gb272, _, none⟩) (zx (zfar hw270_4 GW272.out)) _).trans (((cell_far (p := ⟨gb272, _, none⟩) (zx (zfar hw270_4 GW272.out)) _).trans (hHeld.2.2.2.2.1)))))))), ((cell_far (p := ⟨gb272, _, none⟩) (zx (zfar hw271_0 GW272.out)) _).trans (((cell_far (p := ⟨gb272, _, none⟩) (zx (zfar hw271_0 GW272.out)) _).trans (((cell_far (p := ⟨gb272, _, none⟩) (zx (zfar hw271_0 GW272.out)) _).trans (((cell_far (p := ⟨gb272, _, none⟩) (zx (zfar hw271_0 GW272.out)) _).trans (hHeld.2.2.2.2.2.1)))))))), ((cell_far (p := ⟨gb272, _, none⟩) (zx (zfar hw271_1 GW272.out)) _).trans (((cell_far (p := ⟨gb272, _, none⟩) (zx (zfar hw271_1 GW272.out)) _).trans (((cell_far (p := ⟨gb272, _, none⟩) (zx (zfar hw271_1 GW272.out)) _).trans (((cell_far (p := ⟨gb272, _, none⟩) (zx (zfar hw271_1 GW272.out)) _).trans (hHeld.2.2.2.2.2.2.1)))))))), ((cell_far (p := ⟨gb272, _, none⟩) (zx (zfar hw271_2 GW272.out)) _).trans (((cell_far (p := ⟨gb272, _, none⟩) (zx (zfar hw271_2 GW272.out)) _).trans (((cell_far (p := ⟨gb272, _, none⟩) (zx (zfar hw271_2 GW272.out)) _).trans (((cell_far (p := ⟨gb272, _, none⟩) (zx (zfar hw271_2 GW272.out)) _).trans (hHeld.2.2.2.2.2.2.2.1)))))))), ((cell_far (p := ⟨gb272, _, none⟩) (zx (zfar hw271_3 GW272.out)) _).trans (((cell_far (p := ⟨gb272, _, none⟩) (zx (zfar hw271_3 GW272.out)) _).trans (((cell_far (p := ⟨gb272, _, none⟩) (zx (zfar hw271_3 GW272.out)) _).trans (((cell_far (p := ⟨gb272, _, none⟩) (zx (zfar hw271_3 GW272.out)) _).trans (hHeld.2.2.2.2.2.2.2.2.1)))))))), ((cell_far (p := ⟨gb272, _, none⟩) (zx (zfar hw271_4 GW272.out)) _).trans (((cell_far (p := ⟨gb272, _, none⟩) (zx (zfar hw271_4 GW272.out)) _).trans (((cell_far (p := ⟨gb272, _, none⟩) (zx (zfar hw271_4 GW272.out)) _).trans (((cell_far (p := ⟨gb272, _, none⟩) (zx (zfar hw271_4 GW272.out)) _).trans (hHeld.2.2.2.2.2.2.2.2.2))))))))⟩ (fun hHeld => ?_)
  clear hK K
  refine done_ (done_of HT_.out (by kernel_rfl)) ?_
  try go_wp2
  go_loopg [19] k (fun kq v19 w' => ∃ (x19_1 : Int) (x270000_1 : Bool) (x270001_1 : Int) (x270002_1 : Int) (x270003_1 : Int), v19 = .int .i64 x19_1 ∧ Aside0 (bytes_pointer.l0 kq l0 (l0.length : Int) x19_1 true 0 ((rd_T74 l0 0).f2) ((rd_T74 l0 0).f3) = some (r1, r2, r3, r4, r5)) ∧ Aside0 (kq ≤ k) ∧ Aside0 (w'.heap[gb269]? = some (.cells #[.bool x270000_1, .int .i64 x270001_1, .int .i64 x270002_1, .int .i64 x270003_1] 62 (0, 0))) ∧ Aside0 (w'.heap[gb272]? = some (.cells #[.bool true, .int .i64 0, .int .i64 ((rd_T74 l0 0).f2), .int .i64 ((rd_T74 l0 0).f3)] 62 (0, 0))) ∧ Aside0 (Below w.heap.size w w'))
  case atStart => exact ⟨(0), (false), (0), (0), (0), (zr), H', ⟨Nat.le_refl _⟩, ⟨zf1 BK269.out NB269_272.out⟩, ⟨by (with_reducible repeat (first | refine blk_drewN ?_ _ | refine blk_drew ?_ | refine blk_alloc ?_ _)); refine blk_put (cs := #[.bool true, .int .i64 0, .int .i64 ((rd_T74 l0 0).f2), .int .i64 0]) ?_ 3 _ rfl; (with_reducible repeat (first | refine blk_drewN ?_ _ | refine blk_drew ?_ | refine blk_alloc ?_ _)); refine blk_put (cs := #[.bool true, .int .i64 0, .int .i64 0, .int .i64 0]) ?_ 2 _ rfl; (with_reducible repeat (first | refine blk_drewN ?_ _ | refine blk_drew ?_ | refine blk_alloc ?_ _)); refine blk_put (cs := #[.bool true, .int .i64 0, .int .i64 0, .int .i64 0]) ?_ 1 _ rfl; (with_reducible repeat (first | refine blk_drewN ?_ _ | refine blk_drew ?_ | refine blk_alloc ?_ _)); refine blk_put (cs := #[.bool false, .int .i64 0, .int .i64 0, .int .i64 0]) ?_ 0 _ rfl; (with_reducible repeat (first | refine blk_drewN ?_ _ | refine blk_drew ?_ | refine blk_alloc ?_ _)); exact BK272.out⟩, ⟨zw2 HB.out GE269.out GE272.out⟩⟩
  case round =>
   clear H'
   try clear c1; try clear c2; try clear c2b0; try clear c2b1; try clear p2; try clear q2; try clear qi2; try clear p270; try clear p271; try clear q270; try clear q271
   obtain ⟨x19_1, x270000_1, x270001_1, x270002_1, x270003_1, rfl, HA, HK1, BK269, BK272, HB⟩ := hrel
   cases gk with
   | zero => exact absurd HA.out (by simp [bytes_pointer.l0])
   | succ k1 =>
    have H := HA.out
    clear HA
    simp only [bytes_pointer.l0] at H
    by_cases c10 : x19_1 < (l0.length : Int)
    rotate_left
    ·rw [if_neg c10] at H
     have c10b0 : decide (x19_1 < (l0.length : Int)) = false := decide_eq_false c10
     clear c10
     simp only [Option.some.injEq, Prod.mk.injEq] at H
     obtain ⟨rfl, rfl, rfl, rfl, rfl⟩ := H
     have hnb50 := NB272_269.out
     have hnc50 := NB269_272.out
     have hcz51_0 := zc BK272.out 0
     have hcz51_1 := zc BK272.out 1
     have hcz51_2 := zc BK272.out 2
     have hcz51_3 := zc BK272.out 3
     have hfz51_0 := blk_frozen BK272.out 0
     have hfz51_1 := blk_frozen BK272.out 1
     have hfz51_2 := blk_frozen BK272.out 2
     have hfz51_3 := blk_frozen BK272.out 3
     have hcz52_0 := zc BK269.out 0
     have hcz52_1 := zc BK269.out 1
     have hcz52_2 := zc BK269.out 2
     have hcz52_3 := zc BK269.out 3
     have hfz52_0 := blk_frozen BK269.out 0
     have hfz52_1 := blk_frozen BK269.out 1
     have hfz52_2 := blk_frozen BK269.out 2
     have hfz52_3 := blk_frozen BK269.out 3
     go_wp2
     refine bodyPost_ret (results_ct rfl _ _ gb269 62 #[.bool true, .int .i64 0, .int .i64 ((rd_T74 l0 0).f2), .int .i64 ((rd_T74 l0 0).f3)] (0, 0) _ rfl (by (with_reducible repeat (first | refine blk_drewN ?_ _ | refine blk_drew ?_ | refine blk_alloc ?_ _)); refine blk_put (cs := #[.bool true, .int .i64 0, .int .i64 ((rd_T74 l0 0).f2), .int .i64 x270003_1]) ?_ 3 _ rfl; (with_reducible repeat (first | refine blk_drewN ?_ _ | refine blk_drew ?_ | refine blk_alloc ?_ _)); refine blk_put (cs := #[.bool true, .int .i64 0, .int .i64 x270002_1, .int .i64 x270003_1]) ?_ 2 _ rfl; (with_reducible repeat (first | refine blk_drewN ?_ _ | refine blk_drew ?_ | refine blk_alloc ?_ _)); refine blk_put (cs := #[.bool true, .int .i64 x270001_1, .int .i64 x270002_1, .int .i64 x270003_1]) ?_ 1 _ rfl; (with_reducible repeat (first | refine blk_drewN ?_ _ | refine blk_drew ?_ | refine blk_alloc ?_ _)); refine blk_put (cs := #[.bool x270000_1, .int .i64 x270001_1, .int .i64 x270002_1, .int .i64 x270003_1]) ?_ 0 _ rfl; (with_reducible repeat (first | refine blk_drewN ?_ _ | refine blk_drew ?_ | refine blk_alloc ?_ _)); exact BK269.out) Try.underlying62 rfl (by kernel_rfl)) rfl ?_
     exact ⟨ze, zw2 HB.out GE269.out GE272.out⟩
    rw [if_pos c10] at H
    have c10b0 : decide (x19_1 < (l0.length : Int)) = true := decide_eq_true c10
    clear c10
    by_cases c11 : 0 ≤ x19_1
    rotate_left
    ·rw [if_neg c11] at H
     exact absurd H (by simp)
    rw [if_pos c11] at H
    have c11b0 : decide (0 ≤ x19_1) = true := decide_eq_true c11
    clear c11
    by_cases c12 : x19_1 < (l0.length : Int)
    rotate_left
    ·rw [if_neg c12] at H
     exact absurd H (by simp)
    rw [if_pos c12] at H
    have c12b0 : decide (x19_1 < (l0.length : Int)) = true := decide_eq_true c12
    clear c12
    have HC13 := Aside0.mk H
    clear H
    have p273 : 0 ≤ (x19_1 : Int) := zdec
    have q273 : x19_1 < (l0.length : Int) := zdec
    obtain ⟨ad273, e273, hx273_0, hx273_1, hx273_2, hx273_3, hx273_4⟩ := at_T74 HR0.out x19_1 p273 q273
    obtain rfl : ad270 = ad273 := (by injection e273)
    replace hx273_0 := zh HB.out hx273_0
    replace hx273_1 := zh HB.out hx273_1
    replace hx273_2 := zh HB.out hx273_2
    replace hx273_3 := zh HB.out hx273_3
    replace hx273_4 := zh HB.out hx273_4
    replace p273 := eq_true p273
    replace q273 := eq_true q273
    go_upto_if 27 with (first | ((with_reducible refine gate_dst (N := 6) rfl ?_); refine zbox (N := 6) (cs := #[.int .i64 0, .int .i64 0, .int .i64 0, .int .i64 0, .int .i64 0]) (t := 74) ?_; intro gb274 hg w14 hbox hb; have n0_ := Aside0.mk (zbb BK269.out hb); have n1_ := Aside0.mk (zbb BK272.out hb); have n2_ := Aside0.mk (below_step (zw2 HB.out GE269.out GE272.out) hb); have BK274 := Aside0.mk (hbox); have GW274 := Aside0.mk (zg hg (below_size (zw2 HB.out GE269.out GE272.out))); have GE274 := GW274; have NB269_274 := Aside0.mk (zlt hg BK269.out); have NB274_269 := Aside0.mk (zgt hg BK269.out); have NB272_274 := Aside0.mk (zlt hg BK272.out); have NB274_272 := Aside0.mk (zgt hg BK272.out); clear BK269 BK272 HB; have BK269 := n0_; have BK272 := n1_; have HB := n2_; clear n0_ n1_ n2_; clear hb hbox hg; have hnb15 := NB274_269.out; have hnc15 := NB269_274.out; have hnb16 := NB274_272.out; have hnc16 := NB272_274.out; have hcz17_0 := zc BK274.out 0; have hcz17_1 := zc BK274.out 1; have hcz17_2 := zc BK274.out 2; have hcz17_3 := zc BK274.out 3; have hcz17_4 := zc BK274.out 4; have hfz17_0 := blk_frozen BK274.out 0; have hfz17_1 := blk_frozen BK274.out 1; have hfz17_2 := blk_frozen BK274.out 2; have hfz17_3 := blk_frozen BK274.out 3; have hfz17_4 := blk_frozen BK274.out 4) | ((with_reducible refine gate_dst (N := 7) rfl ?_); refine zbox (N := 7) (cs := #[.int .i64 0, .int .i64 0, .int .i64 0, .int .i64 0, .int .i64 0]) (t := 74) ?_; intro gb275 hg w18 hbox hb; have n0_ := Aside0.mk (blk_below (g := gb269) (o := .cells #[.bool x270000_1, .int .i64 x270001_1, .int .i64 x270002_1, .int .i64 x270003_1] 62 (0, 0)) (zf1 BK269.out NB269_274.out) hb); have n1_ := Aside0.mk (blk_below (g := gb272) (o := .cells #[.bool true, .int .i64 0, .int .i64 ((rd_T74 l0 0).f2), .int .i64 ((rd_T74 l0 0).f3)] 62 (0, 0)) (zf1 BK272.out NB272_274.out) hb); have n2_ := Aside0.mk (blk_below (g := gb274) (o := .cells #[.int .i64 ((rd_T74 l0 x19_1).f0), .int .i64 ((rd_T74 l0 x19_1).f1), .int .i64 ((rd_T74 l0 x19_1).f2), .int .i64 ((rd_T74 l0 x19_1).f3), .int .i64 ((rd_T74 l0 x19_1).f4)] 74 (0, 0)) (by (with_reducible repeat (first | refine blk_drewN ?_ _ | refine blk_drew ?_ | refine blk_alloc ?_ _)); refine blk_put (cs := #[.int .i64 ((rd_T74 l0 x19_1).f0), .int .i64 ((rd_T74 l0 x19_1).f1), .int .i64 ((rd_T74 l0 x19_1).f2), .int .i64 ((rd_T74 l0 x19_1).f3), .int .i64 0]) ?_ 4 _ rfl; (with_reducible repeat (first | refine blk_drewN ?_ _ | refine blk_drew ?_ | refine blk_alloc ?_ _)); refine blk_put (cs := #[.int .i64 ((rd_T74 l0 x19_1).f0), .int .i64 ((rd_T74 l0 x19_1).f1), .int .i64 ((rd_T74 l0 x19_1).f2), .int .i64 0, .int .i64 0]) ?_ 3 _ rfl; (with_reducible repeat (first | refine blk_drewN ?_ _ | refine blk_drew ?_ | refine blk_alloc ?_ _)); refine blk_put (cs := #[.int .i64 ((rd_T74 l0 x19_1).f0), .int .i64 ((rd_T74 l0 x19_1).f1), .int .i64 0, .int .i64 0, .int .i64 0]) ?_ 2 _ rfl; (with_reducible repeat (first | refine blk_drewN ?_ _ | refine blk_drew ?_ | refine blk_alloc ?_ _)); refine blk_put (cs := #[.int .i64 ((rd_T74 l0 x19_1).f0), .int .i64 0, .int .i64 0, .int .i64 0, .int .i64 0]) ?_ 1 _ rfl; (with_reducible repeat (first | refine blk_drewN ?_ _ | refine blk_drew ?_ | refine blk_alloc ?_ _)); refine blk_put (cs := #[.int .i64 0, .int .i64 0, .int .i64 0, .int .i64 0, .int .i64 0]) ?_ 0 _ rfl; (with_reducible repeat (first | refine blk_drewN ?_ _ | refine blk_drew ?_ | refine blk_alloc ?_ _)); exact BK274.out) hb); have n3_ := Aside0.mk (below_step (zw3 HB.out GE269.out GE272.out GE274.out) hb); have BK275 := Aside0.mk (hbox); have GW275 := Aside0.mk (zg hg (below_size (zw3 HB.out GE269.out GE272.out GE274.out))); have GE275 := GW275; have NB269_275 := Aside0.mk ((by rw [hg]; exact Nat.ne_of_lt (blk_lt (g := gb269) (o := .cells #[.bool x270000_1, .int .i64 x270001_1, .int .i64 x270002_1, .int .i64 x270003_1] 62 (0, 0)) (zf1 BK269.out NB269_274.out)) : gb269 ≠ gb275)); have NB275_269 := Aside0.mk ((by rw [hg]; exact Nat.ne_of_gt (blk_lt (g := gb269) (o := .cells #[.bool x270000_1, .int .i64 x270001_1, .int .i64 x270002_1, .int .i64 x270003_1] 62 (0, 0)) (zf1 BK269.out NB269_274.out)) : gb275 ≠ gb269)); have NB272_275 := Aside0.mk ((by rw [hg]; exact Nat.ne_of_lt (blk_lt (g := gb272) (o := .cells #[.bool true, .int .i64 0, .int .i64 ((rd_T74 l0 0).f2), .int .i64 ((rd_T74 l0 0).f3)] 62 (0, 0)) (zf1 BK272.out NB272_274.out)) : gb272 ≠ gb275)); have NB275_272 := Aside0.mk ((by rw [hg]; exact Nat.ne_of_gt (blk_lt (g := gb272) (o := .cells #[.bool true, .int .i64 0, .int .i64 ((rd_T74 l0 0).f2), .int .i64 ((rd_T74 l0 0).f3)] 62 (0, 0)) (zf1 BK272.out NB272_274.out)) : gb275 ≠ gb272)); have NB274_275 := Aside0.mk ((by rw [hg]; exact Nat.ne_of_lt (blk_lt (g := gb274) (o := .cells #[.int .i64 ((rd_T74 l0 x19_1).f0), .int .i64 ((rd_T74 l0 x19_1).f1), .int .i64 ((rd_T74 l0 x19_1).f2), .int .i64 ((rd_T74 l0 x19_1).f3), .int .i64 ((rd_T74 l0 x19_1).f4)] 74 (0, 0)) (by (with_reducible repeat (first | refine blk_drewN ?_ _ | refine blk_drew ?_ | refine blk_alloc ?_ _)); refine blk_put (cs := #[.int .i64 ((rd_T74 l0 x19_1).f0), .int .i64 ((rd_T74 l0 x19_1).f1), .int .i64 ((rd_T74 l0 x19_1).f2), .int .i64 ((rd_T74 l0 x19_1).f3), .int .i64 0]) ?_ 4 _ rfl; (with_reducible repeat (first | refine blk_drewN ?_ _ | refine blk_drew ?_ | refine blk_alloc ?_ _)); refine blk_put (cs := #[.int .i64 ((rd_T74 l0 x19_1).f0), .int .i64 ((rd_T74 l0 x19_1).f1), .int .i64 ((rd_T74 l0 x19_1).f2), .int .i64 0, .int .i64 0]) ?_ 3 _ rfl; (with_reducible repeat (first | refine blk_drewN ?_ _ | refine blk_drew ?_ | refine blk_alloc ?_ _)); refine blk_put (cs := #[.int .i64 ((rd_T74 l0 x19_1).f0), .int .i64 ((rd_T74 l0 x19_1).f1), .int .i64 0, .int .i64 0, .int .i64 0]) ?_ 2 _ rfl; (with_reducible repeat (first | refine blk_drewN ?_ _ | refine blk_drew ?_ | refine blk_alloc ?_ _)); refine blk_put (cs := #[.int .i64 ((rd_T74 l0 x19_1).f0), .int .i64 0, .int .i64 0, .int .i64 0, .int .i64 0]) ?_ 1 _ rfl; (with_reducible repeat (first | refine blk_drewN ?_ _ | refine blk_drew ?_ | refine blk_alloc ?_ _)); refine blk_put (cs := #[.int .i64 0, .int .i64 0, .int .i64 0, .int .i64 0, .int .i64 0]) ?_ 0 _ rfl; (with_reducible repeat (first | refine blk_drewN ?_ _ | refine blk_drew ?_ | refine blk_alloc ?_ _)); exact BK274.out)) : gb274 ≠ gb275)); have NB275_274 := Aside0.mk ((by rw [hg]; exact Nat.ne_of_gt (blk_lt (g := gb274) (o := .cells #[.int .i64 ((rd_T74 l0 x19_1).f0), .int .i64 ((rd_T74 l0 x19_1).f1), .int .i64 ((rd_T74 l0 x19_1).f2), .int .i64 ((rd_T74 l0 x19_1).f3), .int .i64 ((rd_T74 l0 x19_1).f4)] 74 (0, 0)) (by (with_reducible repeat (first | refine blk_drewN ?_ _ | refine blk_drew ?_ | refine blk_alloc ?_ _)); refine blk_put (cs := #[.int .i64 ((rd_T74 l0 x19_1).f0), .int .i64 ((rd_T74 l0 x19_1).f1), .int .i64 ((rd_T74 l0 x19_1).f2), .int .i64 ((rd_T74 l0 x19_1).f3), .int .i64 0]) ?_ 4 _ rfl; (with_reducible repeat (first | refine blk_drewN ?_ _ | refine blk_drew ?_ | refine blk_alloc ?_ _)); refine blk_put (cs := #[.int .i64 ((rd_T74 l0 x19_1).f0), .int .i64 ((rd_T74 l0 x19_1).f1), .int .i64 ((rd_T74 l0 x19_1).f2), .int .i64 0, .int .i64 0]) ?_ 3 _ rfl; (with_reducible repeat (first | refine blk_drewN ?_ _ | refine blk_drew ?_ | refine blk_alloc ?_ _)); refine blk_put (cs := #[.int .i64 ((rd_T74 l0 x19_1).f0), .int .i64 ((rd_T74 l0 x19_1).f1), .int .i64 0, .int .i64 0, .int .i64 0]) ?_ 2 _ rfl; (with_reducible repeat (first | refine blk_drewN ?_ _ | refine blk_drew ?_ | refine blk_alloc ?_ _)); refine blk_put (cs := #[.int .i64 ((rd_T74 l0 x19_1).f0), .int .i64 0, .int .i64 0, .int .i64 0, .int .i64 0]) ?_ 1 _ rfl; (with_reducible repeat (first | refine blk_drewN ?_ _ | refine blk_drew ?_ | refine blk_alloc ?_ _)); refine blk_put (cs := #[.int .i64 0, .int .i64 0, .int .i64 0, .int .i64 0, .int .i64 0]) ?_ 0 _ rfl; (with_reducible repeat (first | refine blk_drewN ?_ _ | refine blk_drew ?_ | refine blk_alloc ?_ _)); exact BK274.out)) : gb275 ≠ gb274)); clear BK269 BK272 BK274 HB; have BK269 := n0_; have BK272 := n1_; have BK274 := n2_; have HB := n3_; clear n0_ n1_ n2_ n3_; clear hb hbox hg; have hnb19 := NB275_269.out; have hnc19 := NB269_275.out; have hnb20 := NB275_272.out; have hnc20 := NB272_275.out; have hnb21 := NB275_274.out; have hnc21 := NB274_275.out; have hcz22_0 := zc BK275.out 0; have hcz22_1 := zc BK275.out 1; have hcz22_2 := zc BK275.out 2; have hcz22_3 := zc BK275.out 3; have hcz22_4 := zc BK275.out 4; have hfz22_0 := blk_frozen BK275.out 0; have hfz22_1 := blk_frozen BK275.out 1; have hfz22_2 := blk_frozen BK275.out 2; have hfz22_3 := blk_frozen BK275.out 3; have hfz22_4 := blk_frozen BK275.out 4; have hnb23 := NB272_269.out; have hnc23 := NB269_272.out; have hcz24_0 := zc BK272.out 0; have hcz24_1 := zc BK272.out 1; have hcz24_2 := zc BK272.out 2; have hcz24_3 := zc BK272.out 3; have hfz24_0 := blk_frozen BK272.out 0; have hfz24_1 := blk_frozen BK272.out 1; have hfz24_2 := blk_frozen BK272.out 2; have hfz24_3 := blk_frozen BK272.out 3))
    (try simp only [Act.put, List.setIfInBounds_toArray, List.set_cons_zero, List.set_cons_succ])
    go_cut [] (fun wc => ∃ (kq : Nat) (x276000_12 : Int) (x276001_12 : Int) (x276002_12 : Int) (x276003_12 : Int) (x276004_12 : Int), Aside0 (bytes_pointer.j1 kq l0 (l0.length : Int) x19_1 true 0 ((rd_T74 l0 0).f2) ((rd_T74 l0 0).f3) ((rd_T74 l0 x19_1).f0) ((rd_T74 l0 x19_1).f1) ((rd_T74 l0 x19_1).f2) ((rd_T74 l0 x19_1).f3) ((rd_T74 l0 x19_1).f4) x276000_12 x276001_12 x276002_12 x276003_12 x276004_12 = some (r1, r2, r3, r4, r5)) ∧ Aside0 (kq ≤ k1) ∧ Aside0 (wc.heap[gb269]? = some (.cells #[.bool x270000_1, .int .i64 x270001_1, .int .i64 x270002_1, .int .i64 x270003_1] 62 (0, 0))) ∧ Aside0 (wc.heap[gb272]? = some (.cells #[.bool true, .int .i64 0, .int .i64 ((rd_T74 l0 0).f2), .int .i64 ((rd_T74 l0 0).f3)] 62 (0, 0))) ∧ Aside0 (wc.heap[gb274]? = some (.cells #[.int .i64 ((rd_T74 l0 x19_1).f0), .int .i64 ((rd_T74 l0 x19_1).f1), .int .i64 ((rd_T74 l0 x19_1).f2), .int .i64 ((rd_T74 l0 x19_1).f3), .int .i64 ((rd_T74 l0 x19_1).f4)] 74 (0, 0))) ∧ Aside0 (wc.heap[gb275]? = some (.cells #[.int .i64 x276000_12, .int .i64 x276001_12, .int .i64 x276002_12, .int .i64 x276003_12, .int .i64 x276004_12] 74 (0, 0))) ∧ Aside0 (Below w.heap.size w wc))
    case first =>
     have H := HC13.out
     clear HC13
     by_cases c25 : ((rd_T74 l0 0).f2) > 0
     rotate_left
     ·rw [if_neg c25] at H
      have c25b0 : decide (0 < ((rd_T74 l0 0).f2)) = false := decide_eq_false c25
      clear c25
      (first | rw [c25b0] | (simp only [i64_w, i32_w]; rw [c25b0]) | skip)
      have H' := Aside0.mk H
      clear H
      go_wp2
      go_meet
      case rel => exact ⟨_, (1), (0), (0), (0), (0), H', ⟨by have := HK1.out; first | omega | exact Nat.le_refl _⟩, ⟨zf1 BK269.out NB269_275.out⟩, ⟨zf1 BK272.out NB272_275.out⟩, ⟨zf1 BK274.out NB274_275.out⟩, ⟨by (with_reducible repeat (first | refine blk_drewN ?_ _ | refine blk_drew ?_ | refine blk_alloc ?_ _)); refine blk_put (cs := #[.int .i64 1, .int .i64 0, .int .i64 0, .int .i64 0, .int .i64 0]) ?_ 4 _ rfl; (with_reducible repeat (first | refine blk_drewN ?_ _ | refine blk_drew ?_ | refine blk_alloc ?_ _)); refine blk_put (cs := #[.int .i64 1, .int .i64 0, .int .i64 0, .int .i64 0, .int .i64 0]) ?_ 3 _ rfl; (with_reducible repeat (first | refine blk_drewN ?_ _ | refine blk_drew ?_ | refine blk_alloc ?_ _)); refine blk_put (cs := #[.int .i64 1, .int .i64 0, .int .i64 0, .int .i64 0, .int .i64 0]) ?_ 2 _ rfl; (with_reducible repeat (first | refine blk_drewN ?_ _ | refine blk_drew ?_ | refine blk_alloc ?_ _)); refine blk_put (cs := #[.int .i64 1, .int .i64 0, .int .i64 0, .int .i64 0, .int .i64 0]) ?_ 1 _ rfl; (with_reducible repeat (first | refine blk_drewN ?_ _ | refine blk_drew ?_ | refine blk_alloc ?_ _)); refine blk_put (cs := #[.int .i64 0, .int .i64 0, .int .i64 0, .int .i64 0, .int .i64 0]) ?_ 0 _ rfl; (with_reducible repeat (first | refine blk_drewN ?_ _ | refine blk_drew ?_ | refine blk_alloc ?_ _)); exact BK275.out⟩, ⟨zw4 HB.out GE269.out GE272.out GE274.out GE275.out⟩⟩
     rw [if_pos c25] at H
     have c25b0 : decide (0 < ((rd_T74 l0 0).f2)) = true := decide_eq_true c25
     clear c25
     (first | rw [c25b0] | (simp only [i64_w, i32_w]; rw [c25b0]) | skip)
     have H' := Aside0.mk H
     clear H
     have hnb26 := NB272_269.out
     have hnc26 := NB269_272.out
     have hnb27 := NB272_274.out
     have hnc27 := NB274_272.out
     have hnb28 := NB272_275.out
     have hnc28 := NB275_272.out
     have hcz29_0 := zc BK272.out 0
     have hcz29_1 := zc BK272.out 1
     have hcz29_2 := zc BK272.out 2
     have hcz29_3 := zc BK272.out 3
     have hfz29_0 := blk_frozen BK272.out 0
     have hfz29_1 := blk_frozen BK272.out 1
     have hfz29_2 := blk_frozen BK272.out 2
     have hfz29_3 := blk_frozen BK272.out 3
     have hnb30 := NB275_269.out
     have hnc30 := NB269_275.out
     have hnb31 := NB275_274.out
     have hnc31 := NB274_275.out
     have hcz32_0 := zc BK275.out 0
     have hcz32_1 := zc BK275.out 1
     have hcz32_2 := zc BK275.out 2
     have hcz32_3 := zc BK275.out 3
     have hcz32_4 := zc BK275.out 4
     have hfz32_0 := blk_frozen BK275.out 0
     have hfz32_1 := blk_frozen BK275.out 1
     have hfz32_2 := blk_frozen BK275.out 2
     have hfz32_3 := blk_frozen BK275.out 3
     have hfz32_4 := blk_frozen BK275.out 4
     go_wp2
     go_meet
     case rel => exact ⟨_, (2), (0), (((rd_T74 l0 0).f2)), (((rd_T74 l0 0).f3)), (x19_1), H', ⟨by have := HK1.out; first | omega | exact Nat.le_refl _⟩, ⟨zf1 BK269.out NB269_275.out⟩, ⟨zf1 BK272.out NB272_275.out⟩, ⟨zf1 BK274.out NB274_275.out⟩, ⟨by (with_reducible repeat (first | refine blk_drewN ?_ _ | refine blk_drew ?_ | refine blk_alloc ?_ _)); refine blk_put (cs := #[.int .i64 2, .int .i64 0, .int .i64 ((rd_T74 l0 0).f2), .int .i64 ((rd_T74 l0 0).f3), .int .i64 0]) ?_ 4 _ rfl; (with_reducible repeat (first | refine blk_drewN ?_ _ | refine blk_drew ?_ | refine blk_alloc ?_ _)); refine blk_put (cs := #[.int .i64 2, .int .i64 0, .int .i64 ((rd_T74 l0 0).f2), .int .i64 0, .int .i64 0]) ?_ 3 _ rfl; (with_reducible repeat (first | refine blk_drewN ?_ _ | refine blk_drew ?_ | refine blk_alloc ?_ _)); refine blk_put (cs := #[.int .i64 2, .int .i64 0, .int .i64 0, .int .i64 0, .int .i64 0]) ?_ 2 _ rfl; (with_reducible repeat (first | refine blk_drewN ?_ _ | refine blk_drew ?_ | refine blk_alloc ?_ _)); refine blk_put (cs := #[.int .i64 2, .int .i64 0, .int .i64 0, .int .i64 0, .int .i64 0]) ?_ 1 _ rfl; (with_reducible repeat (first | refine blk_drewN ?_ _ | refine blk_drew ?_ | refine blk_alloc ?_ _)); refine blk_put (cs := #[.int .i64 1, .int .i64 0, .int .i64 0, .int .i64 0, .int .i64 0]) ?_ 0 _ rfl; (with_reducible repeat (first | refine blk_drewN ?_ _ | refine blk_drew ?_ | refine blk_alloc ?_ _)); refine blk_put (cs := #[.int .i64 1, .int .i64 0, .int .i64 0, .int .i64 0, .int .i64 0]) ?_ 4 _ rfl; (with_reducible repeat (first | refine blk_drewN ?_ _ | refine blk_drew ?_ | refine blk_alloc ?_ _)); refine blk_put (cs := #[.int .i64 1, .int .i64 0, .int .i64 0, .int .i64 0, .int .i64 0]) ?_ 3 _ rfl; (with_reducible repeat (first | refine blk_drewN ?_ _ | refine blk_drew ?_ | refine blk_alloc ?_ _)); refine blk_put (cs := #[.int .i64 1, .int .i64 0, .int .i64 0, .int .i64 0, .int .i64 0]) ?_ 2 _ rfl; (with_reducible repeat (first | refine blk_drewN ?_ _ | refine blk_drew ?_ | refine blk_alloc ?_ _)); refine blk_put (cs := #[.int .i64 1, .int .i64 0, .int .i64 0, .int .i64 0, .int .i64 0]) ?_ 1 _ rfl; (with_reducible repeat (first | refine blk_drewN ?_ _ | refine blk_drew ?_ | refine blk_alloc ?_ _)); refine blk_put (cs := #[.int .i64 0, .int .i64 0, .int .i64 0, .int .i64 0, .int .i64 0]) ?_ 0 _ rfl; (with_reducible repeat (first | refine blk_drewN ?_ _ | refine blk_drew ?_ | refine blk_alloc ?_ _)); exact BK275.out⟩, ⟨zw4 HB.out GE269.out GE272.out GE274.out GE275.out⟩⟩
    case rest =>
     clear HC13
     try clear c1; try clear c2; try clear c2b0; try clear c2b1; try clear p2; try clear q2; try clear qi2; try clear c3; try clear c10; try clear c10b0; try clear c11; try clear c11b0; try clear c12; try clear c12b0; try clear c15; try clear c16; try clear c19; try clear c20; try clear c21; try clear c23; try clear c25; try clear c25b0; try clear c26; try clear c27; try clear p27; try clear q27; try clear qi27; try clear c28; try clear c30; try clear c31; try clear p2; try clear p270; try clear p271; try clear p273; try clear q2; try clear q270; try clear q271; try clear q273
     obtain ⟨kq, x276000_12, x276001_12, x276002_12, x276003_12, x276004_12, HA, HJ12, BK269, BK272, BK274, BK275, HB⟩ := hcut
     cases kq with
     | zero => exact absurd HA.out (by simp [bytes_pointer.j1])
     | succ kj12 =>
      have H := HA.out
      clear HA
      simp only [bytes_pointer.j1] at H
      by_cases c33 : (!(((rd_T74 l0 x19_1).f0) == x276000_12) || (!(((rd_T74 l0 x19_1).f1) == x276001_12) || (!(((rd_T74 l0 x19_1).f2) == x276002_12) || (!(((rd_T74 l0 x19_1).f3) == x276003_12) || (!(((rd_T74 l0 x19_1).f4) == x276004_12)))))) = true
      rotate_left
      ·rw [if_neg c33] at H
       have c33b0 : (!(((rd_T74 l0 x19_1).f0) == x276000_12) || (!(((rd_T74 l0 x19_1).f1) == x276001_12) || (!(((rd_T74 l0 x19_1).f2) == x276002_12) || (!(((rd_T74 l0 x19_1).f3) == x276003_12) || (!(((rd_T74 l0 x19_1).f4) == x276004_12)))))) = false := by simpa using c33
       clear c33
       have H' := Aside0.mk H
       clear H
       have hnb43 := NB274_269.out
       have hnc43 := NB269_274.out
       have hnb44 := NB274_272.out
       have hnc44 := NB272_274.out
       have hnb45 := NB274_275.out
       have hnc45 := NB275_274.out
       have hcz46_0 := zc BK274.out 0
       have hcz46_1 := zc BK274.out 1
       have hcz46_2 := zc BK274.out 2
       have hcz46_3 := zc BK274.out 3
       have hcz46_4 := zc BK274.out 4
       have hfz46_0 := blk_frozen BK274.out 0
       have hfz46_1 := blk_frozen BK274.out 1
       have hfz46_2 := blk_frozen BK274.out 2
       have hfz46_3 := blk_frozen BK274.out 3
       have hfz46_4 := blk_frozen BK274.out 4
       have hnb47 := NB275_269.out
       have hnc47 := NB269_275.out
       have hnb48 := NB275_272.out
       have hnc48 := NB272_275.out
       have hcz49_0 := zc BK275.out 0
       have hcz49_1 := zc BK275.out 1
       have hcz49_2 := zc BK275.out 2
       have hcz49_3 := zc BK275.out 3
       have hcz49_4 := zc BK275.out 4
       have hfz49_0 := blk_frozen BK275.out 0
       have hfz49_1 := blk_frozen BK275.out 1
       have hfz49_2 := blk_frozen BK275.out 2
       have hfz49_3 := blk_frozen BK275.out 3
       have hfz49_4 := blk_frozen BK275.out 4
       go_wp2
       go_roundg kj12
       case measure => have := HK1.out; have := HJ12.out; omega
       case rel => exact ⟨(wrap64 (x19_1 + 1)), (x270000_1), (x270001_1), (x270002_1), (x270003_1), (zr), H', ⟨by have := HK1.out; have := HJ12.out; omega⟩, ⟨zb BK269.out⟩, ⟨zb BK272.out⟩, ⟨zw4 HB.out GE269.out GE272.out GE274.out GE275.out⟩⟩
      rw [if_pos c33] at H
      have c33b0 : (!(((rd_T74 l0 x19_1).f0) == x276000_12) || (!(((rd_T74 l0 x19_1).f1) == x276001_12) || (!(((rd_T74 l0 x19_1).f2) == x276002_12) || (!(((rd_T74 l0 x19_1).f3) == x276003_12) || (!(((rd_T74 l0 x19_1).f4) == x276004_12)))))) = true := c33
      clear c33
      simp only [Option.some.injEq, Prod.mk.injEq] at H
      obtain ⟨rfl, rfl, rfl, rfl, rfl⟩ := H
      have hnb34 := NB274_269.out
      have hnc34 := NB269_274.out
      have hnb35 := NB274_272.out
      have hnc35 := NB272_274.out
      have hnb36 := NB274_275.out
      have hnc36 := NB275_274.out
      have hcz37_0 := zc BK274.out 0
      have hcz37_1 := zc BK274.out 1
      have hcz37_2 := zc BK274.out 2
      have hcz37_3 := zc BK274.out 3
      have hcz37_4 := zc BK274.out 4
      have hfz37_0 := blk_frozen BK274.out 0
      have hfz37_1 := blk_frozen BK274.out 1
      have hfz37_2 := blk_frozen BK274.out 2
      have hfz37_3 := blk_frozen BK274.out 3
      have hfz37_4 := blk_frozen BK274.out 4
      have hnb38 := NB275_269.out
      have hnc38 := NB269_275.out
      have hnb39 := NB275_272.out
      have hnc39 := NB272_275.out
      have hcz40_0 := zc BK275.out 0
      have hcz40_1 := zc BK275.out 1
      have hcz40_2 := zc BK275.out 2
      have hcz40_3 := zc BK275.out 3
      have hcz40_4 := zc BK275.out 4
      have hfz40_0 := blk_frozen BK275.out 0
      have hfz40_1 := blk_frozen BK275.out 1
      have hfz40_2 := blk_frozen BK275.out 2
      have hfz40_3 := blk_frozen BK275.out 3
      have hfz40_4 := blk_frozen BK275.out 4
      have hnb41 := NB269_272.out
      have hnc41 := NB272_269.out
      have hcz42_0 := zc BK269.out 0
      have hcz42_1 := zc BK269.out 1
      have hcz42_2 := zc BK269.out 2
      have hcz42_3 := zc BK269.out 3
      have hfz42_0 := blk_frozen BK269.out 0
      have hfz42_1 := blk_frozen BK269.out 1
      have hfz42_2 := blk_frozen BK269.out 2
      have hfz42_3 := blk_frozen BK269.out 3
      go_wp2
      refine bodyPost_ret (results_ct rfl _ _ gb269 62 #[.bool false, .int .i64 0, .int .i64 0, .int .i64 0] (0, 0) _ rfl (by (with_reducible repeat (first | refine blk_drewN ?_ _ | refine blk_drew ?_ | refine blk_alloc ?_ _)); refine blk_put (cs := #[.bool false, .int .i64 0, .int .i64 0, .int .i64 x270003_1]) ?_ 3 _ rfl; (with_reducible repeat (first | refine blk_drewN ?_ _ | refine blk_drew ?_ | refine blk_alloc ?_ _)); refine blk_put (cs := #[.bool false, .int .i64 0, .int .i64 x270002_1, .int .i64 x270003_1]) ?_ 2 _ rfl; (with_reducible repeat (first | refine blk_drewN ?_ _ | refine blk_drew ?_ | refine blk_alloc ?_ _)); refine blk_put (cs := #[.bool false, .int .i64 x270001_1, .int .i64 x270002_1, .int .i64 x270003_1]) ?_ 1 _ rfl; (with_reducible repeat (first | refine blk_drewN ?_ _ | refine blk_drew ?_ | refine blk_alloc ?_ _)); refine blk_put (cs := #[.bool x270000_1, .int .i64 x270001_1, .int .i64 x270002_1, .int .i64 x270003_1]) ?_ 0 _ rfl; (with_reducible repeat (first | refine blk_drewN ?_ _ | refine blk_drew ?_ | refine blk_alloc ?_ _)); exact BK269.out) Try.underlying62 rfl (by kernel_rfl)) rfl ?_
      exact ⟨ze, zw4 HB.out GE269.out GE272.out GE274.out GE275.out⟩
 ·rw [if_neg c2] at H
  exact absurd H (by simp)

end Go.Proofs.Ytjoplkillkhiaaa.St
