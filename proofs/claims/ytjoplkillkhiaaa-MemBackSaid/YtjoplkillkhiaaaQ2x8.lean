-- Written by this session's own edition of the print.
import Derived.Test.YtjoplkillkhiaaaQ2x0
import Derived.Test.YtjoplkillkhiaaaQ2x2
import Derived.Test.YtjoplkillkhiaaaYSq
import Derived.Test.YtjoplkillkhiaaaYSq2
import Derived.Test.YtjoplkillkhiaaaYSq3
namespace Go.Proofs.Ytjoplkillkhiaaa.Q2
open Go.RowKit Go.Proofs.Ytjoplkillkhiaaa.Fn Go.Proofs.YtjoplkillkhiaaaW.PrintWords Go.Proofs.YtjoplkillkhiaaaW.PrintLast Go.Proofs.YtjoplkillkhiaaaW.PrintMore
attribute [local go_sem] max2_int min2_int max_two min_two max_three min_three max_four min_four   -- for this text's walks alone
set_option linter.unusedVariables false
set_option linter.unusedSimpArgs false

attribute [local go_sem high] eqA74
/-! bytes_pointer -/
mutual
def bytes_pointer.l0 : Nat → List (S74) → Int → Int → Bool → Int → Int → Int → Option (Bool × Int × Int × Int × Int)
 | 0, _, _, _, _, _, _, _ => none
 | k + 1, x17, x18, x19, x183000, x183001, x183002, x183003 => if x19 < x18 then (if 0 ≤ x19 then (if x19 < (x17.length : Int) then (if x183002 > 0 then (bytes_pointer.j1 k x17 x18 x19 x183000 x183001 x183002 x183003 ((rd_T74 x17 x19).f0) ((rd_T74 x17 x19).f1) ((rd_T74 x17 x19).f2) ((rd_T74 x17 x19).f3) ((rd_T74 x17 x19).f4) 2 0 x183002 x183003 x19) else (bytes_pointer.j1 k x17 x18 x19 x183000 x183001 x183002 x183003 ((rd_T74 x17 x19).f0) ((rd_T74 x17 x19).f1) ((rd_T74 x17 x19).f2) ((rd_T74 x17 x19).f3) ((rd_T74 x17 x19).f4) 1 0 0 0 0)) else (none)) else (none)) else (some (x183000, x183001, x183002, x183003, 0))
def bytes_pointer.j1 : Nat → List (S74) → Int → Int → Bool → Int → Int → Int → Int → Int → Int → Int → Int → Int → Int → Int → Int → Int → Option (Bool × Int × Int × Int × Int)
 | 0, _, _, _, _, _, _, _, _, _, _, _, _, _, _, _, _, _ => none
 | k + 1, x17, x18, x19, x183000, x183001, x183002, x183003, x185000, x185001, x185002, x185003, x185004, x186000, x186001, x186002, x186003, x186004 => if (!(x185000 == x186000) || (!(x185001 == x186001) || (!(x185002 == x186002) || (!(x185003 == x186003) || (!(x185004 == x186004)))))) = true then (some (false, 0, 0, 0, 8)) else (bytes_pointer.l0 k x17 x18 (wrap64 (x19 + 1)) x183000 x183001 x183002 x183003)
end
def bytes_pointer.f (k : Nat) (l0 : List (S74)) : Option (Bool × Int × Int × Int × Int) := if 0 < (l0.length : Int) then (bytes_pointer.l0 k l0 (l0.length : Int) 0 true 0 ((rd_T74 l0 0).f2) ((rd_T74 l0 0).f3)) else (none)
theorem bytes_pointer.mono_l : ∀ k, (∀ y0 y1 y2 y3 y4 y5 y6, LeO (bytes_pointer.l0 k y0 y1 y2 y3 y4 y5 y6) (bytes_pointer.l0 (k + 1) y0 y1 y2 y3 y4 y5 y6)) ∧ (∀ y0 y1 y2 y3 y4 y5 y6 y7 y8 y9 y10 y11 y12 y13 y14 y15 y16, LeO (bytes_pointer.j1 k y0 y1 y2 y3 y4 y5 y6 y7 y8 y9 y10 y11 y12 y13 y14 y15 y16) (bytes_pointer.j1 (k + 1) y0 y1 y2 y3 y4 y5 y6 y7 y8 y9 y10 y11 y12 y13 y14 y15 y16))
 | 0 => ⟨fun _ _ _ _ _ _ _ r h => by simp [bytes_pointer.l0] at h, fun _ _ _ _ _ _ _ _ _ _ _ _ _ _ _ _ _ r h => by simp [bytes_pointer.j1] at h⟩
 | k + 1 => by
  obtain ⟨ih0, ih1⟩ := bytes_pointer.mono_l k
  refine ⟨?_, ?_⟩
  ·intro y0 y1 y2 y3 y4 y5 y6
   unfold bytes_pointer.l0
   repeat' first
   | (with_reducible apply ih0)
   | (with_reducible apply ih1)
   | (with_reducible apply LeO.refl)
   | (with_reducible apply LeO.none)
   | (with_reducible refine LeO.ite ?_ ?_)
   | (with_reducible refine LeO.bind ?_ (fun _ => ?_))
  ·intro y0 y1 y2 y3 y4 y5 y6 y7 y8 y9 y10 y11 y12 y13 y14 y15 y16
   unfold bytes_pointer.j1
   repeat' first
   | (with_reducible apply ih0)
   | (with_reducible apply ih1)
   | (with_reducible apply LeO.refl)
   | (with_reducible apply LeO.none)
   | (with_reducible refine LeO.ite ?_ ?_)
   | (with_reducible refine LeO.bind ?_ (fun _ => ?_))
theorem bytes_pointer.mono : ∀ a0 k, LeO (bytes_pointer.f k a0) (bytes_pointer.f (k + 1) a0) := by
 intro a0 k
 obtain ⟨ih0, ih1⟩ := bytes_pointer.mono_l k
 unfold bytes_pointer.f
 repeat' first
   | (with_reducible apply ih0)
   | (with_reducible apply ih1)
   | (with_reducible apply LeO.refl)
   | (with_reducible apply LeO.none)
   | (with_reducible refine LeO.ite ?_ ?_)
   | (with_reducible refine LeO.bind ?_ (fun _ => ?_))
def bytes_pointer.T1 : Bool × List (List Nat × List Nat) := (true, [([], []), ([0], [0]), ([1], [1]), ([2], [2]), ([], []), ([4], [4]), ([5], [5]), ([6], [6]), ([3, 7], [3, 7]), ([], []), ([9, 8, 0, 1, 2, 3, 4, 5, 6, 7, 8, 9], [8, 9])])
def bytes_pointer.B1 : List Nat := [0, 1, 3, 7, 0, 16, 48, 112, 255, 0, 1023]
theorem bytes_pointer.tab1 : rtab .any (opsOf Try.f120 1) = bytes_pointer.T1 := by kernel_rfl
theorem bytes_pointer.bits1 : waitsOk bytes_pointer.T1.2 bytes_pointer.B1 = true := by kernel_rfl
set_option maxHeartbeats 8000000 in
set_option maxRecDepth 100000 in
theorem bytes_pointer.calls (k : Nat) (A0 : Option Addr) (c0 : Nat) (l0 : List (S74)) (r1 : Bool) (r2 : Int) (r3 : Int) (r4 : Int) (r5 : Int) (w : World) (hr0 : Kd.C k74 w A0 l0.length l0) (hc0 : l0.length ≤ c0) (h : bytes_pointer.f k l0 = some (r1, r2, r3, r4, r5)) :
  Calls Try.prog 120 #[.slice A0 l0.length c0] w fun e w' => e = .returned (.tuple #[.agg #[.bool r1, .int .i64 r2, .int .i64 r3, .int .i64 r4], .int .i64 r5]) ∧ Below w.heap.size w w' := by
 have hu62 := Try.underlying62
 have hu74 := Try.underlying74
 have HR0 := Aside0.mk hr0
 have HC0 := Aside0.mk hc0
 clear hr0 hc0
 have HB := Aside0.mk (Below.refl w.heap.size w)
 have H : (if 0 < (l0.length : Int) then (bytes_pointer.l0 k l0 (l0.length : Int) 0 true 0 ((rd_T74 l0 0).f2) ((rd_T74 l0 0).f3)) else (none)) = some (r1, r2, r3, r4, r5) := h
 clear h
 by_cases c2 : 0 < (l0.length : Int)
 ·rw [if_pos c2] at H
  have c2b0 : decide (0 < (l0.length : Int)) = true := decide_eq_true c2
  have c2b1 : decide (0 < l0.length) = true := decide_eq_true (by omega)
  clear c2
  have H' := Aside0.mk H
  clear H
  go_enter Try.func120, Try.ntmps120
  try go_wp2_with (first | ((with_reducible refine gate_dst (N := 2) rfl ?_); refine zbox (N := 2) (cs := #[.bool false, .int .i64 0, .int .i64 0, .int .i64 0]) (t := 62) ?_; intro gb179 hg w3 hbox hb; have n0_ := Aside0.mk (below_step (zw0 HB.out) hb); have BK179 := Aside0.mk (hbox); have GW179 := Aside0.mk (zg hg (below_size (zw0 HB.out))); have GE179 := GW179; clear HB; have HB := n0_; clear n0_; clear hb hbox hg))
  have n0_ := Aside0.mk (blk_drew BK179.out)
  have n1_ := Aside0.mk (below_drew1 HB.out)
  clear BK179
  clear HB
  have BK179 := n0_
  have HB := n1_
  clear n0_ n1_
  have p180 : 0 ≤ (0 : Int) := (by omega)
  have q180 : 0 < (l0.length : Int) := zdec
  obtain ⟨ad180, e180, hx180_0, hx180_1, hx180_2, hx180_3, hx180_4⟩ := at_T74 HR0.out 0 p180 q180
  have hw180_4 := hx180_4
  (try rw [show ((0 : Int)).toNat = 0 from rfl] at hw180_4)
  (try rw [show 0 * 5 = 0 from rfl] at hw180_4)
  (try rw [Addr.add_zero'] at hw180_4)
  have hw180_3 := hx180_3
  (try rw [show ((0 : Int)).toNat = 0 from rfl] at hw180_3)
  (try rw [show 0 * 5 = 0 from rfl] at hw180_3)
  (try rw [Addr.add_zero'] at hw180_3)
  have hw180_2 := hx180_2
  (try rw [show ((0 : Int)).toNat = 0 from rfl] at hw180_2)
  (try rw [show 0 * 5 = 0 from rfl] at hw180_2)
  (try rw [Addr.add_zero'] at hw180_2)
  have hw180_1 := hx180_1
  (try rw [show ((0 : Int)).toNat = 0 from rfl] at hw180_1)
  (try rw [show 0 * 5 = 0 from rfl] at hw180_1)
  (try rw [Addr.add_zero'] at hw180_1)
  have hw180_0 := hx180_0
  (try rw [show ((0 : Int)).toNat = 0 from rfl] at hw180_0)
  (try rw [show 0 * 5 = 0 from rfl] at hw180_0)
  (try rw [Addr.add_zero'] at hw180_0)
  cases e180
  have qi180 : (0 < l0.length) = True := eq_true (by omega)
  (try rw [show ((0 : Int)).toNat = 0 from rfl] at hx180_0)
  (try rw [show 0 * 5 = 0 from rfl] at hx180_0)
  (try rw [Addr.add_zero'] at hx180_0)
  (try rw [show ((0 : Int)).toNat = 0 from rfl] at hx180_1)
  (try rw [show 0 * 5 = 0 from rfl] at hx180_1)
  (try rw [Addr.add_zero'] at hx180_1)
  (try rw [show ((0 : Int)).toNat = 0 from rfl] at hx180_2)
  (try rw [show 0 * 5 = 0 from rfl] at hx180_2)
  (try rw [Addr.add_zero'] at hx180_2)
  (try rw [show ((0 : Int)).toNat = 0 from rfl] at hx180_3)
  (try rw [show 0 * 5 = 0 from rfl] at hx180_3)
  (try rw [Addr.add_zero'] at hx180_3)
  (try rw [show ((0 : Int)).toNat = 0 from rfl] at hx180_4)
  (try rw [show 0 * 5 = 0 from rfl] at hx180_4)
  (try rw [Addr.add_zero'] at hx180_4)
  replace hx180_0 := zh HB.out hx180_0
  replace hx180_1 := zh HB.out hx180_1
  replace hx180_2 := zh HB.out hx180_2
  replace hx180_3 := zh HB.out hx180_3
  replace hx180_4 := zh HB.out hx180_4
  replace p180 := eq_true p180
  replace q180 := eq_true q180
  have p181 : 0 ≤ (0 : Int) := (by omega)
  have q181 : 0 < (l0.length : Int) := zdec
  obtain ⟨ad181, e181, hx181_0, hx181_1, hx181_2, hx181_3, hx181_4⟩ := at_T74 HR0.out 0 p181 q181
  have hw181_4 := hx181_4
  (try rw [show ((0 : Int)).toNat = 0 from rfl] at hw181_4)
  (try rw [show 0 * 5 = 0 from rfl] at hw181_4)
  (try rw [Addr.add_zero'] at hw181_4)
  have hw181_3 := hx181_3
  (try rw [show ((0 : Int)).toNat = 0 from rfl] at hw181_3)
  (try rw [show 0 * 5 = 0 from rfl] at hw181_3)
  (try rw [Addr.add_zero'] at hw181_3)
  have hw181_2 := hx181_2
  (try rw [show ((0 : Int)).toNat = 0 from rfl] at hw181_2)
  (try rw [show 0 * 5 = 0 from rfl] at hw181_2)
  (try rw [Addr.add_zero'] at hw181_2)
  have hw181_1 := hx181_1
  (try rw [show ((0 : Int)).toNat = 0 from rfl] at hw181_1)
  (try rw [show 0 * 5 = 0 from rfl] at hw181_1)
  (try rw [Addr.add_zero'] at hw181_1)
  have hw181_0 := hx181_0
  (try rw [show ((0 : Int)).toNat = 0 from rfl] at hw181_0)
  (try rw [show 0 * 5 = 0 from rfl] at hw181_0)
  (try rw [Addr.add_zero'] at hw181_0)
  obtain rfl : ad180 = ad181 := (by injection e181)
  have qi181 : (0 < l0.length) = True := eq_true (by omega)
  (try rw [show ((0 : Int)).toNat = 0 from rfl] at hx181_0)
  (try rw [show 0 * 5 = 0 from rfl] at hx181_0)
  (try rw [Addr.add_zero'] at hx181_0)
  (try rw [show ((0 : Int)).toNat = 0 from rfl] at hx181_1)
  (try rw [show 0 * 5 = 0 from rfl] at hx181_1)
  (try rw [Addr.add_zero'] at hx181_1)
  (try rw [show ((0 : Int)).toNat = 0 from rfl] at hx181_2)
  (try rw [show 0 * 5 = 0 from rfl] at hx181_2)
  (try rw [Addr.add_zero'] at hx181_2)
  (try rw [show ((0 : Int)).toNat = 0 from rfl] at hx181_3)
  (try rw [show 0 * 5 = 0 from rfl] at hx181_3)
  (try rw [Addr.add_zero'] at hx181_3)
  (try rw [show ((0 : Int)).toNat = 0 from rfl] at hx181_4)
  (try rw [show 0 * 5 = 0 from rfl] at hx181_4)
  (try rw [Addr.add_zero'] at hx181_4)
  replace hx181_0 := zh HB.out hx181_0
  replace hx181_1 := zh HB.out hx181_1
  replace hx181_2 := zh HB.out hx181_2
  replace hx181_3 := zh HB.out hx181_3
  replace hx181_4 := zh HB.out hx181_4
  replace p181 := eq_true p181
  replace q181 := eq_true q181
  refine start_ (n := 11) (S := fun w' => w'.cell? ad180 = some (.int .i64 ((rd_T74 l0 0).f0)) ∧ w'.cell? ⟨ad180.block, ad180.off + 1, none⟩ = some (.int .i64 ((rd_T74 l0 0).f1)) ∧ w'.cell? ⟨ad180.block, ad180.off + 2, none⟩ = some (.int .i64 ((rd_T74 l0 0).f2)) ∧ w'.cell? ⟨ad180.block, ad180.off + 3, none⟩ = some (.int .i64 ((rd_T74 l0 0).f3)) ∧ w'.cell? ⟨ad180.block, ad180.off + 4, none⟩ = some (.int .i64 ((rd_T74 l0 0).f4)) ∧ w'.cell? ad180 = some (.int .i64 ((rd_T74 l0 0).f0)) ∧ w'.cell? ⟨ad180.block, ad180.off + 1, none⟩ = some (.int .i64 ((rd_T74 l0 0).f1)) ∧ w'.cell? ⟨ad180.block, ad180.off + 2, none⟩ = some (.int .i64 ((rd_T74 l0 0).f2)) ∧ w'.cell? ⟨ad180.block, ad180.off + 3, none⟩ = some (.int .i64 ((rd_T74 l0 0).f3)) ∧ w'.cell? ⟨ad180.block, ad180.off + 4, none⟩ = some (.int .i64 ((rd_T74 l0 0).f4))) (ds := []) #[false,false,false,false,false,false,false,false,false,false,false] (by kernel_rfl) rfl rfl ⟨((HB.out.cell (World.block_lt_of_cell? w _ hw180_0)).trans hw180_0), ((HB.out.cell (World.block_lt_of_cell? w _ hw180_1)).trans hw180_1), ((HB.out.cell (World.block_lt_of_cell? w _ hw180_2)).trans hw180_2), ((HB.out.cell (World.block_lt_of_cell? w _ hw180_3)).trans hw180_3), ((HB.out.cell (World.block_lt_of_cell? w _ hw180_4)).trans hw180_4), ((HB.out.cell (World.block_lt_of_cell? w _ hw181_0)).trans hw181_0), ((HB.out.cell (World.block_lt_of_cell? w _ hw181_1)).trans hw181_1), ((HB.out.cell (World.block_lt_of_cell? w _ hw181_2)).trans hw181_2), ((HB.out.cell (World.block_lt_of_cell? w _ hw181_3)).trans hw181_3), ((HB.out.cell (World.block_lt_of_cell? w _ hw181_4)).trans hw181_4)⟩ (fun hHeld => ?_); refine with_tabW bytes_pointer.tab1 bytes_pointer.bits1 (fun HT_ HW_ => ?_)
  generalize w3.drew = w4 at BK179 HB hx180_0 hx180_1 hx180_2 hx180_3 hx180_4 hx181_0 hx181_1 hx181_2 hx181_3 hx181_4 hHeld ⊢
  refine zq 0 (some 8) HT_ ?_; refine zq 1 (some 9) HT_ ?_; refine zq 2 (some 10) HT_ ?_; refine zq 4 (some 12) HT_ ?_; refine zq 5 (some 13) HT_ ?_; refine zq 6 (some 14) HT_ ?_; refine zt 3 (some 11) HT_ HW_ hHeld ?_; refine zt 7 (some 15) HT_ HW_ hHeld ?_; refine zq 8 (some 16) HT_ ?_
  refine one_ (i := 9) (N := some 4) #[true,true,true,true,true,true,true,true,true,true,false] rfl rfl (one_of HT_.out (by kernel_rfl)) (by decide) (fun K hK => ?_)
  refine box_step ?hg (N := 4) ?hd (cs := #[.bool false, .int .i64 0, .int .i64 0, .int .i64 0]) (t := 62) ?hr ?_; (case hd => rfl); (case hg => rfl); (case hr => first | (go_simp; done) | (go_simp; rfl))
  intro gb182 hg w5 hbox hb
  have n0_ := Aside0.mk (zbb BK179.out hb)
  have n1_ := Aside0.mk (below_step (zw1 HB.out GE179.out) hb)
  have n2_ := Aside0.mk (hbox)
  have n3_ := Aside0.mk (zg hg (below_size (zw1 HB.out GE179.out)))
  have n4_ := Aside0.mk (zg hg (below_size (zw1 HB.out GE179.out)))
  have n5_ := Aside0.mk (zlt hg BK179.out)
  have n6_ := Aside0.mk (zgt hg BK179.out)
  clear BK179
  clear HB
  have BK179 := n0_
  have HB := n1_
  have BK182 := n2_
  have GW182 := n3_
  have GE182 := n4_
  have NB179_182 := n5_
  have NB182_179 := n6_
  clear n0_ n1_ n2_ n3_ n4_ n5_ n6_
  clear hb hbox hg
  refine hK.out _ _ ⟨((HB.out.cell (World.block_lt_of_cell? w _ hw180_0)).trans hw180_0), ((HB.out.cell (World.block_lt_of_cell? w _ hw180_1)).trans hw180_1), ((HB.out.cell (World.block_lt_of_cell? w _ hw180_2)).trans hw180_2), ((HB.out.cell (World.block_lt_of_cell? w _ hw180_3)).trans hw180_3), ((HB.out.cell (World.block_lt_of_cell? w _ hw180_4)).trans hw180_4), ((HB.out.cell (World.block_lt_of_cell? w _ hw181_0)).trans hw181_0), ((HB.out.cell (World.block_lt_of_cell? w _ hw181_1)).trans hw181_1), ((HB.out.cell (World.block_lt_of_cell? w _ hw181_2)).trans hw181_2), ((HB.out.cell (World.block_lt_of_cell? w _ hw181_3)).trans hw181_3), ((HB.out.cell (World.block_lt_of_cell? w _ hw181_4)).trans hw181_4)⟩ (fun hHeld => ?_)
  clear hK K
  refine norm_ (a' := ?_) ?_ ?_
  rotate_left
  ·show Act.put _ (some 4) _ = _
   simp only [Act.put, List.setIfInBounds_toArray, List.set_cons_zero, List.set_cons_succ, i64_w, i32_w]
   rfl
  refine one_ (i := 10) (N := none) #[true,true,true,true,true,true,true,true,true,true,true] rfl rfl (one_of HT_.out (by kernel_rfl)) (by decide) (fun K hK => ?_)
  have hs6 : w5.cell? ⟨gb182, 0, none⟩ = some (.bool false) := (blk_cell BK182.out 0).trans rfl
  have hfs6 := blk_frozen BK182.out 0
  have hns6_0 := NB179_182.out
  have hms6_0 := NB182_179.out
  have hs7 : w5.cell? ⟨gb182, 1, none⟩ = some (.int .i64 0) := (blk_cell BK182.out 1).trans rfl
  have hfs7 := blk_frozen BK182.out 1
  have hns7_0 := NB179_182.out
  have hms7_0 := NB182_179.out
  have hs8 : w5.cell? ⟨gb182, 2, none⟩ = some (.int .i64 0) := (blk_cell BK182.out 2).trans rfl
  have hfs8 := blk_frozen BK182.out 2
  have hns8_0 := NB179_182.out
  have hms8_0 := NB182_179.out
  have hs9 : w5.cell? ⟨gb182, 3, none⟩ = some (.int .i64 0) := (blk_cell BK182.out 3).trans rfl
  have hfs9 := blk_frozen BK182.out 3
  have hns9_0 := NB179_182.out
  have hms9_0 := NB182_179.out
  refine skip_ (w1 := ?_) (by rfl) rfl ?_ ?_
  rotate_left
  ·go_simp
   rfl
  refine hK.out _ _ ⟨((cell_far (p := ⟨gb182, _, none⟩) (zx (zfar hw180_0 GW182.out)) _).trans (((cell_far (p := ⟨gb182, _, none⟩) (zx (zfar hw180_0 GW182.out)) _).trans (((cell_far (p := ⟨gb182, _, none⟩) (zx (zfar hw180_0 GW182.out)) _).trans (((cell_far (p := ⟨gb182, _, none⟩) (zx (zfar hw180_0 GW182.out)) _).trans (hHeld.1)))))))), ((cell_far (p := ⟨gb182, _, none⟩) (zx (zfar hw180_1 GW182.out)) _).trans (((cell_far (p := ⟨gb182, _, none⟩) (zx (zfar hw180_1 GW182.out)) _).trans (((cell_far (p := ⟨gb182, _, none⟩) (zx (zfar hw180_1 GW182.out)) _).trans (((cell_far (p := ⟨gb182, _, none⟩) (zx (zfar hw180_1 GW182.out)) _).trans (hHeld.2.1)))))))), ((cell_far (p := ⟨gb182, _, none⟩) (zx (zfar hw180_2 GW182.out)) _).trans (((cell_far (p := ⟨gb182, _, none⟩) (zx (zfar hw180_2 GW182.out)) _).trans (((cell_far (p := ⟨gb182, _, none⟩) (zx (zfar hw180_2 GW182.out)) _).trans (((cell_far (p := ⟨gb182, _, none⟩) (zx (zfar hw180_2 GW182.out)) _).trans (hHeld.2.2.1)))))))), ((cell_far (p := ⟨gb182, _, none⟩) (zx (zfar hw180_3 GW182.out)) _).trans (((cell_far (p := ⟨gb182, _, none⟩) (zx (zfar hw180_3 GW182.out)) _).trans (((cell_far (p := ⟨gb182, _, none⟩) (zx (zfar hw180_3 GW182.out)) _).trans (((cell_far (p := ⟨gb182, _, none⟩) (zx (zfar hw180_3 GW182.out)) _).trans (hHeld.2.2.2.1)))))))), ((cell_far (p := ⟨gb182, _, none⟩) (zx (zfar hw180_4 GW182.out)) _).trans (((cell_far (p := ⟨gb182, _, none⟩) (zx (zfar hw180_4 GW182.out)) _).trans (((cell_far (p := ⟨gb182, _, none⟩) (zx (zfar hw180_4 GW182.out)) _).trans (((cell_far (p := ⟨gb182, _, none⟩) (zx (zfar hw180_4 GW182.out)) _).trans (hHeld.2.2.2.2.1)))))))), ((cell_far (p := ⟨gb182, _, none⟩) (zx (zfar hw181_0 GW182.out)) _).trans (((cell_far (p := ⟨gb182, _, none⟩) (zx (zfar hw181_0 GW182.out)) _).trans (((cell_far (p := ⟨gb182, _, none⟩) (zx (zfar hw181_0 GW182.out)) _).trans (((cell_far (p := ⟨gb182, _, none⟩) (zx (zfar hw181_0 GW182.out)) _).trans (hHeld.2.2.2.2.2.1)))))))), ((cell_far (p := ⟨gb182, _, none⟩) (zx (zfar hw181_1 GW182.out)) _).trans (((cell_far (p := ⟨gb182, _, none⟩) (zx (zfar hw181_1 GW182.out)) _).trans (((cell_far (p := ⟨gb182, _, none⟩) (zx (zfar hw181_1 GW182.out)) _).trans (((cell_far (p := ⟨gb182, _, none⟩) (zx (zfar hw181_1 GW182.out)) _).trans (hHeld.2.2.2.2.2.2.1)))))))), ((cell_far (p := ⟨gb182, _, none⟩) (zx (zfar hw181_2 GW182.out)) _).trans (((cell_far (p := ⟨gb182, _, none⟩) (zx (zfar hw181_2 GW182.out)) _).trans (((cell_far (p := ⟨gb182, _, none⟩) (zx (zfar hw181_2 GW182.out)) _).trans (((cell_far (p := ⟨gb182, _, none⟩) (zx (zfar hw181_2 GW182.out)) _).trans (hHeld.2.2.2.2.2.2.2.1)))))))), ((cell_far (p := ⟨gb182, _, none⟩) (zx (zfar hw181_3 GW182.out)) _).trans (((cell_far (p := ⟨gb182, _, none⟩) (zx (zfar hw181_3 GW182.out)) _).trans (((cell_far (p := ⟨gb182, _, none⟩) (zx (zfar hw181_3 GW182.out)) _).trans (((cell_far (p := ⟨gb182, _, none⟩) (zx (zfar hw181_3 GW182.out)) _).trans (hHeld.2.2.2.2.2.2.2.2.1)))))))), ((cell_far (p := ⟨gb182, _, none⟩) (zx (zfar hw181_4 GW182.out)) _).trans (((cell_far (p := ⟨gb182, _, none⟩) (zx (zfar hw181_4 GW182.out)) _).trans (((cell_far (p := ⟨gb182, _, none⟩) (zx (zfar hw181_4 GW182.out)) _).trans (((cell_far (p := ⟨gb182, _, none⟩) (zx (zfar hw181_4 GW182.out)) _).trans (hHeld.2.2.2.2.2.2.2.2.2))))))))⟩ (fun hHeld => ?_)
  clear hK K
  refine done_ (done_of HT_.out (by kernel_rfl)) ?_
  try go_wp2
  go_loopg [19] k (fun kq v19 w' => ∃ (x19_1 : Int) (x180000_1 : Bool) (x180001_1 : Int) (x180002_1 : Int) (x180003_1 : Int), v19 = .int .i64 x19_1 ∧ Aside0 (bytes_pointer.l0 kq l0 (l0.length : Int) x19_1 true 0 ((rd_T74 l0 0).f2) ((rd_T74 l0 0).f3) = some (r1, r2, r3, r4, r5)) ∧ Aside0 (kq ≤ k) ∧ Aside0 (w'.heap[gb179]? = some (.cells #[.bool x180000_1, .int .i64 x180001_1, .int .i64 x180002_1, .int .i64 x180003_1] 62 (0, 0))) ∧ Aside0 (w'.heap[gb182]? = some (.cells #[.bool true, .int .i64 0, .int .i64 ((rd_T74 l0 0).f2), .int .i64 ((rd_T74 l0 0).f3)] 62 (0, 0))) ∧ Aside0 (Below w.heap.size w w'))
  case atStart => exact ⟨(0), (false), (0), (0), (0), (zr), H', ⟨Nat.le_refl _⟩, ⟨zf1 BK179.out NB179_182.out⟩, ⟨by (with_reducible repeat (first | refine blk_drewN ?_ _ | refine blk_drew ?_ | refine blk_alloc ?_ _)); refine blk_put (cs := #[.bool true, .int .i64 0, .int .i64 ((rd_T74 l0 0).f2), .int .i64 0]) ?_ 3 _ rfl; (with_reducible repeat (first | refine blk_drewN ?_ _ | refine blk_drew ?_ | refine blk_alloc ?_ _)); refine blk_put (cs := #[.bool true, .int .i64 0, .int .i64 0, .int .i64 0]) ?_ 2 _ rfl; (with_reducible repeat (first | refine blk_drewN ?_ _ | refine blk_drew ?_ | refine blk_alloc ?_ _)); refine blk_put (cs := #[.bool true, .int .i64 0, .int .i64 0, .int .i64 0]) ?_ 1 _ rfl; (with_reducible repeat (first | refine blk_drewN ?_ _ | refine blk_drew ?_ | refine blk_alloc ?_ _)); refine blk_put (cs := #[.bool false, .int .i64 0, .int .i64 0, .int .i64 0]) ?_ 0 _ rfl; (with_reducible repeat (first | refine blk_drewN ?_ _ | refine blk_drew ?_ | refine blk_alloc ?_ _)); exact BK182.out⟩, ⟨zw2 HB.out GE179.out GE182.out⟩⟩
  case round =>
   clear H'
   try clear c1; try clear p1; try clear q1; try clear qi1; try clear c2; try clear c2b0; try clear c2b1; try clear p2; try clear p180; try clear p181; try clear q180; try clear q181
   obtain ⟨x19_1, x180000_1, x180001_1, x180002_1, x180003_1, rfl, HA, HK1, BK179, BK182, HB⟩ := hrel
   cases gk with
   | zero => exact absurd HA.out (by simp [bytes_pointer.l0])
   | succ k1 =>
    have H := HA.out
    clear HA
    simp only [bytes_pointer.l0] at H
    by_cases c10 : x19_1 < (l0.length : Int)
    rotate_left
    ·rw [if_neg c10] at H
     have c10b0 : decide (x19_1 < (l0.length : Int)) = false := decide_eq_false c10
     clear c10
     simp only [Option.some.injEq, Prod.mk.injEq] at H
     obtain ⟨rfl, rfl, rfl, rfl, rfl⟩ := H
     have hnb50 := NB182_179.out
     have hnc50 := NB179_182.out
     have hcz51_0 := zc BK182.out 0
     have hcz51_1 := zc BK182.out 1
     have hcz51_2 := zc BK182.out 2
     have hcz51_3 := zc BK182.out 3
     have hfz51_0 := blk_frozen BK182.out 0
     have hfz51_1 := blk_frozen BK182.out 1
     have hfz51_2 := blk_frozen BK182.out 2
     have hfz51_3 := blk_frozen BK182.out 3
     have hcz52_0 := zc BK179.out 0
     have hcz52_1 := zc BK179.out 1
     have hcz52_2 := zc BK179.out 2
     have hcz52_3 := zc BK179.out 3
     have hfz52_0 := blk_frozen BK179.out 0
     have hfz52_1 := blk_frozen BK179.out 1
     have hfz52_2 := blk_frozen BK179.out 2
     have hfz52_3 := blk_frozen BK179.out 3
     go_wp2
     refine bodyPost_ret (results_ct rfl _ _ gb179 62 #[.bool true, .int .i64 0, .int .i64 ((rd_T74 l0 0).f2), .int .i64 ((rd_T74 l0 0).f3)] (0, 0) _ rfl (by (with_reducible repeat (first | refine blk_drewN ?_ _ | refine blk_drew ?_ | refine blk_alloc ?_ _)); refine blk_put (cs := #[.bool true, .int .i64 0, .int .i64 ((rd_T74 l0 0).f2), .int .i64 x180003_1]) ?_ 3 _ rfl; (with_reducible repeat (first | refine blk_drewN ?_ _ | refine blk_drew ?_ | refine blk_alloc ?_ _)); refine blk_put (cs := #[.bool true, .int .i64 0, .int .i64 x180002_1, .int .i64 x180003_1]) ?_ 2 _ rfl; (with_reducible repeat (first | refine blk_drewN ?_ _ | refine blk_drew ?_ | refine blk_alloc ?_ _)); refine blk_put (cs := #[.bool true, .int .i64 x180001_1, .int .i64 x180002_1, .int .i64 x180003_1]) ?_ 1 _ rfl; (with_reducible repeat (first | refine blk_drewN ?_ _ | refine blk_drew ?_ | refine blk_alloc ?_ _)); refine blk_put (cs := #[.bool x180000_1, .int .i64 x180001_1, .int .i64 x180002_1, .int .i64 x180003_1]) ?_ 0 _ rfl; (with_reducible repeat (first | refine blk_drewN ?_ _ | refine blk_drew ?_ | refine blk_alloc ?_ _)); exact BK179.out) Try.underlying62 rfl (by kernel_rfl)) rfl ?_
     exact ⟨ze, zw2 HB.out GE179.out GE182.out⟩
    rw [if_pos c10] at H
    have c10b0 : decide (x19_1 < (l0.length : Int)) = true := decide_eq_true c10
    clear c10
    by_cases c11 : 0 ≤ x19_1
    rotate_left
    ·rw [if_neg c11] at H
     exact absurd H (by simp)
    rw [if_pos c11] at H
    have c11b0 : decide (0 ≤ x19_1) = true := decide_eq_true c11
    clear c11
    by_cases c12 : x19_1 < (l0.length : Int)
    rotate_left
    ·rw [if_neg c12] at H
     exact absurd H (by simp)
    rw [if_pos c12] at H
    have c12b0 : decide (x19_1 < (l0.length : Int)) = true := decide_eq_true c12
    clear c12
    have HC13 := Aside0.mk H
    clear H
    have p183 : 0 ≤ (x19_1 : Int) := zdec
    have q183 : x19_1 < (l0.length : Int) := zdec
    obtain ⟨ad183, e183, hx183_0, hx183_1, hx183_2, hx183_3, hx183_4⟩ := at_T74 HR0.out x19_1 p183 q183
    obtain rfl : ad180 = ad183 := (by injection e183)
    replace hx183_0 := zh HB.out hx183_0
    replace hx183_1 := zh HB.out hx183_1
    replace hx183_2 := zh HB.out hx183_2
    replace hx183_3 := zh HB.out hx183_3
    replace hx183_4 := zh HB.out hx183_4
    replace p183 := eq_true p183
    replace q183 := eq_true q183
    go_upto_if 27 with (first | ((with_reducible refine gate_dst (N := 6) rfl ?_); refine zbox (N := 6) (cs := #[.int .i64 0, .int .i64 0, .int .i64 0, .int .i64 0, .int .i64 0]) (t := 74) ?_; intro gb184 hg w14 hbox hb; have n0_ := Aside0.mk (zbb BK179.out hb); have n1_ := Aside0.mk (zbb BK182.out hb); have n2_ := Aside0.mk (below_step (zw2 HB.out GE179.out GE182.out) hb); have BK184 := Aside0.mk (hbox); have GW184 := Aside0.mk (zg hg (below_size (zw2 HB.out GE179.out GE182.out))); have GE184 := GW184; have NB179_184 := Aside0.mk (zlt hg BK179.out); have NB184_179 := Aside0.mk (zgt hg BK179.out); have NB182_184 := Aside0.mk (zlt hg BK182.out); have NB184_182 := Aside0.mk (zgt hg BK182.out); clear BK179 BK182 HB; have BK179 := n0_; have BK182 := n1_; have HB := n2_; clear n0_ n1_ n2_; clear hb hbox hg; have hnb15 := NB184_179.out; have hnc15 := NB179_184.out; have hnb16 := NB184_182.out; have hnc16 := NB182_184.out; have hcz17_0 := zc BK184.out 0; have hcz17_1 := zc BK184.out 1; have hcz17_2 := zc BK184.out 2; have hcz17_3 := zc BK184.out 3; have hcz17_4 := zc BK184.out 4; have hfz17_0 := blk_frozen BK184.out 0; have hfz17_1 := blk_frozen BK184.out 1; have hfz17_2 := blk_frozen BK184.out 2; have hfz17_3 := blk_frozen BK184.out 3; have hfz17_4 := blk_frozen BK184.out 4) | ((with_reducible refine gate_dst (N := 7) rfl ?_); refine zbox (N := 7) (cs := #[.int .i64 0, .int .i64 0, .int .i64 0, .int .i64 0, .int .i64 0]) (t := 74) ?_; intro gb185 hg w18 hbox hb; have n0_ := Aside0.mk (blk_below (g := gb179) (o := .cells #[.bool x180000_1, .int .i64 x180001_1, .int .i64 x180002_1, .int .i64 x180003_1] 62 (0, 0)) (zf1 BK179.out NB179_184.out) hb); have n1_ := Aside0.mk (blk_below (g := gb182) (o := .cells #[.bool true, .int .i64 0, .int .i64 ((rd_T74 l0 0).f2), .int .i64 ((rd_T74 l0 0).f3)] 62 (0, 0)) (zf1 BK182.out NB182_184.out) hb); have n2_ := Aside0.mk (blk_below (g := gb184) (o := .cells #[.int .i64 ((rd_T74 l0 x19_1).f0), .int .i64 ((rd_T74 l0 x19_1).f1), .int .i64 ((rd_T74 l0 x19_1).f2), .int .i64 ((rd_T74 l0 x19_1).f3), .int .i64 ((rd_T74 l0 x19_1).f4)] 74 (0, 0)) (by (with_reducible repeat (first | refine blk_drewN ?_ _ | refine blk_drew ?_ | refine blk_alloc ?_ _)); refine blk_put (cs := #[.int .i64 ((rd_T74 l0 x19_1).f0), .int .i64 ((rd_T74 l0 x19_1).f1), .int .i64 ((rd_T74 l0 x19_1).f2), .int .i64 ((rd_T74 l0 x19_1).f3), .int .i64 0]) ?_ 4 _ rfl; (with_reducible repeat (first | refine blk_drewN ?_ _ | refine blk_drew ?_ | refine blk_alloc ?_ _)); refine blk_put (cs := #[.int .i64 ((rd_T74 l0 x19_1).f0), .int .i64 ((rd_T74 l0 x19_1).f1), .int .i64 ((rd_T74 l0 x19_1).f2), .int .i64 0, .int .i64 0]) ?_ 3 _ rfl; (with_reducible repeat (first | refine blk_drewN ?_ _ | refine blk_drew ?_ | refine blk_alloc ?_ _)); refine blk_put (cs := #[.int .i64 ((rd_T74 l0 x19_1).f0), .int .i64 ((rd_T74 l0 x19_1).f1), .int .i64 0, .int .i64 0, .int .i64 0]) ?_ 2 _ rfl; (with_reducible repeat (first | refine blk_drewN ?_ _ | refine blk_drew ?_ | refine blk_alloc ?_ _)); refine blk_put (cs := #[.int .i64 ((rd_T74 l0 x19_1).f0), .int .i64 0, .int .i64 0, .int .i64 0, .int .i64 0]) ?_ 1 _ rfl; (with_reducible repeat (first | refine blk_drewN ?_ _ | refine blk_drew ?_ | refine blk_alloc ?_ _)); refine blk_put (cs := #[.int .i64 0, .int .i64 0, .int .i64 0, .int .i64 0, .int .i64 0]) ?_ 0 _ rfl; (with_reducible repeat (first | refine blk_drewN ?_ _ | refine blk_drew ?_ | refine blk_alloc ?_ _)); exact BK184.out) hb); have n3_ := Aside0.mk (below_step (zw3 HB.out GE179.out GE182.out GE184.out) hb); have BK185 := Aside0.mk (hbox); have GW185 := Aside0.mk (zg hg (below_size (zw3 HB.out GE179.out GE182.out GE184.out))); have GE185 := GW185; have NB179_185 := Aside0.mk ((by rw [hg]; exact Nat.ne_of_lt (blk_lt (g := gb179) (o := .cells #[.bool x180000_1, .int .i64 x180001_1, .int .i64 x180002_1, .int .i64 x180003_1] 62 (0, 0)) (zf1 BK179.out NB179_184.out)) : gb179 ≠ gb185)); have NB185_179 := Aside0.mk ((by rw [hg]; exact Nat.ne_of_gt (blk_lt (g := gb179) (o := .cells #[.bool x180000_1, .int .i64 x180001_1, .int .i64 x180002_1, .int .i64 x180003_1] 62 (0, 0)) (zf1 BK179.out NB179_184.out)) : gb185 ≠ gb179)); have NB182_185 := Aside0.mk ((by rw [hg]; exact Nat.ne_of_lt (blk_lt (g := gb182) (o := .cells #[.bool true, .int .i64 0, .int .i64 ((rd_T74 l0 0).f2), .int .i64 ((rd_T74 l0 0).f3)] 62 (0, 0)) (zf1 BK182.out NB182_184.out)) : gb182 ≠ gb185)); have NB185_182 := Aside0.mk ((by rw [hg]; exact Nat.ne_of_gt (blk_lt (g := gb182) (o := .cells #[.bool true, .int .i64 0, .int .i64 ((rd_T74 l0 0).f2), .int .i64 ((rd_T74 l0 0).f3)] 62 (0, 0)) (zf1 BK182.out NB182_184.out)) : gb185 ≠ gb182)); have NB184_185 := Aside0.mk ((by rw [hg]; exact Nat.ne_of_lt (blk_lt (g := gb184) (o := .cells #[.int .i64 ((rd_T74 l0 x19_1).f0), .int .i64 ((rd_T74 l0 x19_1).f1), .int .i64 ((rd_T74 l0 x19_1).f2), .int .i64 ((rd_T74 l0 x19_1).f3), .int .i64 ((rd_T74 l0 x19_1).f4)] 74 (0, 0)) (by (with_reducible repeat (first | refine blk_drewN ?_ _ | refine blk_drew ?_ | refine blk_alloc ?_ _)); refine blk_put (cs := #[.int .i64 ((rd_T74 l0 x19_1).f0), .int .i64 ((rd_T74 l0 x19_1).f1), .int .i64 ((rd_T74 l0 x19_1).f2), .int .i64 ((rd_T74 l0 x19_1).f3), .int .i64 0]) ?_ 4 _ rfl; (with_reducible repeat (first | refine blk_drewN ?_ _ | refine blk_drew ?_ | refine blk_alloc ?_ _)); refine blk_put (cs := #[.int .i64 ((rd_T74 l0 x19_1).f0), .int .i64 ((rd_T74 l0 x19_1).f1), .int .i64 ((rd_T74 l0 x19_1).f2), .int .i64 0, .int .i64 0]) ?_ 3 _ rfl; (with_reducible repeat (first | refine blk_drewN ?_ _ | refine blk_drew ?_ | refine blk_alloc ?_ _)); refine blk_put (cs := #[.int .i64 ((rd_T74 l0 x19_1).f0), .int .i64 ((rd_T74 l0 x19_1).f1), .int .i64 0, .int .i64 0, .int .i64 0]) ?_ 2 _ rfl; (with_reducible repeat (first | refine blk_drewN ?_ _ | refine blk_drew ?_ | refine blk_alloc ?_ _)); refine blk_put (cs := #[.int .i64 ((rd_T74 l0 x19_1).f0), .int .i64 0, .int .i64 0, .int .i64 0, .int .i64 0]) ?_ 1 _ rfl; (with_reducible repeat (first | refine blk_drewN ?_ _ | refine blk_drew ?_ | refine blk_alloc ?_ _)); refine blk_put (cs := #[.int .i64 0, .int .i64 0, .int .i64 0, .int .i64 0, .int .i64 0]) ?_ 0 _ rfl; (with_reducible repeat (first | refine blk_drewN ?_ _ | refine blk_drew ?_ | refine blk_alloc ?_ _)); exact BK184.out)) : gb184 ≠ gb185)); have NB185_184 := Aside0.mk ((by rw [hg]; exact Nat.ne_of_gt (blk_lt (g := gb184) (o := .cells #[.int .i64 ((rd_T74 l0 x19_1).f0), .int .i64 ((rd_T74 l0 x19_1).f1), .int .i64 ((rd_T74 l0 x19_1).f2), .int .i64 ((rd_T74 l0 x19_1).f3), .int .i64 ((rd_T74 l0 x19_1).f4)] 74 (0, 0)) (by (with_reducible repeat (first | refine blk_drewN ?_ _ | refine blk_drew ?_ | refine blk_alloc ?_ _)); refine blk_put (cs := #[.int .i64 ((rd_T74 l0 x19_1).f0), .int .i64 ((rd_T74 l0 x19_1).f1), .int .i64 ((rd_T74 l0 x19_1).f2), .int .i64 ((rd_T74 l0 x19_1).f3), .int .i64 0]) ?_ 4 _ rfl; (with_reducible repeat (first | refine blk_drewN ?_ _ | refine blk_drew ?_ | refine blk_alloc ?_ _)); refine blk_put (cs := #[.int .i64 ((rd_T74 l0 x19_1).f0), .int .i64 ((rd_T74 l0 x19_1).f1), .int .i64 ((rd_T74 l0 x19_1).f2), .int .i64 0, .int .i64 0]) ?_ 3 _ rfl; (with_reducible repeat (first | refine blk_drewN ?_ _ | refine blk_drew ?_ | refine blk_alloc ?_ _)); refine blk_put (cs := #[.int .i64 ((rd_T74 l0 x19_1).f0), .int .i64 ((rd_T74 l0 x19_1).f1), .int .i64 0, .int .i64 0, .int .i64 0]) ?_ 2 _ rfl; (with_reducible repeat (first | refine blk_drewN ?_ _ | refine blk_drew ?_ | refine blk_alloc ?_ _)); refine blk_put (cs := #[.int .i64 ((rd_T74 l0 x19_1).f0), .int .i64 0, .int .i64 0, .int .i64 0, .int .i64 0]) ?_ 1 _ rfl; (with_reducible repeat (first | refine blk_drewN ?_ _ | refine blk_drew ?_ | refine blk_alloc ?_ _)); refine blk_put (cs := #[.int .i64 0, .int .i64 0, .int .i64 0, .int .i64 0, .int .i64 0]) ?_ 0 _ rfl; (with_reducible repeat (first | refine blk_drewN ?_ _ | refine blk_drew ?_ | refine blk_alloc ?_ _)); exact BK184.out)) : gb185 ≠ gb184)); clear BK179 BK182 BK184 HB; have BK179 := n0_; have BK182 := n1_; have BK184 := n2_; have HB := n3_; clear n0_ n1_ n2_ n3_; clear hb hbox hg; have hnb19 := NB185_179.out; have hnc19 := NB179_185.out; have hnb20 := NB185_182.out; have hnc20 := NB182_185.out; have hnb21 := NB185_184.out; have hnc21 := NB184_185.out; have hcz22_0 := zc BK185.out 0; have hcz22_1 := zc BK185.out 1; have hcz22_2 := zc BK185.out 2; have hcz22_3 := zc BK185.out 3; have hcz22_4 := zc BK185.out 4; have hfz22_0 := blk_frozen BK185.out 0; have hfz22_1 := blk_frozen BK185.out 1; have hfz22_2 := blk_frozen BK185.out 2; have hfz22_3 := blk_frozen BK185.out 3; have hfz22_4 := blk_frozen BK185.out 4; have hnb23 := NB182_179.out; have hnc23 := NB179_182.out; have hcz24_0 := zc BK182.out 0; have hcz24_1 := zc BK182.out 1; have hcz24_2 := zc BK182.out 2; have hcz24_3 := zc BK182.out 3; have hfz24_0 := blk_frozen BK182.out 0; have hfz24_1 := blk_frozen BK182.out 1; have hfz24_2 := blk_frozen BK182.out 2; have hfz24_3 := blk_frozen BK182.out 3))
    (try simp only [Act.put, List.setIfInBounds_toArray, List.set_cons_zero, List.set_cons_succ])
    go_cut [] (fun wc => ∃ (kq : Nat) (x186000_12 : Int) (x186001_12 : Int) (x186002_12 : Int) (x186003_12 : Int) (x186004_12 : Int), Aside0 (bytes_pointer.j1 kq l0 (l0.length : Int) x19_1 true 0 ((rd_T74 l0 0).f2) ((rd_T74 l0 0).f3) ((rd_T74 l0 x19_1).f0) ((rd_T74 l0 x19_1).f1) ((rd_T74 l0 x19_1).f2) ((rd_T74 l0 x19_1).f3) ((rd_T74 l0 x19_1).f4) x186000_12 x186001_12 x186002_12 x186003_12 x186004_12 = some (r1, r2, r3, r4, r5)) ∧ Aside0 (kq ≤ k1) ∧ Aside0 (wc.heap[gb179]? = some (.cells #[.bool x180000_1, .int .i64 x180001_1, .int .i64 x180002_1, .int .i64 x180003_1] 62 (0, 0))) ∧ Aside0 (wc.heap[gb182]? = some (.cells #[.bool true, .int .i64 0, .int .i64 ((rd_T74 l0 0).f2), .int .i64 ((rd_T74 l0 0).f3)] 62 (0, 0))) ∧ Aside0 (wc.heap[gb184]? = some (.cells #[.int .i64 ((rd_T74 l0 x19_1).f0), .int .i64 ((rd_T74 l0 x19_1).f1), .int .i64 ((rd_T74 l0 x19_1).f2), .int .i64 ((rd_T74 l0 x19_1).f3), .int .i64 ((rd_T74 l0 x19_1).f4)] 74 (0, 0))) ∧ Aside0 (wc.heap[gb185]? = some (.cells #[.int .i64 x186000_12, .int .i64 x186001_12, .int .i64 x186002_12, .int .i64 x186003_12, .int .i64 x186004_12] 74 (0, 0))) ∧ Aside0 (Below w.heap.size w wc))
    case first =>
     have H := HC13.out
     clear HC13
     by_cases c25 : ((rd_T74 l0 0).f2) > 0
     rotate_left
     ·rw [if_neg c25] at H
      have c25b0 : decide (0 < ((rd_T74 l0 0).f2)) = false := decide_eq_false c25
      clear c25
      (first | rw [c25b0] | (simp only [i64_w, i32_w]; rw [c25b0]) | skip)
      have H' := Aside0.mk H
      clear H
      go_wp2
      go_meet
      case rel => exact ⟨_, (1), (0), (0), (0), (0), H', ⟨by have := HK1.out; first | omega | exact Nat.le_refl _⟩, ⟨zf1 BK179.out NB179_185.out⟩, ⟨zf1 BK182.out NB182_185.out⟩, ⟨zf1 BK184.out NB184_185.out⟩, ⟨by (with_reducible repeat (first | refine blk_drewN ?_ _ | refine blk_drew ?_ | refine blk_alloc ?_ _)); refine blk_put (cs := #[.int .i64 1, .int .i64 0, .int .i64 0, .int .i64 0, .int .i64 0]) ?_ 4 _ rfl; (with_reducible repeat (first | refine blk_drewN ?_ _ | refine blk_drew ?_ | refine blk_alloc ?_ _)); refine blk_put (cs := #[.int .i64 1, .int .i64 0, .int .i64 0, .int .i64 0, .int .i64 0]) ?_ 3 _ rfl; (with_reducible repeat (first | refine blk_drewN ?_ _ | refine blk_drew ?_ | refine blk_alloc ?_ _)); refine blk_put (cs := #[.int .i64 1, .int .i64 0, .int .i64 0, .int .i64 0, .int .i64 0]) ?_ 2 _ rfl; (with_reducible repeat (first | refine blk_drewN ?_ _ | refine blk_drew ?_ | refine blk_alloc ?_ _)); refine blk_put (cs := #[.int .i64 1, .int .i64 0, .int .i64 0, .int .i64 0, .int .i64 0]) ?_ 1 _ rfl; (with_reducible repeat (first | refine blk_drewN ?_ _ | refine blk_drew ?_ | refine blk_alloc ?_ _)); refine blk_put (cs := #[.int .i64 0, .int .i64 0, .int .i64 0, .int .i64 0, .int .i64 0]) ?_ 0 _ rfl; (with_reducible repeat (first | refine blk_drewN ?_ _ | refine blk_drew ?_ | refine blk_alloc ?_ _)); exact BK185.out⟩, ⟨zw4 HB.out GE179.out GE182.out GE184.out GE185.out⟩⟩
     rw [if_pos c25] at H
     have c25b0 : decide (0 < ((rd_T74 l0 0).f2)) = true := decide_eq_true c25
     clear c25
     (first | rw [c25b0] | (simp only [i64_w, i32_w]; rw [c25b0]) | skip)
     have H' := Aside0.mk H
     clear H
     have hnb26 := NB182_179.out
     have hnc26 := NB179_182.out
     have hnb27 := NB182_184.out
     have hnc27 := NB184_182.out
     have hnb28 := NB182_185.out
     have hnc28 := NB185_182.out
     have hcz29_0 := zc BK182.out 0
     have hcz29_1 := zc BK182.out 1
     have hcz29_2 := zc BK182.out 2
     have hcz29_3 := zc BK182.out 3
     have hfz29_0 := blk_frozen BK182.out 0
     have hfz29_1 := blk_frozen BK182.out 1
     have hfz29_2 := blk_frozen BK182.out 2
     have hfz29_3 := blk_frozen BK182.out 3
     have hnb30 := NB185_179.out
     have hnc30 := NB179_185.out
     have hnb31 := NB185_184.out
     have hnc31 := NB184_185.out
     have hcz32_0 := zc BK185.out 0
     have hcz32_1 := zc BK185.out 1
     have hcz32_2 := zc BK185.out 2
     have hcz32_3 := zc BK185.out 3
     have hcz32_4 := zc BK185.out 4
     have hfz32_0 := blk_frozen BK185.out 0
     have hfz32_1 := blk_frozen BK185.out 1
     have hfz32_2 := blk_frozen BK185.out 2
     have hfz32_3 := blk_frozen BK185.out 3
     have hfz32_4 := blk_frozen BK185.out 4
     go_wp2
     go_meet
     case rel => exact ⟨_, (2), (0), (((rd_T74 l0 0).f2)), (((rd_T74 l0 0).f3)), (x19_1), H', ⟨by have := HK1.out; first | omega | exact Nat.le_refl _⟩, ⟨zf1 BK179.out NB179_185.out⟩, ⟨zf1 BK182.out NB182_185.out⟩, ⟨zf1 BK184.out NB184_185.out⟩, ⟨by (with_reducible repeat (first | refine blk_drewN ?_ _ | refine blk_drew ?_ | refine blk_alloc ?_ _)); refine blk_put (cs := #[.int .i64 2, .int .i64 0, .int .i64 ((rd_T74 l0 0).f2), .int .i64 ((rd_T74 l0 0).f3), .int .i64 0]) ?_ 4 _ rfl; (with_reducible repeat (first | refine blk_drewN ?_ _ | refine blk_drew ?_ | refine blk_alloc ?_ _)); refine blk_put (cs := #[.int .i64 2, .int .i64 0, .int .i64 ((rd_T74 l0 0).f2), .int .i64 0, .int .i64 0]) ?_ 3 _ rfl; (with_reducible repeat (first | refine blk_drewN ?_ _ | refine blk_drew ?_ | refine blk_alloc ?_ _)); refine blk_put (cs := #[.int .i64 2, .int .i64 0, .int .i64 0, .int .i64 0, .int .i64 0]) ?_ 2 _ rfl; (with_reducible repeat (first | refine blk_drewN ?_ _ | refine blk_drew ?_ | refine blk_alloc ?_ _)); refine blk_put (cs := #[.int .i64 2, .int .i64 0, .int .i64 0, .int .i64 0, .int .i64 0]) ?_ 1 _ rfl; (with_reducible repeat (first | refine blk_drewN ?_ _ | refine blk_drew ?_ | refine blk_alloc ?_ _)); refine blk_put (cs := #[.int .i64 1, .int .i64 0, .int .i64 0, .int .i64 0, .int .i64 0]) ?_ 0 _ rfl; (with_reducible repeat (first | refine blk_drewN ?_ _ | refine blk_drew ?_ | refine blk_alloc ?_ _)); refine blk_put (cs := #[.int .i64 1, .int .i64 0, .int .i64 0, .int .i64 0, .int .i64 0]) ?_ 4 _ rfl; (with_reducible repeat (first | refine blk_drewN ?_ _ | refine blk_drew ?_ | refine blk_alloc ?_ _)); refine blk_put (cs := #[.int .i64 1, .int .i64 0, .int .i64 0, .int .i64 0, .int .i64 0]) ?_ 3 _ rfl; (with_reducible repeat (first | refine blk_drewN ?_ _ | refine blk_drew ?_ | refine blk_alloc ?_ _)); refine blk_put (cs := #[.int .i64 1, .int .i64 0, .int .i64 0, .int .i64 0, .int .i64 0]) ?_ 2 _ rfl; (with_reducible repeat (first | refine blk_drewN ?_ _ | refine blk_drew ?_ | refine blk_alloc ?_ _)); refine blk_put (cs := #[.int .i64 1, .int .i64 0, .int .i64 0, .int .i64 0, .int .i64 0]) ?_ 1 _ rfl; (with_reducible repeat (first | refine blk_drewN ?_ _ | refine blk_drew ?_ | refine blk_alloc ?_ _)); refine blk_put (cs := #[.int .i64 0, .int .i64 0, .int .i64 0, .int .i64 0, .int .i64 0]) ?_ 0 _ rfl; (with_reducible repeat (first | refine blk_drewN ?_ _ | refine blk_drew ?_ | refine blk_alloc ?_ _)); exact BK185.out⟩, ⟨zw4 HB.out GE179.out GE182.out GE184.out GE185.out⟩⟩
    case rest =>
     clear HC13
     try clear c1; try clear p1; try clear q1; try clear qi1; try clear c2; try clear c2b0; try clear c2b1; try clear p2; try clear c3; try clear c10; try clear c10b0; try clear c11; try clear c11b0; try clear c12; try clear c12b0; try clear c15; try clear c16; try clear p18; try clear q18; try clear qi18; try clear c19; try clear c20; try clear c21; try clear c23; try clear c25; try clear c25b0; try clear c26; try clear c27; try clear c28; try clear c30; try clear c31; try clear p1; try clear p180; try clear p181; try clear p183; try clear p2; try clear q1; try clear q180; try clear q181; try clear q183
     obtain ⟨kq, x186000_12, x186001_12, x186002_12, x186003_12, x186004_12, HA, HJ12, BK179, BK182, BK184, BK185, HB⟩ := hcut
     cases kq with
     | zero => exact absurd HA.out (by simp [bytes_pointer.j1])
     | succ kj12 =>
      have H := HA.out
      clear HA
      simp only [bytes_pointer.j1] at H
      by_cases c33 : (!(((rd_T74 l0 x19_1).f0) == x186000_12) || (!(((rd_T74 l0 x19_1).f1) == x186001_12) || (!(((rd_T74 l0 x19_1).f2) == x186002_12) || (!(((rd_T74 l0 x19_1).f3) == x186003_12) || (!(((rd_T74 l0 x19_1).f4) == x186004_12)))))) = true
      rotate_left
      ·rw [if_neg c33] at H
       have c33b0 : (!(((rd_T74 l0 x19_1).f0) == x186000_12) || (!(((rd_T74 l0 x19_1).f1) == x186001_12) || (!(((rd_T74 l0 x19_1).f2) == x186002_12) || (!(((rd_T74 l0 x19_1).f3) == x186003_12) || (!(((rd_T74 l0 x19_1).f4) == x186004_12)))))) = false := by simpa using c33
       clear c33
       have H' := Aside0.mk H
       clear H
       have hnb43 := NB184_179.out
       have hnc43 := NB179_184.out
       have hnb44 := NB184_182.out
       have hnc44 := NB182_184.out
       have hnb45 := NB184_185.out
       have hnc45 := NB185_184.out
       have hcz46_0 := zc BK184.out 0
       have hcz46_1 := zc BK184.out 1
       have hcz46_2 := zc BK184.out 2
       have hcz46_3 := zc BK184.out 3
       have hcz46_4 := zc BK184.out 4
       have hfz46_0 := blk_frozen BK184.out 0
       have hfz46_1 := blk_frozen BK184.out 1
       have hfz46_2 := blk_frozen BK184.out 2
       have hfz46_3 := blk_frozen BK184.out 3
       have hfz46_4 := blk_frozen BK184.out 4
       have hnb47 := NB185_179.out
       have hnc47 := NB179_185.out
       have hnb48 := NB185_182.out
       have hnc48 := NB182_185.out
       have hcz49_0 := zc BK185.out 0
       have hcz49_1 := zc BK185.out 1
       have hcz49_2 := zc BK185.out 2
       have hcz49_3 := zc BK185.out 3
       have hcz49_4 := zc BK185.out 4
       have hfz49_0 := blk_frozen BK185.out 0
       have hfz49_1 := blk_frozen BK185.out 1
       have hfz49_2 := blk_frozen BK185.out 2
       have hfz49_3 := blk_frozen BK185.out 3
       have hfz49_4 := blk_frozen BK185.out 4
       go_wp2
       go_roundg kj12
       case measure => have := HK1.out; have := HJ12.out; omega
       case rel => exact ⟨(wrap64 (x19_1 + 1)), (x180000_1), (x180001_1), (x180002_1), (x180003_1), (zr), H', ⟨by have := HK1.out; have := HJ12.out; omega⟩, ⟨zb BK179.out⟩, ⟨zb BK182.out⟩, ⟨zw4 HB.out GE179.out GE182.out GE184.out GE185.out⟩⟩
      rw [if_pos c33] at H
      have c33b0 : (!(((rd_T74 l0 x19_1).f0) == x186000_12) || (!(((rd_T74 l0 x19_1).f1) == x186001_12) || (!(((rd_T74 l0 x19_1).f2) == x186002_12) || (!(((rd_T74 l0 x19_1).f3) == x186003_12) || (!(((rd_T74 l0 x19_1).f4) == x186004_12)))))) = true := c33
      clear c33
      simp only [Option.some.injEq, Prod.mk.injEq] at H
      obtain ⟨rfl, rfl, rfl, rfl, rfl⟩ := H
      have hnb34 := NB184_179.out
      have hnc34 := NB179_184.out
      have hnb35 := NB184_182.out
      have hnc35 := NB182_184.out
      have hnb36 := NB184_185.out
      have hnc36 := NB185_184.out
      have hcz37_0 := zc BK184.out 0
      have hcz37_1 := zc BK184.out 1
      have hcz37_2 := zc BK184.out 2
      have hcz37_3 := zc BK184.out 3
      have hcz37_4 := zc BK184.out 4
      have hfz37_0 := blk_frozen BK184.out 0
      have hfz37_1 := blk_frozen BK184.out 1
      have hfz37_2 := blk_frozen BK184.out 2
      have hfz37_3 := blk_frozen BK184.out 3
      have hfz37_4 := blk_frozen BK184.out 4
      have hnb38 := NB185_179.out
      have hnc38 := NB179_185.out
      have hnb39 := NB185_182.out
      have hnc39 := NB182_185.out
      have hcz40_0 := zc BK185.out 0
      have hcz40_1 := zc BK185.out 1
      have hcz40_2 := zc BK185.out 2
      have hcz40_3 := zc BK185.out 3
      have hcz40_4 := zc BK185.out 4
      have hfz40_0 := blk_frozen BK185.out 0
      have hfz40_1 := blk_frozen BK185.out 1
      have hfz40_2 := blk_frozen BK185.out 2
      have hfz40_3 := blk_frozen BK185.out 3
      have hfz40_4 := blk_frozen BK185.out 4
      have hnb41 := NB179_182.out
      have hnc41 := NB182_179.out
      have hcz42_0 := zc BK179.out 0
      have hcz42_1 := zc BK179.out 1
      have hcz42_2 := zc BK179.out 2
      have hcz42_3 := zc BK179.out 3
      have hfz42_0 := blk_frozen BK179.out 0
      have hfz42_1 := blk_frozen BK179.out 1
      have hfz42_2 := blk_frozen BK179.out 2
      have hfz42_3 := blk_frozen BK179.out 3
      go_wp2
      refine bodyPost_ret (results_ct rfl _ _ gb179 62 #[.bool false, .int .i64 0, .int .i64 0, .int .i64 0] (0, 0) _ rfl (by (with_reducible repeat (first | refine blk_drewN ?_ _ | refine blk_drew ?_ | refine blk_alloc ?_ _)); refine blk_put (cs := #[.bool false, .int .i64 0, .int .i64 0, .int .i64 x180003_1]) ?_ 3 _ rfl; (with_reducible repeat (first | refine blk_drewN ?_ _ | refine blk_drew ?_ | refine blk_alloc ?_ _)); refine blk_put (cs := #[.bool false, .int .i64 0, .int .i64 x180002_1, .int .i64 x180003_1]) ?_ 2 _ rfl; (with_reducible repeat (first | refine blk_drewN ?_ _ | refine blk_drew ?_ | refine blk_alloc ?_ _)); refine blk_put (cs := #[.bool false, .int .i64 x180001_1, .int .i64 x180002_1, .int .i64 x180003_1]) ?_ 1 _ rfl; (with_reducible repeat (first | refine blk_drewN ?_ _ | refine blk_drew ?_ | refine blk_alloc ?_ _)); refine blk_put (cs := #[.bool x180000_1, .int .i64 x180001_1, .int .i64 x180002_1, .int .i64 x180003_1]) ?_ 0 _ rfl; (with_reducible repeat (first | refine blk_drewN ?_ _ | refine blk_drew ?_ | refine blk_alloc ?_ _)); exact BK179.out) Try.underlying62 rfl (by kernel_rfl)) rfl ?_
      exact ⟨ze, zw4 HB.out GE179.out GE182.out GE184.out GE185.out⟩
 ·rw [if_neg c2] at H
  exact absurd H (by simp)

end Go.Proofs.Ytjoplkillkhiaaa.Q2
