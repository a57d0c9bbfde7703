/- The law MemStores: for every argument the call returns true, and the argument reads behind it as before: out of the pure statement (YtjoplkillkhiaaaPureMemStores) and the walk. No condition. -/
import Derived.Test.YtjoplkillkhiaaaRows
import Derived.Test.YtjoplkillkhiaaaStyz
import Derived.Test.YtjoplkillkhiaaaPureMemStores
import Derived.WalkKit
import Derived.ProofKit
import Derived.OpenShut
import Derived.ShutString
import Derived.ChangeOld
import Derived.Below
import Derived.SizedLaws
namespace Go.Proofs.Ytjoplkillkhiaaa.memStores
open Go.ChangeShapes Go.WideShapes Go.ChangeAt Go.RowKit
open Go.ChangeMaps (open_string shut_string)
set_option linter.unusedVariables false
theorem own : ownKnob Try.prog.godebug = none := by kernel_rfl
theorem laidOut : laidOutB Try.prog = true := by kernel_rfl
set_option maxRecDepth 100000 in
theorem lifted (os : Os) (started : os.Started) (H : Type) (enc : TypeId × Value → H) :
    ReturnsInHanded {} Try.checked os 5 .any (Rows.memStoresSpec.pre6 enc Try.prog Try.f5 Rows.memStoresRow.domain false) (Rows.memStoresSpec.post enc Try.prog Try.f5 false true false false) := by
  refine returnsInHanded_of_change_sized (C := Try.checked) own started (by kernel_rfl) Try.func5
    (ChangeSpec.witness6 (enc := enc) (C := Try.checked) false ⟨#[], #[.agg #[.slice none 0 0, .slice none 0 0, .slice none 0 0, .slice none 0 0]], []⟩ 8 (by kernel_rfl) (by kernel_rfl) (by kernel_rfl) (by kernel_rfl)) ?_
  intro W base args ds gs before hval0 hW hcnd hsz0 _
  have hsz : (DataW.weightsEach Try.prog (Try.f5.params.toList ++ Rows.memStoresSpec.plain.varTypes Try.prog) (ds ++ gs)).all (· ≤ reachBytes) = true := hsz0
  have hval : ∀ (j : Nat) t v, Try.f5.params[j]? = some t → args[j]? = some v → Value.okWide Try.prog W .any base t v := hval0
  have hW' := hW
  obtain ⟨p, q, hA0, hV, rfl, hfz, hnd⟩ := hW
  have hA : DataW.TrodAll enc Try.prog W 0 (fun _ => true) true Try.f5.params.toList args.toList ds p := hA0
  rw [Try.params5] at hA hval hsz
  obtain ⟨v0, vs0, d0, ds0, p0, q0, hargs, rfl, rfl, h0, r0⟩ := trodAll_cons hA
  obtain ⟨rfl, rfl, rfl⟩ := trodAll_nil r0
  obtain rfl : args = #[v0] := by cases args; simp_all
  obtain ⟨rfl, rfl⟩ := trodVars_none hV
  have k0 := h0
  have lt0 : ∀ x ∈ p0, x.block < W.heap.size := by obtain ⟨m, hm⟩ := k0; exact DataW.trod_lt m _ _ _ hm
  have hw0 : ∀ n ∈ d0.weights Try.prog 54, n ≤ reachBytes := fun n hn => by
    have := List.all_eq_true.1 hsz n (DataW.weights_mem_each (j := 0) (t := 54) (d := d0) rfl rfl n hn)
    exact of_decide_eq_true this
  obtain ⟨A0, c0, l0_0, A1, c1, l0_1, A2, c2, l0_2, A3, c3, l0_3, rfl, hr0, hc0, hr1, hc1, hr2, hc2, hr3, hc3, harg⟩ := Go.Proofs.Ytjoplkillkhiaaa.St.open_54 (hval 0 54 v0 rfl rfl) h0 hw0
  clear hA0 hval0 hsz0 hsz hw0
  obtain ⟨k, h⟩ := PureSt.MemStores l0_0 l0_1 l0_2 l0_3 harg
  refine (Go.Proofs.Ytjoplkillkhiaaa.St.cellarlaw9_MemStores.calls k _ _ l0_0 _ _ l0_1 _ _ l0_2 _ _ l0_3 true W hr0 hc0 hr1 hc1 hr2 hc2 hr3 hc3 h).mono fun e W' ⟨he, bel0⟩ => ?_
  have bel : Below W.heap.size W W' := bel0
  subst he
  exact ⟨_, rfl, _, _, _, [], _, [], hW', trodAll_mk1 (shut_bool Try.underlying4 _), (trodAll_cons_mk (Below.trod laidOut (by kernel_rfl) (of_decide_eq_true (by kernel_rfl)) k0 bel lt0) trodAll_mk0), rfl, bel.frame _, fun h => by cases h⟩
theorem over : Rows.memStoresRow.holds Try.pinned (OpenSpec.ofChange Rows.memStoresSpec) :=
  OpenClaim.holds_of_wide 5 Try.f5 rfl rfl rfl rfl rfl rfl rfl ⟨rfl, rfl, rfl, rfl, rfl⟩ rfl rfl rfl rfl rfl (by kernel_rfl) Try.func5 (by kernel_rfl)
    (of_decide_eq_true (by kernel_rfl)) (by unfold Func.isWrapper; first | (rw [if_pos (by decide +kernel)]; kernel_rfl) | (rw [if_neg (by decide +kernel)]; exact ⟨rfl, rfl⟩))
    (fun os started H enc _ => lifted os started H enc)
theorem proved : Rows.MemStoresSaid := over
#print axioms proved
end Go.Proofs.Ytjoplkillkhiaaa.memStores
namespace Go.Proofs.Ytjoplkillkhiaaa
/-- The row, under a short name, for the claim. -/
theorem memStores_holds : Rows.MemStoresSaid := memStores.proved
end Go.Proofs.Ytjoplkillkhiaaa
