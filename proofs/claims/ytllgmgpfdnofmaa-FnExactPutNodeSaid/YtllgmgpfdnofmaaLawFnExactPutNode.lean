/- The law FnExactPutNode: for every argument that memory can hold it answers true, and leaves its arguments alone; out of its pure statement and the walk. No condition of its own. -/
import Derived.Test.YtllgmgpfdnofmaaRows
import Derived.Test.YtllgmgpfdnofmaaPFnExactPutNodex10
import Derived.Test.YtllgmgpfdnofmaaPureFnExactPutNode
import Derived.Test.YtllgmgpfdnofmaaOpens
import Derived.WalkKit
import Derived.ProofKit
import Derived.OpenShut
import Derived.ShutString
import Derived.ChangeOld
import Derived.Below
import Derived.SizedLaws
namespace Go.Proofs.Ytllgmgpfdnofmaa.fnExactPutNode
open Go.ChangeShapes Go.WideShapes Go.ChangeAt Go.RowKit
open Go.Proofs.Ytllgmgpfdnofmaa.PFnExactPutNode Go.Proofs.Ytllgmgpfdnofmaa.Opens Go.Proofs.YtllgmgpfdnofmaaW.PrintWords
set_option linter.unusedVariables false
theorem own : ownKnob Try.prog.godebug = none := by kernel_rfl
theorem laidOut : laidOutB Try.prog = true := by kernel_rfl
theorem opArg0 : Opens Try.prog 25 (Kd.pair Kd.bool (Kd.pair (Kd.slice 9 Kd.string) (Kd.pair (Kd.slice 9 Kd.string) (Kd.slice 3 (Kd.int .i64))))) (fun x : Bool × (List ByteArray) × (List ByteArray) × List Int => True ∧ (x.2.1.length * 16 ≤ 140737488351232 ∧ ∀ e0 ∈ x.2.1, e0.size ≤ 140737488351232) ∧ (x.2.2.1.length * 16 ≤ 140737488351232 ∧ ∀ e0 ∈ x.2.2.1, e0.size ≤ 140737488351232) ∧ (x.2.2.2.length * 8 ≤ 140737488351232 ∧ ∀ e0 ∈ x.2.2.2, (-9223372036854775808 ≤ e0 ∧ e0 ≤ 9223372036854775807))) := by refine opens_struct Try.underlying25 (by kernel_rfl) ?_; exact (by refine opensF_cons (V := fun x : Bool => True) (V' := fun x : (List ByteArray) × (List ByteArray) × List Int => (x.1.length * 16 ≤ 140737488351232 ∧ ∀ e0 ∈ x.1, e0.size ≤ 140737488351232) ∧ (x.2.1.length * 16 ≤ 140737488351232 ∧ ∀ e0 ∈ x.2.1, e0.size ≤ 140737488351232) ∧ (x.2.2.length * 8 ≤ 140737488351232 ∧ ∀ e0 ∈ x.2.2, (-9223372036854775808 ≤ e0 ∧ e0 ≤ 9223372036854775807))) rfl ?_ ?_; exact (opens_bool Try.underlying4 (by kernel_rfl)); exact (by refine opensF_cons (V := fun x : List ByteArray => (x.length * 16 ≤ 140737488351232 ∧ ∀ e0 ∈ x, e0.size ≤ 140737488351232)) (V' := fun x : (List ByteArray) × List Int => (x.1.length * 16 ≤ 140737488351232 ∧ ∀ e0 ∈ x.1, e0.size ≤ 140737488351232) ∧ (x.2.length * 8 ≤ 140737488351232 ∧ ∀ e0 ∈ x.2, (-9223372036854775808 ≤ e0 ∧ e0 ≤ 9223372036854775807))) rfl ?_ ?_; exact (opens_slice Try.underlying22 (by kernel_rfl) (B := 16) (by kernel_rfl) (opens_string Try.underlying9 (by kernel_rfl))); exact (by refine opensF_cons (V := fun x : List ByteArray => (x.length * 16 ≤ 140737488351232 ∧ ∀ e0 ∈ x, e0.size ≤ 140737488351232)) (V' := fun x : List Int => (x.length * 8 ≤ 140737488351232 ∧ ∀ e0 ∈ x, (-9223372036854775808 ≤ e0 ∧ e0 ≤ 9223372036854775807))) rfl ?_ ?_; exact (opens_slice Try.underlying22 (by kernel_rfl) (B := 16) (by kernel_rfl) (opens_string Try.underlying9 (by kernel_rfl))); exact (by refine opensF_one (V := fun x : List Int => (x.length * 8 ≤ 140737488351232 ∧ ∀ e0 ∈ x, (-9223372036854775808 ≤ e0 ∧ e0 ≤ 9223372036854775807))) rfl ?_; exact (opens_slice Try.underlying23 (by kernel_rfl) (B := 8) (by kernel_rfl) (opens_i64 Try.underlying3 (by kernel_rfl)))))))
set_option maxRecDepth 100000 in
theorem lifted (os : Os) (started : os.Started) (H : Type) (enc : TypeId × Value → H) :
    ReturnsInHanded {} Try.checked os 3 .any (Rows.fnExactPutNodeSpec.pre6 enc Try.prog Try.f3 Rows.fnExactPutNodeRow.domain false) (Rows.fnExactPutNodeSpec.post enc Try.prog Try.f3 false true false false) := by
  refine returnsInHanded_of_change_sized (C := Try.checked) own started (by kernel_rfl) Try.func3
    (ChangeSpec.witness6 (enc := enc) (C := Try.checked) false ⟨#[], #[.agg #[.bool false, .slice none 0 0, .slice none 0 0, .slice none 0 0]], []⟩ 8 (by kernel_rfl) (by kernel_rfl) (by kernel_rfl) (by kernel_rfl)) ?_
  intro W base args ds gs before hval0 hW hcnd hsz0 _
  have hsz : (DataW.weightsEach Try.prog (Try.f3.params.toList ++ Rows.fnExactPutNodeSpec.plain.varTypes Try.prog) (ds ++ gs)).all (· ≤ reachBytes) = true := hsz0
  have hval : ∀ (j : Nat) t v, Try.f3.params[j]? = some t → args[j]? = some v → Value.okWide Try.prog W .any base t v := hval0
  have hW' := hW
  obtain ⟨p, q, hA0, hV, rfl, hfz, hnd⟩ := hW
  have hA : DataW.TrodAll enc Try.prog W 0 (fun _ => true) true Try.f3.params.toList args.toList ds p := hA0
  rw [Try.params3] at hA hval hsz
  obtain ⟨v0, vs0, d0, ds0, p0, q0, hargs, rfl, rfl, h0, r0⟩ := trodAll_cons hA
  obtain ⟨rfl, rfl, rfl⟩ := trodAll_nil r0
  obtain rfl : args = #[v0] := by cases args; simp_all
  obtain ⟨rfl, rfl⟩ := trodVars_none hV
  have k0 := h0
  have lt0 : ∀ x ∈ p0, x.block < W.heap.size := by obtain ⟨m, hm⟩ := k0; exact DataW.trod_lt m _ _ _ hm
  obtain ⟨cs0, rfl⟩ := okWide_agg Try.underlying25 (hval 0 25 v0 rfl rfl)
  obtain ⟨⟨a0_0, l0_1, l0_2, l0_3⟩, hK0, y0_0, y0_1, y0_2, y0_3⟩ := opens_arg opArg0 hsz (j := 0) (t := 25) rfl rfl h0
  obtain ⟨_, _, e0_0, rfl, ⟨_, _, e0_1, ⟨A0_1, c0_1, rfl, hc0_1, hr0_1⟩, ⟨_, _, e0_2, ⟨A0_2, c0_2, rfl, hc0_2, hr0_2⟩, ⟨A0_3, c0_3, rfl, hc0_3, hr0_3⟩⟩⟩⟩ := hK0
  have ec0 : cs0.toList = [.bool a0_0, .slice A0_1 l0_1.length c0_1, .slice A0_2 l0_2.length c0_2, .slice A0_3 l0_3.length c0_3] := by have z := e0_0; rw [e0_1, e0_2] at z; simpa [Value.cells] using z
  obtain rfl : cs0 = #[.bool a0_0, .slice A0_1 l0_1.length c0_1, .slice A0_2 l0_2.length c0_2, .slice A0_3 l0_3.length c0_3] := by rw [← Array.toArray_toList (xs := cs0), ec0]
  clear hA0 hval0 hsz0 hsz
  obtain ⟨k, hk⟩ := Pure.FnExactPutNode a0_0 l0_1 l0_2 l0_3 y0_1 y0_2 y0_3
  refine (laws_FnExactPutNode.calls k a0_0 _ _ l0_1 _ _ l0_2 _ _ l0_3 true W hr0_1 hc0_1 hr0_2 hc0_2 hr0_3 hc0_3 (Aside0.mk rfl) hk).mono fun e W' ⟨he, hd⟩ => ?_
  subst he
  have bel : Below W.heap.size W W' := hd
  exact ⟨_, rfl, _, _, _, [], _, [], hW', trodAll_mk1 (shut_bool Try.underlying4 _), (trodAll_cons_mk (Below.trod laidOut (by kernel_rfl) (of_decide_eq_true (by kernel_rfl)) k0 bel lt0) trodAll_mk0), rfl, bel.frame _, fun h => by cases h⟩
theorem over : Rows.fnExactPutNodeRow.holds Try.pinned (OpenSpec.ofChange Rows.fnExactPutNodeSpec) :=
  OpenClaim.holds_of_wide 3 Try.f3 rfl rfl rfl rfl rfl rfl rfl ⟨rfl, rfl, rfl, rfl, rfl⟩ rfl rfl rfl rfl rfl (by kernel_rfl) Try.func3 (by kernel_rfl)
    (of_decide_eq_true (by kernel_rfl)) (by unfold Func.isWrapper; first | (rw [if_pos (by decide +kernel)]; kernel_rfl) | (rw [if_neg (by decide +kernel)]; exact ⟨rfl, rfl⟩))
    (fun os started H enc _ => lifted os started H enc)
theorem proved : Rows.FnExactPutNodeSaid := over
#print axioms proved
end Go.Proofs.Ytllgmgpfdnofmaa.fnExactPutNode
namespace Go.Proofs.Ytllgmgpfdnofmaa
/-- The row, under a short name, for the claim. -/
theorem fnExactPutNode_holds : Rows.FnExactPutNodeSaid := fnExactPutNode.proved
end Go.Proofs.Ytllgmgpfdnofmaa
