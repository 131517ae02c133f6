/- The law FnExactTokenOk: for every argument that memory can hold it answers true, and leaves its arguments alone; out of its pure statement and the walk. No condition of its own. -/
import Derived.Test.YthpiinnmmdaloaaRows
import Derived.Test.YthpiinnmmdaloaaPFnExactTokenOkx1
import Derived.Test.YthpiinnmmdaloaaPureFnExactTokenOk
import Derived.Test.YthpiinnmmdaloaaOpens
import Derived.WalkKit
import Derived.ProofKit
import Derived.OpenShut
import Derived.ShutString
import Derived.ChangeOld
import Derived.Below
import Derived.SizedLaws
namespace Go.Proofs.Ythpiinnmmdaloaa.fnExactTokenOk
open Go.ChangeShapes Go.WideShapes Go.ChangeAt Go.RowKit
open Go.Proofs.Ythpiinnmmdaloaa.PFnExactTokenOk Go.Proofs.Ythpiinnmmdaloaa.Opens Go.Proofs.YthpiinnmmdaloaaW.PrintWords
set_option linter.unusedVariables false
theorem own : ownKnob Try.prog.godebug = none := by kernel_rfl
theorem laidOut : laidOutB Try.prog = true := by kernel_rfl
theorem opArg0 : Opens Try.prog 23 (Kd.pair (Kd.int .i64) Kd.string) (fun x => (-9223372036854775808 ≤ x.1 ∧ x.1 ≤ 9223372036854775807) ∧ x.2.size ≤ 140737488351232) := by refine opens_struct Try.underlying23 (by kernel_rfl) ?_; exact (by refine opensF_cons (V := fun x : Int => (-9223372036854775808 ≤ x ∧ x ≤ 9223372036854775807)) (V' := fun x : ByteArray => x.size ≤ 140737488351232) rfl ?_ ?_; exact (opens_i64 Try.underlying3 (by kernel_rfl)); exact (by refine opensF_one (V := fun x : ByteArray => x.size ≤ 140737488351232) rfl ?_; exact (opens_string Try.underlying9 (by kernel_rfl))))
set_option maxRecDepth 100000 in
theorem lifted (os : Os) (started : os.Started) (H : Type) (enc : TypeId × Value → H) :
    ReturnsInHanded {} Try.checked os 3 .any (Rows.fnExactTokenOkSpec.pre6 enc Try.prog Try.f3 Rows.fnExactTokenOkRow.domain false) (Rows.fnExactTokenOkSpec.post enc Try.prog Try.f3 false true false false) := by
  refine returnsInHanded_of_change_sized (C := Try.checked) own started (by kernel_rfl) Try.func3
    (ChangeSpec.witness6 (enc := enc) (C := Try.checked) false ⟨#[], #[.agg #[.int .i64 0, .string ByteArray.empty]], []⟩ 8 (by kernel_rfl) (by kernel_rfl) (by kernel_rfl) (by kernel_rfl)) ?_
  intro W base args ds gs before hval0 hW hcnd hsz0 _
  have hsz : (DataW.weightsEach Try.prog (Try.f3.params.toList ++ Rows.fnExactTokenOkSpec.plain.varTypes Try.prog) (ds ++ gs)).all (· ≤ reachBytes) = true := hsz0
  have hval : ∀ (j : Nat) t v, Try.f3.params[j]? = some t → args[j]? = some v → Value.okWide Try.prog W .any base t v := hval0
  have hW' := hW
  obtain ⟨p, q, hA0, hV, rfl, hfz, hnd⟩ := hW
  have hA : DataW.TrodAll enc Try.prog W 0 (fun _ => true) true Try.f3.params.toList args.toList ds p := hA0
  rw [Try.params3] at hA hval hsz
  obtain ⟨v0, vs0, d0, ds0, p0, q0, hargs, rfl, rfl, h0, r0⟩ := trodAll_cons hA
  obtain ⟨rfl, rfl, rfl⟩ := trodAll_nil r0
  obtain rfl : args = #[v0] := by cases args; simp_all
  obtain ⟨rfl, rfl⟩ := trodVars_none hV
  have k0 := h0
  have lt0 : ∀ x ∈ p0, x.block < W.heap.size := by obtain ⟨m, hm⟩ := k0; exact DataW.trod_lt m _ _ _ hm
  obtain ⟨cs0, rfl⟩ := okWide_agg Try.underlying23 (hval 0 23 v0 rfl rfl)
  obtain ⟨⟨a0_0, a0_1⟩, hK0, y0_0, y0_1⟩ := opens_arg opArg0 hsz (j := 0) (t := 23) rfl rfl h0
  obtain ⟨_, _, e0_0, rfl, rfl⟩ := hK0
  have ec0 : cs0.toList = [.int .i64 a0_0, .string a0_1] := by have z := e0_0; simpa [Value.cells] using z
  obtain rfl : cs0 = #[.int .i64 a0_0, .string a0_1] := by rw [← Array.toArray_toList (xs := cs0), ec0]
  clear hA0 hval0 hsz0 hsz
  obtain ⟨k, hk⟩ := Pure.FnExactTokenOk a0_0 a0_1 y0_0 y0_1
  refine (laws_FnExactTokenOk.calls k a0_0 a0_1 true W  hk).mono fun e W' ⟨he, hd⟩ => ?_
  subst he
  have bel : Below W.heap.size W W' := hd
  exact ⟨_, rfl, _, _, _, [], _, [], hW', trodAll_mk1 (shut_bool Try.underlying4 _), (trodAll_cons_mk (Below.trod laidOut (by kernel_rfl) (of_decide_eq_true (by kernel_rfl)) k0 bel lt0) trodAll_mk0), rfl, bel.frame _, fun h => by cases h⟩
theorem over : Rows.fnExactTokenOkRow.holds Try.pinned (OpenSpec.ofChange Rows.fnExactTokenOkSpec) :=
  OpenClaim.holds_of_wide 3 Try.f3 rfl rfl rfl rfl rfl rfl rfl ⟨rfl, rfl, rfl, rfl, rfl⟩ rfl rfl rfl rfl rfl (by kernel_rfl) Try.func3 (by kernel_rfl)
    (of_decide_eq_true (by kernel_rfl)) (by unfold Func.isWrapper; first | (rw [if_pos (by decide +kernel)]; kernel_rfl) | (rw [if_neg (by decide +kernel)]; exact ⟨rfl, rfl⟩))
    (fun os started H enc _ => lifted os started H enc)
theorem proved : Rows.FnExactTokenOkSaid := over
#print axioms proved
end Go.Proofs.Ythpiinnmmdaloaa.fnExactTokenOk
namespace Go.Proofs.Ythpiinnmmdaloaa
/-- The row, under a short name, for the claim. -/
theorem fnExactTokenOk_holds : Rows.FnExactTokenOkSaid := fnExactTokenOk.proved
end Go.Proofs.Ythpiinnmmdaloaa
