/- The law FnExactPutPage: for every argument that memory can hold it answers true, and leaves its arguments alone; out of its pure statement and the walk. No condition of its own. -/
import Derived.Test.YthpiinnmmdaloaaRows
import Derived.Test.YthpiinnmmdaloaaPFnExactPutPagex3
import Derived.Test.YthpiinnmmdaloaaPureFnExactPutPage
import Derived.Test.YthpiinnmmdaloaaOpens
import Derived.WalkKit
import Derived.ProofKit
import Derived.OpenShut
import Derived.ShutString
import Derived.ChangeOld
import Derived.Below
import Derived.SizedLaws
namespace Go.Proofs.Ythpiinnmmdaloaa.fnExactPutPage
open Go.ChangeShapes Go.WideShapes Go.ChangeAt Go.RowKit
open Go.Proofs.Ythpiinnmmdaloaa.PFnExactPutPage Go.Proofs.Ythpiinnmmdaloaa.Opens Go.Proofs.YthpiinnmmdaloaaW.PrintWords
set_option linter.unusedVariables false
theorem own : ownKnob Try.prog.godebug = none := by kernel_rfl
theorem laidOut : laidOutB Try.prog = true := by kernel_rfl
theorem opArg0 : Opens Try.prog 3 (Kd.int .i64) (fun x : Int => (-9223372036854775808 ≤ x ∧ x ≤ 9223372036854775807)) := (opens_i64 Try.underlying3 (by kernel_rfl))
theorem opArg1 : Opens Try.prog 29 (Kd.slice 5 (Kd.int .u8)) (fun x : List Int => (x.length * 1 ≤ 140737488351232 ∧ ∀ e0 ∈ x, (0 ≤ e0 ∧ e0 ≤ 255))) := (opens_slice Try.underlying29 (by kernel_rfl) (B := 1) (by kernel_rfl) (opens_u8 Try.underlying5 (by kernel_rfl)))
set_option maxRecDepth 100000 in
theorem lifted (os : Os) (started : os.Started) (H : Type) (enc : TypeId × Value → H) :
    ReturnsInHanded {} Try.checked os 4 .any (Rows.fnExactPutPageSpec.pre6 enc Try.prog Try.f4 Rows.fnExactPutPageRow.domain false) (Rows.fnExactPutPageSpec.post enc Try.prog Try.f4 false true false false) := by
  refine returnsInHanded_of_change_sized (C := Try.checked) own started (by kernel_rfl) Try.func4
    (ChangeSpec.witness6 (enc := enc) (C := Try.checked) false ⟨#[], #[.int .i64 0, .slice none 0 0], []⟩ 8 (by kernel_rfl) (by kernel_rfl) (by kernel_rfl) (by kernel_rfl)) ?_
  intro W base args ds gs before hval0 hW hcnd hsz0 _
  have hsz : (DataW.weightsEach Try.prog (Try.f4.params.toList ++ Rows.fnExactPutPageSpec.plain.varTypes Try.prog) (ds ++ gs)).all (· ≤ reachBytes) = true := hsz0
  have hval : ∀ (j : Nat) t v, Try.f4.params[j]? = some t → args[j]? = some v → Value.okWide Try.prog W .any base t v := hval0
  have hW' := hW
  obtain ⟨p, q, hA0, hV, rfl, hfz, hnd⟩ := hW
  have hA : DataW.TrodAll enc Try.prog W 0 (fun _ => true) true Try.f4.params.toList args.toList ds p := hA0
  rw [Try.params4] at hA hval hsz
  obtain ⟨v0, vs0, d0, ds0, p0, q0, hargs, rfl, rfl, h0, r0⟩ := trodAll_cons hA
  obtain ⟨v1, vs1, d1, ds1, p1, q1, rfl, rfl, rfl, h1, r1⟩ := trodAll_cons r0
  obtain ⟨rfl, rfl, rfl⟩ := trodAll_nil r1
  obtain rfl : args = #[v0, v1] := by cases args; simp_all
  obtain ⟨rfl, rfl⟩ := trodVars_none hV
  have k0 := h0
  have lt0 : ∀ x ∈ p0, x.block < W.heap.size := by obtain ⟨m, hm⟩ := k0; exact DataW.trod_lt m _ _ _ hm
  obtain ⟨a0, rfl, rfl, rfl, w0⟩ := open_int Try.underlying3 (hval 0 3 v0 rfl rfl) h0
  have y0 := wf_i64 w0
  have k1 := h1
  have lt1 : ∀ x ∈ p1, x.block < W.heap.size := by obtain ⟨m, hm⟩ := k1; exact DataW.trod_lt m _ _ _ hm
  obtain ⟨A1, n1, c1, rfl⟩ := okWide_slice Try.underlying29 (hval 1 29 v1 rfl rfl)
  obtain ⟨l1, hK1, y1⟩ := opens_arg opArg1 hsz (j := 1) (t := 29) rfl rfl h1
  obtain ⟨A_, c_, e1, hc1, hr1⟩ := hK1
  have f1 : Value.slice A1 n1 c1 = .slice A_ l1.length c_ := by simpa [Value.cells] using e1
  injection f1 with f1 f2 f3
  subst f1 f2 f3
  clear hA0 hval0 hsz0 hsz
  obtain ⟨k, hk⟩ := Pure.FnExactPutPage a0 l1 y0 y1
  refine (laws_FnExactPutPage.calls k a0 _ _ l1 true W hr1 hc1 hk).mono fun e W' ⟨he, hd⟩ => ?_
  subst he
  have bel : Below W.heap.size W W' := hd
  exact ⟨_, rfl, _, _, _, [], _, [], hW', trodAll_mk1 (shut_bool Try.underlying4 _), (trodAll_cons_mk (Below.trod laidOut (by kernel_rfl) (of_decide_eq_true (by kernel_rfl)) k0 bel lt0) (trodAll_cons_mk (Below.trod laidOut (by kernel_rfl) (of_decide_eq_true (by kernel_rfl)) k1 bel lt1) trodAll_mk0)), rfl, bel.frame _, fun h => by cases h⟩
theorem over : Rows.fnExactPutPageRow.holds Try.pinned (OpenSpec.ofChange Rows.fnExactPutPageSpec) :=
  OpenClaim.holds_of_wide 4 Try.f4 rfl rfl rfl rfl rfl rfl rfl ⟨rfl, rfl, rfl, rfl, rfl⟩ rfl rfl rfl rfl rfl (by kernel_rfl) Try.func4 (by kernel_rfl)
    (of_decide_eq_true (by kernel_rfl)) (by unfold Func.isWrapper; first | (rw [if_pos (by decide +kernel)]; kernel_rfl) | (rw [if_neg (by decide +kernel)]; exact ⟨rfl, rfl⟩))
    (fun os started H enc _ => lifted os started H enc)
theorem proved : Rows.FnExactPutPageSaid := over
#print axioms proved
end Go.Proofs.Ythpiinnmmdaloaa.fnExactPutPage
namespace Go.Proofs.Ythpiinnmmdaloaa
/-- The row, under a short name, for the claim. -/
theorem fnExactPutPage_holds : Rows.FnExactPutPageSaid := fnExactPutPage.proved
end Go.Proofs.Ythpiinnmmdaloaa
