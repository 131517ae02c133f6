/- The law FnRowsRead: for every argument that memory can hold it answers true, and leaves its arguments alone; out of its pure statement and the walk. No condition of its own. -/
import Derived.Test.YtllgmgpfdnofmaaRows
import Derived.Test.YtllgmgpfdnofmaaZRRPFnRowsReadx14
import Derived.Test.YtllgmgpfdnofmaaZRRPureFnRowsRead
import Derived.Test.YtllgmgpfdnofmaaZRROpens
import Derived.WalkKit
import Derived.ProofKit
import Derived.OpenShut
import Derived.ShutString
import Derived.ChangeOld
import Derived.Below
import Derived.SizedLaws
namespace Go.Proofs.Ytllgmgpfdnofmaa.fnRowsRead
open Go.ChangeShapes Go.WideShapes Go.ChangeAt Go.RowKit
open Go.Proofs.Ytllgmgpfdnofmaa.PFnRowsRead Go.Proofs.Ytllgmgpfdnofmaa.Opens Go.Proofs.YtllgmgpfdnofmaaW.PrintWords
set_option linter.unusedVariables false
theorem own : ownKnob Try.prog.godebug = none := by kernel_rfl
theorem laidOut : laidOutB Try.prog = true := by kernel_rfl
theorem opArg0 : Opens Try.prog 27 (Kd.slice 5 (Kd.int .u8)) (fun x : List Int => (x.length * 1 ≤ 140737488351232 ∧ ∀ e0 ∈ x, (0 ≤ e0 ∧ e0 ≤ 255))) := (opens_slice Try.underlying27 (by kernel_rfl) (B := 1) (by kernel_rfl) (opens_u8 Try.underlying5 (by kernel_rfl)))
set_option maxRecDepth 100000 in
theorem lifted (os : Os) (started : os.Started) (H : Type) (enc : TypeId × Value → H) :
    ReturnsInHanded {} Try.checked os 9 .any (Rows.fnRowsReadSpec.pre6 enc Try.prog Try.f9 Rows.fnRowsReadRow.domain false) (Rows.fnRowsReadSpec.post enc Try.prog Try.f9 false true false false) := by
  refine returnsInHanded_of_change_sized (C := Try.checked) own started (by kernel_rfl) Try.func9
    (ChangeSpec.witness6 (enc := enc) (C := Try.checked) false ⟨#[], #[.slice none 0 0], []⟩ 8 (by kernel_rfl) (by kernel_rfl) (by kernel_rfl) (by kernel_rfl)) ?_
  intro W base args ds gs before hval0 hW hcnd hsz0 _
  have hsz : (DataW.weightsEach Try.prog (Try.f9.params.toList ++ Rows.fnRowsReadSpec.plain.varTypes Try.prog) (ds ++ gs)).all (· ≤ reachBytes) = true := hsz0
  have hval : ∀ (j : Nat) t v, Try.f9.params[j]? = some t → args[j]? = some v → Value.okWide Try.prog W .any base t v := hval0
  have hW' := hW
  obtain ⟨p, q, hA0, hV, rfl, hfz, hnd⟩ := hW
  have hA : DataW.TrodAll enc Try.prog W 0 (fun _ => true) true Try.f9.params.toList args.toList ds p := hA0
  rw [Try.params9] at hA hval hsz
  obtain ⟨v0, vs0, d0, ds0, p0, q0, hargs, rfl, rfl, h0, r0⟩ := trodAll_cons hA
  obtain ⟨rfl, rfl, rfl⟩ := trodAll_nil r0
  obtain rfl : args = #[v0] := by cases args; simp_all
  obtain ⟨rfl, rfl⟩ := trodVars_none hV
  have k0 := h0
  have lt0 : ∀ x ∈ p0, x.block < W.heap.size := by obtain ⟨m, hm⟩ := k0; exact DataW.trod_lt m _ _ _ hm
  obtain ⟨A0, n0, c0, rfl⟩ := okWide_slice Try.underlying27 (hval 0 27 v0 rfl rfl)
  obtain ⟨l0, hK0, y0⟩ := opens_arg opArg0 hsz (j := 0) (t := 27) rfl rfl h0
  obtain ⟨A_, c_, e0, hc0, hr0⟩ := hK0
  have f0 : Value.slice A0 n0 c0 = .slice A_ l0.length c_ := by simpa [Value.cells] using e0
  injection f0 with f1 f2 f3
  subst f1 f2 f3
  clear hA0 hval0 hsz0 hsz
  obtain ⟨k, hk⟩ := Pure.FnRowsRead l0 y0
  refine (laws_FnRowsRead.calls k _ _ l0 true W hr0 hc0 (Aside0.mk rfl) hk).mono fun e W' ⟨he, hd⟩ => ?_
  subst he
  have bel : Below W.heap.size W W' := hd
  exact ⟨_, rfl, _, _, _, [], _, [], hW', trodAll_mk1 (shut_bool Try.underlying4 _), (trodAll_cons_mk (Below.trod laidOut (by kernel_rfl) (of_decide_eq_true (by kernel_rfl)) k0 bel lt0) trodAll_mk0), rfl, bel.frame _, fun h => by cases h⟩
theorem over : Rows.fnRowsReadRow.holds Try.pinned (OpenSpec.ofChange Rows.fnRowsReadSpec) :=
  OpenClaim.holds_of_wide 9 Try.f9 rfl rfl rfl rfl rfl rfl rfl ⟨rfl, rfl, rfl, rfl, rfl⟩ rfl rfl rfl rfl rfl (by kernel_rfl) Try.func9 (by kernel_rfl)
    (of_decide_eq_true (by kernel_rfl)) (by unfold Func.isWrapper; first | (rw [if_pos (by decide +kernel)]; kernel_rfl) | (rw [if_neg (by decide +kernel)]; exact ⟨rfl, rfl⟩))
    (fun os started H enc _ => lifted os started H enc)
theorem proved : Rows.FnRowsReadSaid := over
#print axioms proved
end Go.Proofs.Ytllgmgpfdnofmaa.fnRowsRead
namespace Go.Proofs.Ytllgmgpfdnofmaa
/-- The row, under a short name, for the claim. -/
theorem fnRowsRead_holds : Rows.FnRowsReadSaid := fnRowsRead.proved
end Go.Proofs.Ytllgmgpfdnofmaa
