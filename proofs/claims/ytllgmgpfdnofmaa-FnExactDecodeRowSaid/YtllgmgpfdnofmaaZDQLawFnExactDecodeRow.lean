/- The law FnExactDecodeRow: for every argument that memory can hold it answers true, and leaves its arguments alone; out of its pure statement and the walk. No condition of its own. -/
import Derived.Test.YtllgmgpfdnofmaaRows
import Derived.Test.YtllgmgpfdnofmaaZDQPFnExactDecodeRowx14
import Derived.Test.YtllgmgpfdnofmaaZDQPureFnExactDecodeRow
import Derived.Test.YtllgmgpfdnofmaaZDQOpens
import Derived.WalkKit
import Derived.ProofKit
import Derived.OpenShut
import Derived.ShutString
import Derived.ChangeOld
import Derived.Below
import Derived.SizedLaws
namespace Go.Proofs.Ytllgmgpfdnofmaa.fnExactDecodeRow
open Go.ChangeShapes Go.WideShapes Go.ChangeAt Go.RowKit
open Go.Proofs.Ytllgmgpfdnofmaa.PFnExactDecodeRow Go.Proofs.Ytllgmgpfdnofmaa.Opens Go.Proofs.YtllgmgpfdnofmaaW.PrintWords
set_option linter.unusedVariables false
theorem own : ownKnob Try.prog.godebug = none := by kernel_rfl
theorem laidOut : laidOutB Try.prog = true := by kernel_rfl
theorem op121 : Opens Try.prog 121 k121 (fun x : S121 => ((-9223372036854775808 ≤ x.f0 ∧ x.f0 ≤ 9223372036854775807) ∧ (-9223372036854775808 ≤ x.f1 ∧ x.f1 ≤ 9223372036854775807) ∧ True ∧ True)) := opens_iso (V := fun x : Int × Int × Bool × Bool => (-9223372036854775808 ≤ x.1 ∧ x.1 ≤ 9223372036854775807) ∧ (-9223372036854775808 ≤ x.2.1 ∧ x.2.1 ≤ 9223372036854775807) ∧ True ∧ True) _ (fun p => ⟨p.1, p.2.1, p.2.2.1, p.2.2.2⟩) (fun _ => rfl) (fun _ h => h) (by refine opens_struct Try.underlying121 (by kernel_rfl) ?_; exact (by refine opensF_cons (V := fun x : Int => (-9223372036854775808 ≤ x ∧ x ≤ 9223372036854775807)) (V' := fun x : Int × Bool × Bool => (-9223372036854775808 ≤ x.1 ∧ x.1 ≤ 9223372036854775807) ∧ True ∧ True) rfl ?_ ?_; exact (opens_i64 Try.underlying3 (by kernel_rfl)); exact (by refine opensF_cons (V := fun x : Int => (-9223372036854775808 ≤ x ∧ x ≤ 9223372036854775807)) (V' := fun x : Bool × Bool => True ∧ True) rfl ?_ ?_; exact (opens_i64 Try.underlying3 (by kernel_rfl)); exact (by refine opensF_cons (V := fun x : Bool => True) (V' := fun x : Bool => True) rfl ?_ ?_; exact (opens_bool Try.underlying4 (by kernel_rfl)); exact (by refine opensF_one (V := fun x : Bool => True) rfl ?_; exact (opens_bool Try.underlying4 (by kernel_rfl)))))))
theorem opArg0 : Opens Try.prog 43 (Kd.slice 121 k121) (fun x : List (S121) => (x.length * 24 ≤ 140737488351232 ∧ ∀ e0 ∈ x, ((-9223372036854775808 ≤ e0.f0 ∧ e0.f0 ≤ 9223372036854775807) ∧ (-9223372036854775808 ≤ e0.f1 ∧ e0.f1 ≤ 9223372036854775807) ∧ True ∧ True))) := (opens_slice Try.underlying43 (by kernel_rfl) (B := 24) (by kernel_rfl) op121)
theorem opArg1 : Opens Try.prog 27 (Kd.slice 5 (Kd.int .u8)) (fun x : List Int => (x.length * 1 ≤ 140737488351232 ∧ ∀ e0 ∈ x, (0 ≤ e0 ∧ e0 ≤ 255))) := (opens_slice Try.underlying27 (by kernel_rfl) (B := 1) (by kernel_rfl) (opens_u8 Try.underlying5 (by kernel_rfl)))
set_option maxRecDepth 100000 in
theorem lifted (os : Os) (started : os.Started) (H : Type) (enc : TypeId × Value → H) :
    ReturnsInHanded {} Try.checked os 8 .any (Rows.fnExactDecodeRowSpec.pre6 enc Try.prog Try.f8 Rows.fnExactDecodeRowRow.domain false) (Rows.fnExactDecodeRowSpec.post enc Try.prog Try.f8 false true false false) := by
  refine returnsInHanded_of_change_sized (C := Try.checked) own started (by kernel_rfl) Try.func8
    (ChangeSpec.witness6 (enc := enc) (C := Try.checked) false ⟨#[], #[.slice none 0 0, .slice none 0 0], []⟩ 8 (by kernel_rfl) (by kernel_rfl) (by kernel_rfl) (by kernel_rfl)) ?_
  intro W base args ds gs before hval0 hW hcnd hsz0 _
  have hsz : (DataW.weightsEach Try.prog (Try.f8.params.toList ++ Rows.fnExactDecodeRowSpec.plain.varTypes Try.prog) (ds ++ gs)).all (· ≤ reachBytes) = true := hsz0
  have hval : ∀ (j : Nat) t v, Try.f8.params[j]? = some t → args[j]? = some v → Value.okWide Try.prog W .any base t v := hval0
  have hW' := hW
  obtain ⟨p, q, hA0, hV, rfl, hfz, hnd⟩ := hW
  have hA : DataW.TrodAll enc Try.prog W 0 (fun _ => true) true Try.f8.params.toList args.toList ds p := hA0
  rw [Try.params8] at hA hval hsz
  obtain ⟨v0, vs0, d0, ds0, p0, q0, hargs, rfl, rfl, h0, r0⟩ := trodAll_cons hA
  obtain ⟨v1, vs1, d1, ds1, p1, q1, rfl, rfl, rfl, h1, r1⟩ := trodAll_cons r0
  obtain ⟨rfl, rfl, rfl⟩ := trodAll_nil r1
  obtain rfl : args = #[v0, v1] := by cases args; simp_all
  obtain ⟨rfl, rfl⟩ := trodVars_none hV
  have k0 := h0
  have lt0 : ∀ x ∈ p0, x.block < W.heap.size := by obtain ⟨m, hm⟩ := k0; exact DataW.trod_lt m _ _ _ hm
  obtain ⟨A0, n0, c0, rfl⟩ := okWide_slice Try.underlying43 (hval 0 43 v0 rfl rfl)
  obtain ⟨l0, hK0, y0⟩ := opens_arg opArg0 hsz (j := 0) (t := 43) rfl rfl h0
  obtain ⟨A_, c_, e0, hc0, hr0⟩ := hK0
  have f0 : Value.slice A0 n0 c0 = .slice A_ l0.length c_ := by simpa [Value.cells] using e0
  injection f0 with f1 f2 f3
  subst f1 f2 f3
  have k1 := h1
  have lt1 : ∀ x ∈ p1, x.block < W.heap.size := by obtain ⟨m, hm⟩ := k1; exact DataW.trod_lt m _ _ _ hm
  obtain ⟨A1, n1, c1, rfl⟩ := okWide_slice Try.underlying27 (hval 1 27 v1 rfl rfl)
  obtain ⟨l1, hK1, y1⟩ := opens_arg opArg1 hsz (j := 1) (t := 27) rfl rfl h1
  obtain ⟨A_, c_, e1, hc1, hr1⟩ := hK1
  have f1 : Value.slice A1 n1 c1 = .slice A_ l1.length c_ := by simpa [Value.cells] using e1
  injection f1 with f1 f2 f3
  subst f1 f2 f3
  clear hA0 hval0 hsz0 hsz
  obtain ⟨k, hk⟩ := Pure.FnExactDecodeRow l0 l1 y0 y1
  refine (laws_FnExactDecodeRow.calls k _ _ l0 _ _ l1 true W hr0 hc0 hr1 hc1 hk).mono fun e W' ⟨he, hd⟩ => ?_
  subst he
  have bel : Below W.heap.size W W' := hd
  exact ⟨_, rfl, _, _, _, [], _, [], hW', trodAll_mk1 (shut_bool Try.underlying4 _), (trodAll_cons_mk (Below.trod laidOut (by kernel_rfl) (of_decide_eq_true (by kernel_rfl)) k0 bel lt0) (trodAll_cons_mk (Below.trod laidOut (by kernel_rfl) (of_decide_eq_true (by kernel_rfl)) k1 bel lt1) trodAll_mk0)), rfl, bel.frame _, fun h => by cases h⟩
theorem over : Rows.fnExactDecodeRowRow.holds Try.pinned (OpenSpec.ofChange Rows.fnExactDecodeRowSpec) :=
  OpenClaim.holds_of_wide 8 Try.f8 rfl rfl rfl rfl rfl rfl rfl ⟨rfl, rfl, rfl, rfl, rfl⟩ rfl rfl rfl rfl rfl (by kernel_rfl) Try.func8 (by kernel_rfl)
    (of_decide_eq_true (by kernel_rfl)) (by unfold Func.isWrapper; first | (rw [if_pos (by decide +kernel)]; kernel_rfl) | (rw [if_neg (by decide +kernel)]; exact ⟨rfl, rfl⟩))
    (fun os started H enc _ => lifted os started H enc)
theorem proved : Rows.FnExactDecodeRowSaid := over
#print axioms proved
end Go.Proofs.Ytllgmgpfdnofmaa.fnExactDecodeRow
namespace Go.Proofs.Ytllgmgpfdnofmaa
/-- The row, under a short name, for the claim. -/
theorem fnExactDecodeRow_holds : Rows.FnExactDecodeRowSaid := fnExactDecodeRow.proved
end Go.Proofs.Ytllgmgpfdnofmaa
