/- The law FnExactDiskOk: for every argument that memory can hold it answers true, and leaves its arguments alone; out of its pure statement and the walk. No condition of its own. -/
import Derived.Test.YticedidmodmdnaaRows
import Derived.Test.YticedidmodmdnaaZDKPFnExactDiskOkx7
import Derived.Test.YticedidmodmdnaaZDKPureFnExactDiskOk
import Derived.Test.YticedidmodmdnaaZDKOpens
import Derived.WalkKit
import Derived.ProofKit
import Derived.OpenShut
import Derived.ShutString
import Derived.ChangeOld
import Derived.Below
import Derived.SizedLaws
namespace Go.Proofs.Yticedidmodmdnaa.fnExactDiskOk
open Go.ChangeShapes Go.WideShapes Go.ChangeAt Go.RowKit
open Go.Proofs.Yticedidmodmdnaa.PFnExactDiskOk Go.Proofs.Yticedidmodmdnaa.Opens Go.Proofs.YticedidmodmdnaaW.PrintWords
set_option linter.unusedVariables false
theorem own : ownKnob Try.prog.godebug = none := by kernel_rfl
theorem laidOut : laidOutB Try.prog = true := by kernel_rfl
theorem op111 : Opens Try.prog 111 k111 (fun x : S111 => ((-9223372036854775808 ≤ x.f0 ∧ x.f0 ≤ 9223372036854775807) ∧ (x.f1.length * 1 ≤ 140737488351232 ∧ ∀ e0 ∈ x.f1, (0 ≤ e0 ∧ e0 ≤ 255)))) := opens_iso (V := fun x : Int × List Int => (-9223372036854775808 ≤ x.1 ∧ x.1 ≤ 9223372036854775807) ∧ (x.2.length * 1 ≤ 140737488351232 ∧ ∀ e0 ∈ x.2, (0 ≤ e0 ∧ e0 ≤ 255))) _ (fun p => ⟨p.1, p.2⟩) (fun _ => rfl) (fun _ h => h) (by refine opens_struct Try.underlying111 (by kernel_rfl) ?_; exact (by refine opensF_cons (V := fun x : Int => (-9223372036854775808 ≤ x ∧ x ≤ 9223372036854775807)) (V' := fun x : List Int => (x.length * 1 ≤ 140737488351232 ∧ ∀ e0 ∈ x, (0 ≤ e0 ∧ e0 ≤ 255))) rfl ?_ ?_; exact (opens_i64 Try.underlying3 (by kernel_rfl)); exact (by refine opensF_one (V := fun x : List Int => (x.length * 1 ≤ 140737488351232 ∧ ∀ e0 ∈ x, (0 ≤ e0 ∧ e0 ≤ 255))) rfl ?_; exact (opens_slice Try.underlying43 (by kernel_rfl) (B := 1) (by kernel_rfl) (opens_u8 Try.underlying5 (by kernel_rfl))))))
theorem op82 : Opens Try.prog 82 k82 (fun x : S82 => ((-9223372036854775808 ≤ x.f0 ∧ x.f0 ≤ 9223372036854775807) ∧ (-9223372036854775808 ≤ x.f1 ∧ x.f1 ≤ 9223372036854775807) ∧ (-9223372036854775808 ≤ x.f2 ∧ x.f2 ≤ 9223372036854775807))) := opens_iso (V := fun x : Int × Int × Int => (-9223372036854775808 ≤ x.1 ∧ x.1 ≤ 9223372036854775807) ∧ (-9223372036854775808 ≤ x.2.1 ∧ x.2.1 ≤ 9223372036854775807) ∧ (-9223372036854775808 ≤ x.2.2 ∧ x.2.2 ≤ 9223372036854775807)) _ (fun p => ⟨p.1, p.2.1, p.2.2⟩) (fun _ => rfl) (fun _ h => h) (by refine opens_struct Try.underlying82 (by kernel_rfl) ?_; exact (by refine opensF_cons (V := fun x : Int => (-9223372036854775808 ≤ x ∧ x ≤ 9223372036854775807)) (V' := fun x : Int × Int => (-9223372036854775808 ≤ x.1 ∧ x.1 ≤ 9223372036854775807) ∧ (-9223372036854775808 ≤ x.2 ∧ x.2 ≤ 9223372036854775807)) rfl ?_ ?_; exact (opens_i64 Try.underlying3 (by kernel_rfl)); exact (by refine opensF_cons (V := fun x : Int => (-9223372036854775808 ≤ x ∧ x ≤ 9223372036854775807)) (V' := fun x : Int => (-9223372036854775808 ≤ x ∧ x ≤ 9223372036854775807)) rfl ?_ ?_; exact (opens_i64 Try.underlying3 (by kernel_rfl)); exact (by refine opensF_one (V := fun x : Int => (-9223372036854775808 ≤ x ∧ x ≤ 9223372036854775807)) rfl ?_; exact (opens_i64 Try.underlying3 (by kernel_rfl))))))
theorem opArg0 : Opens Try.prog 26 (Kd.pair (Kd.slice 43 (Kd.slice 5 (Kd.int .u8))) (Kd.pair (Kd.slice 111 k111) (Kd.pair (Kd.int .i64) (Kd.pair (Kd.slice 82 k82) Kd.bool)))) (fun x : (List (List Int)) × (List (S111)) × Int × (List (S82)) × Bool => (x.1.length * 24 ≤ 140737488351232 ∧ ∀ e0 ∈ x.1, (e0.length * 1 ≤ 140737488351232 ∧ ∀ e1 ∈ e0, (0 ≤ e1 ∧ e1 ≤ 255))) ∧ (x.2.1.length * 32 ≤ 140737488351232 ∧ ∀ e0 ∈ x.2.1, ((-9223372036854775808 ≤ e0.f0 ∧ e0.f0 ≤ 9223372036854775807) ∧ (e0.f1.length * 1 ≤ 140737488351232 ∧ ∀ e1 ∈ e0.f1, (0 ≤ e1 ∧ e1 ≤ 255)))) ∧ (-9223372036854775808 ≤ x.2.2.1 ∧ x.2.2.1 ≤ 9223372036854775807) ∧ (x.2.2.2.1.length * 24 ≤ 140737488351232 ∧ ∀ e0 ∈ x.2.2.2.1, ((-9223372036854775808 ≤ e0.f0 ∧ e0.f0 ≤ 9223372036854775807) ∧ (-9223372036854775808 ≤ e0.f1 ∧ e0.f1 ≤ 9223372036854775807) ∧ (-9223372036854775808 ≤ e0.f2 ∧ e0.f2 ≤ 9223372036854775807))) ∧ True) := by refine opens_struct Try.underlying26 (by kernel_rfl) ?_; exact (by refine opensF_cons (V := fun x : List (List Int) => (x.length * 24 ≤ 140737488351232 ∧ ∀ e0 ∈ x, (e0.length * 1 ≤ 140737488351232 ∧ ∀ e1 ∈ e0, (0 ≤ e1 ∧ e1 ≤ 255)))) (V' := fun x : (List (S111)) × Int × (List (S82)) × Bool => (x.1.length * 32 ≤ 140737488351232 ∧ ∀ e0 ∈ x.1, ((-9223372036854775808 ≤ e0.f0 ∧ e0.f0 ≤ 9223372036854775807) ∧ (e0.f1.length * 1 ≤ 140737488351232 ∧ ∀ e1 ∈ e0.f1, (0 ≤ e1 ∧ e1 ≤ 255)))) ∧ (-9223372036854775808 ≤ x.2.1 ∧ x.2.1 ≤ 9223372036854775807) ∧ (x.2.2.1.length * 24 ≤ 140737488351232 ∧ ∀ e0 ∈ x.2.2.1, ((-9223372036854775808 ≤ e0.f0 ∧ e0.f0 ≤ 9223372036854775807) ∧ (-9223372036854775808 ≤ e0.f1 ∧ e0.f1 ≤ 9223372036854775807) ∧ (-9223372036854775808 ≤ e0.f2 ∧ e0.f2 ≤ 9223372036854775807))) ∧ True) rfl ?_ ?_; exact (opens_slice Try.underlying22 (by kernel_rfl) (B := 24) (by kernel_rfl) (opens_slice Try.underlying43 (by kernel_rfl) (B := 1) (by kernel_rfl) (opens_u8 Try.underlying5 (by kernel_rfl)))); exact (by refine opensF_cons (V := fun x : List (S111) => (x.length * 32 ≤ 140737488351232 ∧ ∀ e0 ∈ x, ((-9223372036854775808 ≤ e0.f0 ∧ e0.f0 ≤ 9223372036854775807) ∧ (e0.f1.length * 1 ≤ 140737488351232 ∧ ∀ e1 ∈ e0.f1, (0 ≤ e1 ∧ e1 ≤ 255))))) (V' := fun x : Int × (List (S82)) × Bool => (-9223372036854775808 ≤ x.1 ∧ x.1 ≤ 9223372036854775807) ∧ (x.2.1.length * 24 ≤ 140737488351232 ∧ ∀ e0 ∈ x.2.1, ((-9223372036854775808 ≤ e0.f0 ∧ e0.f0 ≤ 9223372036854775807) ∧ (-9223372036854775808 ≤ e0.f1 ∧ e0.f1 ≤ 9223372036854775807) ∧ (-9223372036854775808 ≤ e0.f2 ∧ e0.f2 ≤ 9223372036854775807))) ∧ True) rfl ?_ ?_; exact (opens_slice Try.underlying23 (by kernel_rfl) (B := 32) (by kernel_rfl) op111); exact (by refine opensF_cons (V := fun x : Int => (-9223372036854775808 ≤ x ∧ x ≤ 9223372036854775807)) (V' := fun x : (List (S82)) × Bool => (x.1.length * 24 ≤ 140737488351232 ∧ ∀ e0 ∈ x.1, ((-9223372036854775808 ≤ e0.f0 ∧ e0.f0 ≤ 9223372036854775807) ∧ (-9223372036854775808 ≤ e0.f1 ∧ e0.f1 ≤ 9223372036854775807) ∧ (-9223372036854775808 ≤ e0.f2 ∧ e0.f2 ≤ 9223372036854775807))) ∧ True) rfl ?_ ?_; exact (opens_i64 Try.underlying3 (by kernel_rfl)); exact (by refine opensF_cons (V := fun x : List (S82) => (x.length * 24 ≤ 140737488351232 ∧ ∀ e0 ∈ x, ((-9223372036854775808 ≤ e0.f0 ∧ e0.f0 ≤ 9223372036854775807) ∧ (-9223372036854775808 ≤ e0.f1 ∧ e0.f1 ≤ 9223372036854775807) ∧ (-9223372036854775808 ≤ e0.f2 ∧ e0.f2 ≤ 9223372036854775807)))) (V' := fun x : Bool => True) rfl ?_ ?_; exact (opens_slice Try.underlying24 (by kernel_rfl) (B := 24) (by kernel_rfl) op82); exact (by refine opensF_one (V := fun x : Bool => True) rfl ?_; exact (opens_bool Try.underlying4 (by kernel_rfl)))))))
set_option maxRecDepth 100000 in
theorem lifted (os : Os) (started : os.Started) (H : Type) (enc : TypeId × Value → H) :
    ReturnsInHanded {} Try.checked os 3 .any (Rows.fnExactDiskOkSpec.pre6 enc Try.prog Try.f3 Rows.fnExactDiskOkRow.domain false) (Rows.fnExactDiskOkSpec.post enc Try.prog Try.f3 false true false false) := by
  refine returnsInHanded_of_change_sized (C := Try.checked) own started (by kernel_rfl) Try.func3
    (ChangeSpec.witness6 (enc := enc) (C := Try.checked) false ⟨#[], #[.agg #[.slice none 0 0, .slice none 0 0, .int .i64 0, .slice none 0 0, .bool false]], []⟩ 8 (by kernel_rfl) (by kernel_rfl) (by kernel_rfl) (by kernel_rfl)) ?_
  intro W base args ds gs before hval0 hW hcnd hsz0 _
  have hsz : (DataW.weightsEach Try.prog (Try.f3.params.toList ++ Rows.fnExactDiskOkSpec.plain.varTypes Try.prog) (ds ++ gs)).all (· ≤ reachBytes) = true := hsz0
  have hval : ∀ (j : Nat) t v, Try.f3.params[j]? = some t → args[j]? = some v → Value.okWide Try.prog W .any base t v := hval0
  have hW' := hW
  obtain ⟨p, q, hA0, hV, rfl, hfz, hnd⟩ := hW
  have hA : DataW.TrodAll enc Try.prog W 0 (fun _ => true) true Try.f3.params.toList args.toList ds p := hA0
  rw [Try.params3] at hA hval hsz
  obtain ⟨v0, vs0, d0, ds0, p0, q0, hargs, rfl, rfl, h0, r0⟩ := trodAll_cons hA
  obtain ⟨rfl, rfl, rfl⟩ := trodAll_nil r0
  obtain rfl : args = #[v0] := by cases args; simp_all
  obtain ⟨rfl, rfl⟩ := trodVars_none hV
  have k0 := h0
  have lt0 : ∀ x ∈ p0, x.block < W.heap.size := by obtain ⟨m, hm⟩ := k0; exact DataW.trod_lt m _ _ _ hm
  obtain ⟨cs0, rfl⟩ := okWide_agg Try.underlying26 (hval 0 26 v0 rfl rfl)
  obtain ⟨⟨l0_0, l0_1, a0_2, l0_3, a0_4⟩, hK0, y0_0, y0_1, y0_2, y0_3, y0_4⟩ := opens_arg opArg0 hsz (j := 0) (t := 26) rfl rfl h0
  obtain ⟨_, _, e0_0, ⟨A0_0, c0_0, rfl, hc0_0, hr0_0⟩, ⟨_, _, e0_1, ⟨A0_1, c0_1, rfl, hc0_1, hr0_1⟩, ⟨_, _, e0_2, rfl, ⟨_, _, e0_3, ⟨A0_3, c0_3, rfl, hc0_3, hr0_3⟩, rfl⟩⟩⟩⟩ := hK0
  have ec0 : cs0.toList = [.slice A0_0 l0_0.length c0_0, .slice A0_1 l0_1.length c0_1, .int .i64 a0_2, .slice A0_3 l0_3.length c0_3, .bool a0_4] := by have z := e0_0; rw [e0_1, e0_2, e0_3] at z; simpa [Value.cells] using z
  obtain rfl : cs0 = #[.slice A0_0 l0_0.length c0_0, .slice A0_1 l0_1.length c0_1, .int .i64 a0_2, .slice A0_3 l0_3.length c0_3, .bool a0_4] := by rw [← Array.toArray_toList (xs := cs0), ec0]
  clear hA0 hval0 hsz0 hsz
  obtain ⟨k, hk⟩ := Pure.FnExactDiskOk l0_0 l0_1 a0_2 l0_3 a0_4 y0_0 y0_1 y0_2 y0_3
  refine (laws_FnExactDiskOk.calls k _ _ l0_0 _ _ l0_1 a0_2 _ _ l0_3 a0_4 true W hr0_0 hc0_0 hr0_1 hc0_1 hr0_3 hc0_3 (Aside0.mk rfl) hk).mono fun e W' ⟨he, hd⟩ => ?_
  subst he
  have bel : Below W.heap.size W W' := hd
  exact ⟨_, rfl, _, _, _, [], _, [], hW', trodAll_mk1 (shut_bool Try.underlying4 _), (trodAll_cons_mk (Below.trod laidOut (by kernel_rfl) (of_decide_eq_true (by kernel_rfl)) k0 bel lt0) trodAll_mk0), rfl, bel.frame _, fun h => by cases h⟩
theorem over : Rows.fnExactDiskOkRow.holds Try.pinned (OpenSpec.ofChange Rows.fnExactDiskOkSpec) :=
  OpenClaim.holds_of_wide 3 Try.f3 rfl rfl rfl rfl rfl rfl rfl ⟨rfl, rfl, rfl, rfl, rfl⟩ rfl rfl rfl rfl rfl (by kernel_rfl) Try.func3 (by kernel_rfl)
    (of_decide_eq_true (by kernel_rfl)) (by unfold Func.isWrapper; first | (rw [if_pos (by decide +kernel)]; kernel_rfl) | (rw [if_neg (by decide +kernel)]; exact ⟨rfl, rfl⟩))
    (fun os started H enc _ => lifted os started H enc)
theorem proved : Rows.FnExactDiskOkSaid := over
#print axioms proved
end Go.Proofs.Yticedidmodmdnaa.fnExactDiskOk
namespace Go.Proofs.Yticedidmodmdnaa
/-- The row, under a short name, for the claim. -/
theorem fnExactDiskOk_holds : Rows.FnExactDiskOkSaid := fnExactDiskOk.proved
end Go.Proofs.Yticedidmodmdnaa
