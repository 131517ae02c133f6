/- The law FnPagesRead: for every argument that memory can hold it answers true, and leaves its arguments alone. No condition of its own. -/
import Derived.Test.YticedidmodmdnaaRows
import Derived.Test.YticedidmodmdnaaPvPRx3
import Derived.WalkKit
import Derived.ProofKit
import Derived.OpenShut
import Derived.ShutString
import Derived.ChangeOld
import Derived.Below
import Derived.SizedLaws
set_option linter.unusedVariables false
set_option linter.unusedSimpArgs false

namespace Go.Proofs.Yticedidmodmdnaa.fnPagesRead
open Go.ChangeShapes Go.WideShapes Go.ChangeAt Go.RowKit
open Go.Proofs.Yticedidmodmdnaa Go.PV
set_option linter.unusedVariables false
theorem own : ownKnob Try.prog.godebug = none := by kernel_rfl
theorem laidOut : laidOutB Try.prog = true := by kernel_rfl
theorem told (args : TupT (T.fns 10).sig.ins) (h : ∀ x ∈ ofTup (T.fns 10).sig.ins args, okV x.s x.x) : ∃ out, T.tab 7 10 args = some out ∧ (ofTup (T.fns 10).sig.outs out).take 1 = [⟨.bool, true⟩] :=
  match args with
  | a0_0 => ⟨true, T.laws_FnPagesRead.pure (Nat.le_refl _) (h _ (List.Mem.head _)), rfl⟩
set_option maxRecDepth 100000 in
theorem lifted (os : Os) (started : os.Started) (H : Type) (enc : TypeId × Value → H) :
    ReturnsInHanded {} Try.checked os 10 .any (Rows.fnPagesReadSpec.pre6 enc Try.prog Try.f10 Rows.fnPagesReadRow.domain false) (Rows.fnPagesReadSpec.post enc Try.prog Try.f10 false true false false) := by
  refine returnsInHanded_of_change_sized (C := Try.checked) own started (by kernel_rfl) Try.func10
    (ChangeSpec.witness6 (enc := enc) (C := Try.checked) false ⟨#[], #[.slice none 0 0], []⟩ 8 (by kernel_rfl) (by kernel_rfl) (by kernel_rfl) (by kernel_rfl)) ?_
  intro W base args ds gs before hval0 hW hcnd hsz0 _
  have hsz : (DataW.weightsEach Try.prog (Try.f10.params.toList ++ Rows.fnPagesReadSpec.plain.varTypes Try.prog) (ds ++ gs)).all (· ≤ reachBytes) = true := hsz0
  have hval : ∀ (j : Nat) t v, Try.f10.params[j]? = some t → args[j]? = some v → Value.okWide Try.prog W .any base t v := hval0
  have hW' := hW
  obtain ⟨p, q, hA0, hV, rfl, hfz, hnd⟩ := hW
  have hA : DataW.TrodAll enc Try.prog W 0 (fun _ => true) true Try.f10.params.toList args.toList ds p := hA0
  rw [Try.params10] at hA hval hsz
  have hA1 := hA
  obtain ⟨v0, vs0, d0, ds0, p0, q0, hargs, rfl, rfl, h0, r0⟩ := trodAll_cons hA
  obtain ⟨rfl, rfl, rfl⟩ := trodAll_nil r0
  obtain rfl : args = #[v0] := by cases args; simp_all
  obtain ⟨rfl, rfl⟩ := trodVars_none hV
  have k0 := h0
  have lt0 : ∀ x ∈ p0, x.block < W.heap.size := by obtain ⟨m, hm⟩ := k0; exact DataW.trod_lt m _ _ _ hm
  have hz : ∀ k ∈ DataW.weightsEach Try.prog [43] [d0], k ≤ reachBytes := fun k hk => by
    have := List.all_eq_true.1 hsz k (show k ∈ DataW.weightsEach Try.prog ([43] ++ []) ([d0] ++ []) by simpa using hk)
    simpa using this
  refine (law_calls (T.sound 7 10) rfl (n := 20) (ts := [43]) (vs := [v0]) (by kernel_rfl) hA1 hz (fun j t v h1 h2 => hval j t v (by simpa using h1) (by simpa using h2)) told).mono fun e W' ⟨he, bel⟩ => ?_
  subst he
  exact ⟨_, rfl, _, _, _, [], _, [], hW', trodAll_mk1 (shut_bool Try.underlying4 _), (trodAll_cons_mk (Below.trod laidOut (by kernel_rfl) (of_decide_eq_true (by kernel_rfl)) k0 bel lt0) trodAll_mk0), rfl, bel.frame _, fun h => by cases h⟩
theorem over : Rows.fnPagesReadRow.holds Try.pinned (OpenSpec.ofChange Rows.fnPagesReadSpec) :=
  OpenClaim.holds_of_wide 10 Try.f10 rfl rfl rfl rfl rfl rfl rfl ⟨rfl, rfl, rfl, rfl, rfl⟩ rfl rfl rfl rfl rfl (by kernel_rfl) Try.func10 (by kernel_rfl)
    (of_decide_eq_true (by kernel_rfl)) (by unfold Func.isWrapper; first | (rw [if_pos (by decide +kernel)]; kernel_rfl) | (rw [if_neg (by decide +kernel)]; exact ⟨rfl, rfl⟩))
    (fun os started H enc _ => lifted os started H enc)
theorem proved : Rows.FnPagesReadSaid := over
#print axioms proved
end Go.Proofs.Yticedidmodmdnaa.fnPagesRead
namespace Go.Proofs.Yticedidmodmdnaa
/-- The row, under a short name, for the claim. -/
theorem fnPagesRead_holds : Rows.FnPagesReadSaid := fnPagesRead.proved
end Go.Proofs.Yticedidmodmdnaa
