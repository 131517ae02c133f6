/- The law FnExactDefsText: for every argument that memory can hold it answers true, and leaves its arguments alone; out of its pure statement and the walk. No condition of its own. -/
import Derived.Test.YtipehkeabnfngaaDoorRows
import Derived.Test.YtipehkeabnfngaaDoorZDSPFnExactDefsTextx17
import Derived.Test.YtipehkeabnfngaaDoorZDSPureFnExactDefsText
import Derived.Test.YtipehkeabnfngaaDoorZDSOpens
import Derived.Test.YtipehkeabnfngaaDoorTie
import Derived.Test.YtipehkeabnfngaaDoorCards
import Derived.LaidMore
import Derived.Lay
import Derived.SevenTiedAt
import Derived.Stop.Joined
import Derived.WalkKit
import Derived.ProofKit
import Derived.OpenShut
import Derived.ShutString
import Derived.ChangeOld
import Derived.Below
import Derived.SizedLaws
namespace Go.Proofs.YtipehkeabnfngaaDoor.fnExactDefsText
open Go.ChangeShapes Go.WideShapes Go.ChangeAt Go.RowKit
open Go.Proofs.YtipehkeabnfngaaDoor.PFnExactDefsText Go.Proofs.YtipehkeabnfngaaDoor.Opens Go.Proofs.YtipehkeabnfngaaDoorW.PrintWords
set_option linter.unusedVariables false
theorem own : ownKnob Tryd.prog.godebug = none := by kernel_rfl
/-- What the row lists of the package-level variables. -/
def laidL : List (String × DataW Unit) := [("unicode/utf8.acceptRanges", Rows.laid_unicode_utf8_acceptRanges), ("unicode/utf8.first", Rows.laid_unicode_utf8_first)]
theorem laidOut : laidOutB Tryd.prog = true := by kernel_rfl
theorem op131 : Opens Tryd.prog 131 k131 (fun x : S131 => (x.f0.size ≤ 140737488351232 ∧ (-9223372036854775808 ≤ x.f1 ∧ x.f1 ≤ 9223372036854775807) ∧ True)) := opens_iso (V := fun x : ByteArray × Int × Bool => x.1.size ≤ 140737488351232 ∧ (-9223372036854775808 ≤ x.2.1 ∧ x.2.1 ≤ 9223372036854775807) ∧ True) _ (fun p => ⟨p.1, p.2.1, p.2.2⟩) (fun _ => rfl) (fun _ h => h) (by refine opens_struct Tryd.underlying131 (by kernel_rfl) ?_; exact (by refine opensF_cons (V := fun x : ByteArray => x.size ≤ 140737488351232) (V' := fun x : Int × Bool => (-9223372036854775808 ≤ x.1 ∧ x.1 ≤ 9223372036854775807) ∧ True) rfl ?_ ?_; exact (opens_string Tryd.underlying9 (by kernel_rfl)); exact (by refine opensF_cons (V := fun x : Int => (-9223372036854775808 ≤ x ∧ x ≤ 9223372036854775807)) (V' := fun x : Bool => True) rfl ?_ ?_; exact (opens_i64 Tryd.underlying3 (by kernel_rfl)); exact (by refine opensF_one (V := fun x : Bool => True) rfl ?_; exact (opens_bool Tryd.underlying4 (by kernel_rfl))))))
theorem op137 : Opens Tryd.prog 137 k137 (fun x : S137 => ((-9223372036854775808 ≤ x.f0 ∧ x.f0 ≤ 9223372036854775807) ∧ True)) := opens_iso (V := fun x : Int × Bool => (-9223372036854775808 ≤ x.1 ∧ x.1 ≤ 9223372036854775807) ∧ True) _ (fun p => ⟨p.1, p.2⟩) (fun _ => rfl) (fun _ h => h) (by refine opens_struct Tryd.underlying137 (by kernel_rfl) ?_; exact (by refine opensF_cons (V := fun x : Int => (-9223372036854775808 ≤ x ∧ x ≤ 9223372036854775807)) (V' := fun x : Bool => True) rfl ?_ ?_; exact (opens_i64 Tryd.underlying3 (by kernel_rfl)); exact (by refine opensF_one (V := fun x : Bool => True) rfl ?_; exact (opens_bool Tryd.underlying4 (by kernel_rfl)))))
theorem op134 : Opens Tryd.prog 134 k134 (fun x : S134 => (x.f0.size ≤ 140737488351232 ∧ True ∧ (x.f2.length * 16 ≤ 140737488351232 ∧ ∀ e0 ∈ x.f2, ((-9223372036854775808 ≤ e0.f0 ∧ e0.f0 ≤ 9223372036854775807) ∧ True)))) := opens_iso (V := fun x : ByteArray × Bool × List (S137) => x.1.size ≤ 140737488351232 ∧ True ∧ (x.2.2.length * 16 ≤ 140737488351232 ∧ ∀ e0 ∈ x.2.2, ((-9223372036854775808 ≤ e0.f0 ∧ e0.f0 ≤ 9223372036854775807) ∧ True))) _ (fun p => ⟨p.1, p.2.1, p.2.2⟩) (fun _ => rfl) (fun _ h => h) (by refine opens_struct Tryd.underlying134 (by kernel_rfl) ?_; exact (by refine opensF_cons (V := fun x : ByteArray => x.size ≤ 140737488351232) (V' := fun x : Bool × List (S137) => True ∧ (x.2.length * 16 ≤ 140737488351232 ∧ ∀ e0 ∈ x.2, ((-9223372036854775808 ≤ e0.f0 ∧ e0.f0 ≤ 9223372036854775807) ∧ True))) rfl ?_ ?_; exact (opens_string Tryd.underlying9 (by kernel_rfl)); exact (by refine opensF_cons (V := fun x : Bool => True) (V' := fun x : List (S137) => (x.length * 16 ≤ 140737488351232 ∧ ∀ e0 ∈ x, ((-9223372036854775808 ≤ e0.f0 ∧ e0.f0 ≤ 9223372036854775807) ∧ True))) rfl ?_ ?_; exact (opens_bool Tryd.underlying4 (by kernel_rfl)); exact (by refine opensF_one (V := fun x : List (S137) => (x.length * 16 ≤ 140737488351232 ∧ ∀ e0 ∈ x, ((-9223372036854775808 ≤ e0.f0 ∧ e0.f0 ≤ 9223372036854775807) ∧ True))) rfl ?_; exact (opens_slice Tryd.underlying43 (by kernel_rfl) (B := 16) (by kernel_rfl) op137)))))
theorem op46 : Opens Tryd.prog 46 k46 (fun x : S46 => (x.f0.size ≤ 140737488351232 ∧ (x.f1.length * 32 ≤ 140737488351232 ∧ ∀ e0 ∈ x.f1, (e0.f0.size ≤ 140737488351232 ∧ (-9223372036854775808 ≤ e0.f1 ∧ e0.f1 ≤ 9223372036854775807) ∧ True)) ∧ (x.f2.length * 16 ≤ 140737488351232 ∧ ∀ e0 ∈ x.f2, ((-9223372036854775808 ≤ e0.f0 ∧ e0.f0 ≤ 9223372036854775807) ∧ True)) ∧ (x.f3.length * 48 ≤ 140737488351232 ∧ ∀ e0 ∈ x.f3, (e0.f0.size ≤ 140737488351232 ∧ True ∧ (e0.f2.length * 16 ≤ 140737488351232 ∧ ∀ e1 ∈ e0.f2, ((-9223372036854775808 ≤ e1.f0 ∧ e1.f0 ≤ 9223372036854775807) ∧ True)))))) := opens_iso (V := fun x : ByteArray × (List (S131)) × (List (S137)) × List (S134) => x.1.size ≤ 140737488351232 ∧ (x.2.1.length * 32 ≤ 140737488351232 ∧ ∀ e0 ∈ x.2.1, (e0.f0.size ≤ 140737488351232 ∧ (-9223372036854775808 ≤ e0.f1 ∧ e0.f1 ≤ 9223372036854775807) ∧ True)) ∧ (x.2.2.1.length * 16 ≤ 140737488351232 ∧ ∀ e0 ∈ x.2.2.1, ((-9223372036854775808 ≤ e0.f0 ∧ e0.f0 ≤ 9223372036854775807) ∧ True)) ∧ (x.2.2.2.length * 48 ≤ 140737488351232 ∧ ∀ e0 ∈ x.2.2.2, (e0.f0.size ≤ 140737488351232 ∧ True ∧ (e0.f2.length * 16 ≤ 140737488351232 ∧ ∀ e1 ∈ e0.f2, ((-9223372036854775808 ≤ e1.f0 ∧ e1.f0 ≤ 9223372036854775807) ∧ True))))) _ (fun p => ⟨p.1, p.2.1, p.2.2.1, p.2.2.2⟩) (fun _ => rfl) (fun _ h => h) (by refine opens_struct Tryd.underlying46 (by kernel_rfl) ?_; exact (by refine opensF_cons (V := fun x : ByteArray => x.size ≤ 140737488351232) (V' := fun x : (List (S131)) × (List (S137)) × List (S134) => (x.1.length * 32 ≤ 140737488351232 ∧ ∀ e0 ∈ x.1, (e0.f0.size ≤ 140737488351232 ∧ (-9223372036854775808 ≤ e0.f1 ∧ e0.f1 ≤ 9223372036854775807) ∧ True)) ∧ (x.2.1.length * 16 ≤ 140737488351232 ∧ ∀ e0 ∈ x.2.1, ((-9223372036854775808 ≤ e0.f0 ∧ e0.f0 ≤ 9223372036854775807) ∧ True)) ∧ (x.2.2.length * 48 ≤ 140737488351232 ∧ ∀ e0 ∈ x.2.2, (e0.f0.size ≤ 140737488351232 ∧ True ∧ (e0.f2.length * 16 ≤ 140737488351232 ∧ ∀ e1 ∈ e0.f2, ((-9223372036854775808 ≤ e1.f0 ∧ e1.f0 ≤ 9223372036854775807) ∧ True))))) rfl ?_ ?_; exact (opens_string Tryd.underlying9 (by kernel_rfl)); exact (by refine opensF_cons (V := fun x : List (S131) => (x.length * 32 ≤ 140737488351232 ∧ ∀ e0 ∈ x, (e0.f0.size ≤ 140737488351232 ∧ (-9223372036854775808 ≤ e0.f1 ∧ e0.f1 ≤ 9223372036854775807) ∧ True))) (V' := fun x : (List (S137)) × List (S134) => (x.1.length * 16 ≤ 140737488351232 ∧ ∀ e0 ∈ x.1, ((-9223372036854775808 ≤ e0.f0 ∧ e0.f0 ≤ 9223372036854775807) ∧ True)) ∧ (x.2.length * 48 ≤ 140737488351232 ∧ ∀ e0 ∈ x.2, (e0.f0.size ≤ 140737488351232 ∧ True ∧ (e0.f2.length * 16 ≤ 140737488351232 ∧ ∀ e1 ∈ e0.f2, ((-9223372036854775808 ≤ e1.f0 ∧ e1.f0 ≤ 9223372036854775807) ∧ True))))) rfl ?_ ?_; exact (opens_slice Tryd.underlying42 (by kernel_rfl) (B := 32) (by kernel_rfl) op131); exact (by refine opensF_cons (V := fun x : List (S137) => (x.length * 16 ≤ 140737488351232 ∧ ∀ e0 ∈ x, ((-9223372036854775808 ≤ e0.f0 ∧ e0.f0 ≤ 9223372036854775807) ∧ True))) (V' := fun x : List (S134) => (x.length * 48 ≤ 140737488351232 ∧ ∀ e0 ∈ x, (e0.f0.size ≤ 140737488351232 ∧ True ∧ (e0.f2.length * 16 ≤ 140737488351232 ∧ ∀ e1 ∈ e0.f2, ((-9223372036854775808 ≤ e1.f0 ∧ e1.f0 ≤ 9223372036854775807) ∧ True))))) rfl ?_ ?_; exact (opens_slice Tryd.underlying43 (by kernel_rfl) (B := 16) (by kernel_rfl) op137); exact (by refine opensF_one (V := fun x : List (S134) => (x.length * 48 ≤ 140737488351232 ∧ ∀ e0 ∈ x, (e0.f0.size ≤ 140737488351232 ∧ True ∧ (e0.f2.length * 16 ≤ 140737488351232 ∧ ∀ e1 ∈ e0.f2, ((-9223372036854775808 ≤ e1.f0 ∧ e1.f0 ≤ 9223372036854775807) ∧ True))))) rfl ?_; exact (opens_slice Tryd.underlying44 (by kernel_rfl) (B := 48) (by kernel_rfl) op134))))))
theorem opArg0 : Opens Tryd.prog 22 (Kd.slice 46 k46) (fun x : List (S46) => (x.length * 88 ≤ 140737488351232 ∧ ∀ e0 ∈ x, (e0.f0.size ≤ 140737488351232 ∧ (e0.f1.length * 32 ≤ 140737488351232 ∧ ∀ e1 ∈ e0.f1, (e1.f0.size ≤ 140737488351232 ∧ (-9223372036854775808 ≤ e1.f1 ∧ e1.f1 ≤ 9223372036854775807) ∧ True)) ∧ (e0.f2.length * 16 ≤ 140737488351232 ∧ ∀ e1 ∈ e0.f2, ((-9223372036854775808 ≤ e1.f0 ∧ e1.f0 ≤ 9223372036854775807) ∧ True)) ∧ (e0.f3.length * 48 ≤ 140737488351232 ∧ ∀ e1 ∈ e0.f3, (e1.f0.size ≤ 140737488351232 ∧ True ∧ (e1.f2.length * 16 ≤ 140737488351232 ∧ ∀ e2 ∈ e1.f2, ((-9223372036854775808 ≤ e2.f0 ∧ e2.f0 ≤ 9223372036854775807) ∧ True))))))) := (opens_slice Tryd.underlying22 (by kernel_rfl) (B := 88) (by kernel_rfl) op46)
set_option maxRecDepth 100000 in
theorem lifted (os : Os) (started : os.Started) (H : Type) (enc : TypeId × Value → H) :
    ReturnsInHanded {} Tryd.checked os 6 .any (fun w args => (Rows.fnExactDefsTextSpec.pre enc Tryd.prog Tryd.f6 Rows.fnExactDefsTextRow.domain false w args ∧ laidMetH Tryd.prog laidL w) ∧ sizedMet enc Tryd.prog Tryd.f6 (OpenSpec.ofChange Rows.fnExactDefsTextSpec) false w args)
      (Rows.fnExactDefsTextSpec.post enc Tryd.prog Tryd.f6 false true false false) := by
  refine returnsInHanded_of_change_and (C := Tryd.checked) (X := fun w _ => laidMetH Tryd.prog laidL w) (fun _ _ _ hh h => h.of_heap hh) own started (by kernel_rfl) Tryd.func6
    (ChangeSpec.witness_shaped (enc := enc) (C := Tryd.checked) (os := os) (X := fun w _ => laidMetH Tryd.prog laidL w) false (World.laidAll Tryd.prog os laidL) #[.slice none 0 0] 8 (World.laidAll_os _ _ _)
      (World.shaped_of_ZipB (by kernel_rfl) (by kernel_rfl)) (by kernel_rfl) (by kernel_rfl) (by kernel_rfl)
      (by rw [MakeChecks.laidMetH_plain _ _ _ (by kernel_rfl)]; exact laidMet_laidAll _ (by kernel_rfl) (by kernel_rfl))) ?_
  intro W base args ds gs before hval0 hW hcnd hsz0 hL _
  have hsz : (DataW.weightsEach Tryd.prog (Tryd.f6.params.toList ++ Rows.fnExactDefsTextSpec.plain.varTypes Tryd.prog) (ds ++ gs)).all (· ≤ reachBytes) = true := hsz0
  have hval : ∀ (j : Nat) t v, Tryd.f6.params[j]? = some t → args[j]? = some v → Value.okWide Tryd.prog W .any base t v := hval0
  have hW' := hW
  obtain ⟨p, q, hA0, hV, rfl, hfz, hnd⟩ := hW
  have hA : DataW.TrodAll enc Tryd.prog W 0 (fun _ => true) true Tryd.f6.params.toList args.toList ds p := hA0
  rw [Tryd.params6] at hA hval hsz
  obtain ⟨v0, vs0, d0, ds0, p0, q0, hargs, rfl, rfl, h0, r0⟩ := trodAll_cons hA
  obtain ⟨rfl, rfl, rfl⟩ := trodAll_nil r0
  obtain rfl : args = #[v0] := by cases args; simp_all
  obtain ⟨rfl, rfl⟩ := trodVars_none hV
  have k0 := h0
  have lt0 : ∀ x ∈ p0, x.block < W.heap.size := by obtain ⟨m, hm⟩ := k0; exact DataW.trod_lt m _ _ _ hm
  obtain ⟨A0, n0, c0, rfl⟩ := okWide_slice Tryd.underlying22 (hval 0 22 v0 rfl rfl)
  obtain ⟨l0, hK0, y0⟩ := opens_arg opArg0 hsz (j := 0) (t := 22) rfl rfl h0
  obtain ⟨A_, c_, e0, hc0, hr0⟩ := hK0
  have f0 : Value.slice A0 n0 c0 = .slice A_ l0.length c_ := by simpa [Value.cells] using e0
  injection f0 with f1 f2 f3
  subst f1 f2 f3
  clear hA0 hval0 hsz0 hsz
  obtain ⟨k, hk⟩ := Pure.FnExactDefsText l0 y0
  refine (laws_FnExactDefsText.calls k _ _ l0 true W hr0 hc0 (Aside0.mk rfl) hk).mono fun e W' ⟨he, hd⟩ => ?_
  subst he
  have bel : Below W.heap.size W W' := hd
  exact ⟨_, rfl, _, _, _, [], _, [], hW', trodAll_mk1 (shut_bool Tryd.underlying4 _), (trodAll_cons_mk (Below.trod laidOut (by kernel_rfl) (of_decide_eq_true (by kernel_rfl)) k0 bel lt0) trodAll_mk0), rfl, bel.frame _, fun h => by cases h⟩
theorem over : Rows.fnExactDefsTextRow.holds Tryd.pinned (OpenSpec.ofChange Rows.fnExactDefsTextSpec) :=
  OpenClaim.holds_of_wide 6 Tryd.f6 rfl rfl rfl rfl rfl rfl rfl ⟨rfl, rfl, rfl, rfl, rfl⟩ rfl rfl rfl rfl rfl (by kernel_rfl) Tryd.func6 (by kernel_rfl)
    (of_decide_eq_true (by kernel_rfl)) (by unfold Func.isWrapper; first | (rw [if_pos (by decide +kernel)]; kernel_rfl) | (rw [if_neg (by decide +kernel)]; exact ⟨rfl, rfl⟩))
    (fun os started H enc _ => lifted os started H enc)
theorem proved : Rows.FnExactDefsTextSaid := over
#print axioms proved
theorem card : Rows.FnExactDefsTextCardSaid :=
  Claim7.holds_tied_plain_at .later [] [.data, .pinned] true (true, "128d7e856ddfa134c15ccf4454366631795c93b09486ff23c17711b799cdbb77") false over (fun _ h => by cases h) (by kernel_rfl) (fun _ h => by cases h) fnExactDefsText_row_tie rfl ⟨rfl, rfl⟩ (by kernel_rfl) rfl
    (fun f fn hf hfn => by
      obtain rfl : f = 6 := Option.some.inj ((show Tryd.prog.funcNamed "loop.example/g00322/laws.FnExactDefsText" = some 6 by kernel_rfl).symm.trans hf) |>.symm
      obtain rfl : fn = Tryd.f6 := (Option.some.inj (Tryd.func6.symm.trans hfn)).symm
      exact ⟨by kernel_rfl, fun j t ht => by
        rw [Tryd.params6] at ht
        have hm : t ∈ [22] := by simpa using Array.mem_of_getElem? ht
        have hall : ([22].all fun u => !Tryd.prog.wantsStandIn u) = true := by kernel_rfl
        exact (show Tryd.prog.wantsStandIn t = false by simpa using List.all_eq_true.1 hall t hm)⟩)
    (by kernel_rfl)
#print axioms card
end Go.Proofs.YtipehkeabnfngaaDoor.fnExactDefsText
namespace Go.Proofs.YtipehkeabnfngaaDoor
/-- The card, under a short name, for the claim. -/
theorem fnExactDefsTextCard_holds : Rows.FnExactDefsTextCardSaid := fnExactDefsText.card
end Go.Proofs.YtipehkeabnfngaaDoor
