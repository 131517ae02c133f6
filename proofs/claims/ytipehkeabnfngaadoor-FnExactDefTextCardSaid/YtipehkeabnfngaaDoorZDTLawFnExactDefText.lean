/- The law FnExactDefText: for every argument that memory can hold it answers true, and leaves its arguments alone; out of its pure statement and the walk. No condition of its own. -/
import Derived.Test.YtipehkeabnfngaaDoorRows
import Derived.Test.YtipehkeabnfngaaDoorZDTPFnExactDefTextx16
import Derived.Test.YtipehkeabnfngaaDoorZDTPureFnExactDefText
import Derived.Test.YtipehkeabnfngaaDoorZDTOpens
import Derived.Test.YtipehkeabnfngaaDoorTie
import Derived.Test.YtipehkeabnfngaaDoorCards
import Derived.LaidMore
import Derived.Lay
import Derived.SevenTiedAt
import Derived.Stop.Joined
import Derived.WalkKit
import Derived.ProofKit
import Derived.OpenShut
import Derived.ShutString
import Derived.ChangeOld
import Derived.Below
import Derived.SizedLaws
namespace Go.Proofs.YtipehkeabnfngaaDoor.fnExactDefText
open Go.ChangeShapes Go.WideShapes Go.ChangeAt Go.RowKit
open Go.Proofs.YtipehkeabnfngaaDoor.PFnExactDefText Go.Proofs.YtipehkeabnfngaaDoor.Opens Go.Proofs.YtipehkeabnfngaaDoorW.PrintWords
set_option linter.unusedVariables false
theorem own : ownKnob Tryd.prog.godebug = none := by kernel_rfl
/-- What the row lists of the package-level variables. -/
def laidL : List (String × DataW Unit) := [("unicode/utf8.acceptRanges", Rows.laid_unicode_utf8_acceptRanges), ("unicode/utf8.first", Rows.laid_unicode_utf8_first)]
theorem laidOut : laidOutB Tryd.prog = true := by kernel_rfl
theorem op131 : Opens Tryd.prog 131 k131 (fun x : S131 => (x.f0.size ≤ 140737488351232 ∧ (-9223372036854775808 ≤ x.f1 ∧ x.f1 ≤ 9223372036854775807) ∧ True)) := opens_iso (V := fun x : ByteArray × Int × Bool => x.1.size ≤ 140737488351232 ∧ (-9223372036854775808 ≤ x.2.1 ∧ x.2.1 ≤ 9223372036854775807) ∧ True) _ (fun p => ⟨p.1, p.2.1, p.2.2⟩) (fun _ => rfl) (fun _ h => h) (by refine opens_struct Tryd.underlying131 (by kernel_rfl) ?_; exact (by refine opensF_cons (V := fun x : ByteArray => x.size ≤ 140737488351232) (V' := fun x : Int × Bool => (-9223372036854775808 ≤ x.1 ∧ x.1 ≤ 9223372036854775807) ∧ True) rfl ?_ ?_; exact (opens_string Tryd.underlying9 (by kernel_rfl)); exact (by refine opensF_cons (V := fun x : Int => (-9223372036854775808 ≤ x ∧ x ≤ 9223372036854775807)) (V' := fun x : Bool => True) rfl ?_ ?_; exact (opens_i64 Tryd.underlying3 (by kernel_rfl)); exact (by refine opensF_one (V := fun x : Bool => True) rfl ?_; exact (opens_bool Tryd.underlying4 (by kernel_rfl))))))
theorem op137 : Opens Tryd.prog 137 k137 (fun x : S137 => ((-9223372036854775808 ≤ x.f0 ∧ x.f0 ≤ 9223372036854775807) ∧ True)) := opens_iso (V := fun x : Int × Bool => (-9223372036854775808 ≤ x.1 ∧ x.1 ≤ 9223372036854775807) ∧ True) _ (fun p => ⟨p.1, p.2⟩) (fun _ => rfl) (fun _ h => h) (by refine opens_struct Tryd.underlying137 (by kernel_rfl) ?_; exact (by refine opensF_cons (V := fun x : Int => (-9223372036854775808 ≤ x ∧ x ≤ 9223372036854775807)) (V' := fun x : Bool => True) rfl ?_ ?_; exact (opens_i64 Tryd.underlying3 (by kernel_rfl)); exact (by refine opensF_one (V := fun x : Bool => True) rfl ?_; exact (opens_bool Tryd.underlying4 (by kernel_rfl)))))
theorem op134 : Opens Tryd.prog 134 k134 (fun x : S134 => (x.f0.size ≤ 140737488351232 ∧ True ∧ (x.f2.length * 16 ≤ 140737488351232 ∧ ∀ e0 ∈ x.f2, ((-9223372036854775808 ≤ e0.f0 ∧ e0.f0 ≤ 9223372036854775807) ∧ True)))) := opens_iso (V := fun x : ByteArray × Bool × List (S137) => x.1.size ≤ 140737488351232 ∧ True ∧ (x.2.2.length * 16 ≤ 140737488351232 ∧ ∀ e0 ∈ x.2.2, ((-9223372036854775808 ≤ e0.f0 ∧ e0.f0 ≤ 9223372036854775807) ∧ True))) _ (fun p => ⟨p.1, p.2.1, p.2.2⟩) (fun _ => rfl) (fun _ h => h) (by refine opens_struct Tryd.underlying134 (by kernel_rfl) ?_; exact (by refine opensF_cons (V := fun x : ByteArray => x.size ≤ 140737488351232) (V' := fun x : Bool × List (S137) => True ∧ (x.2.length * 16 ≤ 140737488351232 ∧ ∀ e0 ∈ x.2, ((-9223372036854775808 ≤ e0.f0 ∧ e0.f0 ≤ 9223372036854775807) ∧ True))) rfl ?_ ?_; exact (opens_string Tryd.underlying9 (by kernel_rfl)); exact (by refine opensF_cons (V := fun x : Bool => True) (V' := fun x : List (S137) => (x.length * 16 ≤ 140737488351232 ∧ ∀ e0 ∈ x, ((-9223372036854775808 ≤ e0.f0 ∧ e0.f0 ≤ 9223372036854775807) ∧ True))) rfl ?_ ?_; exact (opens_bool Tryd.underlying4 (by kernel_rfl)); exact (by refine opensF_one (V := fun x : List (S137) => (x.length * 16 ≤ 140737488351232 ∧ ∀ e0 ∈ x, ((-9223372036854775808 ≤ e0.f0 ∧ e0.f0 ≤ 9223372036854775807) ∧ True))) rfl ?_; exact (opens_slice Tryd.underlying43 (by kernel_rfl) (B := 16) (by kernel_rfl) op137)))))
theorem opArg0 : Opens Tryd.prog 46 (Kd.pair Kd.string (Kd.pair (Kd.slice 131 k131) (Kd.pair (Kd.slice 137 k137) (Kd.slice 134 k134)))) (fun x : ByteArray × (List (S131)) × (List (S137)) × List (S134) => x.1.size ≤ 140737488351232 ∧ (x.2.1.length * 32 ≤ 140737488351232 ∧ ∀ e0 ∈ x.2.1, (e0.f0.size ≤ 140737488351232 ∧ (-9223372036854775808 ≤ e0.f1 ∧ e0.f1 ≤ 9223372036854775807) ∧ True)) ∧ (x.2.2.1.length * 16 ≤ 140737488351232 ∧ ∀ e0 ∈ x.2.2.1, ((-9223372036854775808 ≤ e0.f0 ∧ e0.f0 ≤ 9223372036854775807) ∧ True)) ∧ (x.2.2.2.length * 48 ≤ 140737488351232 ∧ ∀ e0 ∈ x.2.2.2, (e0.f0.size ≤ 140737488351232 ∧ True ∧ (e0.f2.length * 16 ≤ 140737488351232 ∧ ∀ e1 ∈ e0.f2, ((-9223372036854775808 ≤ e1.f0 ∧ e1.f0 ≤ 9223372036854775807) ∧ True))))) := by refine opens_struct Tryd.underlying46 (by kernel_rfl) ?_; exact (by refine opensF_cons (V := fun x : ByteArray => x.size ≤ 140737488351232) (V' := fun x : (List (S131)) × (List (S137)) × List (S134) => (x.1.length * 32 ≤ 140737488351232 ∧ ∀ e0 ∈ x.1, (e0.f0.size ≤ 140737488351232 ∧ (-9223372036854775808 ≤ e0.f1 ∧ e0.f1 ≤ 9223372036854775807) ∧ True)) ∧ (x.2.1.length * 16 ≤ 140737488351232 ∧ ∀ e0 ∈ x.2.1, ((-9223372036854775808 ≤ e0.f0 ∧ e0.f0 ≤ 9223372036854775807) ∧ True)) ∧ (x.2.2.length * 48 ≤ 140737488351232 ∧ ∀ e0 ∈ x.2.2, (e0.f0.size ≤ 140737488351232 ∧ True ∧ (e0.f2.length * 16 ≤ 140737488351232 ∧ ∀ e1 ∈ e0.f2, ((-9223372036854775808 ≤ e1.f0 ∧ e1.f0 ≤ 9223372036854775807) ∧ True))))) rfl ?_ ?_; exact (opens_string Tryd.underlying9 (by kernel_rfl)); exact (by refine opensF_cons (V := fun x : List (S131) => (x.length * 32 ≤ 140737488351232 ∧ ∀ e0 ∈ x, (e0.f0.size ≤ 140737488351232 ∧ (-9223372036854775808 ≤ e0.f1 ∧ e0.f1 ≤ 9223372036854775807) ∧ True))) (V' := fun x : (List (S137)) × List (S134) => (x.1.length * 16 ≤ 140737488351232 ∧ ∀ e0 ∈ x.1, ((-9223372036854775808 ≤ e0.f0 ∧ e0.f0 ≤ 9223372036854775807) ∧ True)) ∧ (x.2.length * 48 ≤ 140737488351232 ∧ ∀ e0 ∈ x.2, (e0.f0.size ≤ 140737488351232 ∧ True ∧ (e0.f2.length * 16 ≤ 140737488351232 ∧ ∀ e1 ∈ e0.f2, ((-9223372036854775808 ≤ e1.f0 ∧ e1.f0 ≤ 9223372036854775807) ∧ True))))) rfl ?_ ?_; exact (opens_slice Tryd.underlying42 (by kernel_rfl) (B := 32) (by kernel_rfl) op131); exact (by refine opensF_cons (V := fun x : List (S137) => (x.length * 16 ≤ 140737488351232 ∧ ∀ e0 ∈ x, ((-9223372036854775808 ≤ e0.f0 ∧ e0.f0 ≤ 9223372036854775807) ∧ True))) (V' := fun x : List (S134) => (x.length * 48 ≤ 140737488351232 ∧ ∀ e0 ∈ x, (e0.f0.size ≤ 140737488351232 ∧ True ∧ (e0.f2.length * 16 ≤ 140737488351232 ∧ ∀ e1 ∈ e0.f2, ((-9223372036854775808 ≤ e1.f0 ∧ e1.f0 ≤ 9223372036854775807) ∧ True))))) rfl ?_ ?_; exact (opens_slice Tryd.underlying43 (by kernel_rfl) (B := 16) (by kernel_rfl) op137); exact (by refine opensF_one (V := fun x : List (S134) => (x.length * 48 ≤ 140737488351232 ∧ ∀ e0 ∈ x, (e0.f0.size ≤ 140737488351232 ∧ True ∧ (e0.f2.length * 16 ≤ 140737488351232 ∧ ∀ e1 ∈ e0.f2, ((-9223372036854775808 ≤ e1.f0 ∧ e1.f0 ≤ 9223372036854775807) ∧ True))))) rfl ?_; exact (opens_slice Tryd.underlying44 (by kernel_rfl) (B := 48) (by kernel_rfl) op134)))))
set_option maxRecDepth 100000 in
theorem lifted (os : Os) (started : os.Started) (H : Type) (enc : TypeId × Value → H) :
    ReturnsInHanded {} Tryd.checked os 5 .any (fun w args => (Rows.fnExactDefTextSpec.pre enc Tryd.prog Tryd.f5 Rows.fnExactDefTextRow.domain false w args ∧ laidMetH Tryd.prog laidL w) ∧ sizedMet enc Tryd.prog Tryd.f5 (OpenSpec.ofChange Rows.fnExactDefTextSpec) false w args)
      (Rows.fnExactDefTextSpec.post enc Tryd.prog Tryd.f5 false true false false) := by
  refine returnsInHanded_of_change_and (C := Tryd.checked) (X := fun w _ => laidMetH Tryd.prog laidL w) (fun _ _ _ hh h => h.of_heap hh) own started (by kernel_rfl) Tryd.func5
    (ChangeSpec.witness_shaped (enc := enc) (C := Tryd.checked) (os := os) (X := fun w _ => laidMetH Tryd.prog laidL w) false (World.laidAll Tryd.prog os laidL) #[.agg #[.string ByteArray.empty, .slice none 0 0, .slice none 0 0, .slice none 0 0]] 8 (World.laidAll_os _ _ _)
      (World.shaped_of_ZipB (by kernel_rfl) (by kernel_rfl)) (by kernel_rfl) (by kernel_rfl) (by kernel_rfl)
      (by rw [MakeChecks.laidMetH_plain _ _ _ (by kernel_rfl)]; exact laidMet_laidAll _ (by kernel_rfl) (by kernel_rfl))) ?_
  intro W base args ds gs before hval0 hW hcnd hsz0 hL _
  have hsz : (DataW.weightsEach Tryd.prog (Tryd.f5.params.toList ++ Rows.fnExactDefTextSpec.plain.varTypes Tryd.prog) (ds ++ gs)).all (· ≤ reachBytes) = true := hsz0
  have hval : ∀ (j : Nat) t v, Tryd.f5.params[j]? = some t → args[j]? = some v → Value.okWide Tryd.prog W .any base t v := hval0
  have hW' := hW
  obtain ⟨p, q, hA0, hV, rfl, hfz, hnd⟩ := hW
  have hA : DataW.TrodAll enc Tryd.prog W 0 (fun _ => true) true Tryd.f5.params.toList args.toList ds p := hA0
  rw [Tryd.params5] at hA hval hsz
  obtain ⟨v0, vs0, d0, ds0, p0, q0, hargs, rfl, rfl, h0, r0⟩ := trodAll_cons hA
  obtain ⟨rfl, rfl, rfl⟩ := trodAll_nil r0
  obtain rfl : args = #[v0] := by cases args; simp_all
  obtain ⟨rfl, rfl⟩ := trodVars_none hV
  have k0 := h0
  have lt0 : ∀ x ∈ p0, x.block < W.heap.size := by obtain ⟨m, hm⟩ := k0; exact DataW.trod_lt m _ _ _ hm
  obtain ⟨cs0, rfl⟩ := okWide_agg Tryd.underlying46 (hval 0 46 v0 rfl rfl)
  obtain ⟨⟨a0_0, l0_1, l0_2, l0_3⟩, hK0, y0_0, y0_1, y0_2, y0_3⟩ := opens_arg opArg0 hsz (j := 0) (t := 46) rfl rfl h0
  obtain ⟨_, _, e0_0, rfl, ⟨_, _, e0_1, ⟨A0_1, c0_1, rfl, hc0_1, hr0_1⟩, ⟨_, _, e0_2, ⟨A0_2, c0_2, rfl, hc0_2, hr0_2⟩, ⟨A0_3, c0_3, rfl, hc0_3, hr0_3⟩⟩⟩⟩ := hK0
  have ec0 : cs0.toList = [.string a0_0, .slice A0_1 l0_1.length c0_1, .slice A0_2 l0_2.length c0_2, .slice A0_3 l0_3.length c0_3] := by have z := e0_0; rw [e0_1, e0_2] at z; simpa [Value.cells] using z
  obtain rfl : cs0 = #[.string a0_0, .slice A0_1 l0_1.length c0_1, .slice A0_2 l0_2.length c0_2, .slice A0_3 l0_3.length c0_3] := by rw [← Array.toArray_toList (xs := cs0), ec0]
  clear hA0 hval0 hsz0 hsz
  obtain ⟨k, hk⟩ := Pure.FnExactDefText a0_0 l0_1 l0_2 l0_3 y0_0 y0_1 y0_2 y0_3
  refine (laws_FnExactDefText.calls k a0_0 _ _ l0_1 _ _ l0_2 _ _ l0_3 true W hr0_1 hc0_1 hr0_2 hc0_2 hr0_3 hc0_3 (Aside0.mk rfl) hk).mono fun e W' ⟨he, hd⟩ => ?_
  subst he
  have bel : Below W.heap.size W W' := hd
  exact ⟨_, rfl, _, _, _, [], _, [], hW', trodAll_mk1 (shut_bool Tryd.underlying4 _), (trodAll_cons_mk (Below.trod laidOut (by kernel_rfl) (of_decide_eq_true (by kernel_rfl)) k0 bel lt0) trodAll_mk0), rfl, bel.frame _, fun h => by cases h⟩
theorem over : Rows.fnExactDefTextRow.holds Tryd.pinned (OpenSpec.ofChange Rows.fnExactDefTextSpec) :=
  OpenClaim.holds_of_wide 5 Tryd.f5 rfl rfl rfl rfl rfl rfl rfl ⟨rfl, rfl, rfl, rfl, rfl⟩ rfl rfl rfl rfl rfl (by kernel_rfl) Tryd.func5 (by kernel_rfl)
    (of_decide_eq_true (by kernel_rfl)) (by unfold Func.isWrapper; first | (rw [if_pos (by decide +kernel)]; kernel_rfl) | (rw [if_neg (by decide +kernel)]; exact ⟨rfl, rfl⟩))
    (fun os started H enc _ => lifted os started H enc)
theorem proved : Rows.FnExactDefTextSaid := over
#print axioms proved
theorem card : Rows.FnExactDefTextCardSaid :=
  Claim7.holds_tied_plain_at .later [] [.data, .pinned] true (true, "128d7e856ddfa134c15ccf4454366631795c93b09486ff23c17711b799cdbb77") false over (fun _ h => by cases h) (by kernel_rfl) (fun _ h => by cases h) fnExactDefText_row_tie rfl ⟨rfl, rfl⟩ (by kernel_rfl) rfl
    (fun f fn hf hfn => by
      obtain rfl : f = 5 := Option.some.inj ((show Tryd.prog.funcNamed "loop.example/g00322/laws.FnExactDefText" = some 5 by kernel_rfl).symm.trans hf) |>.symm
      obtain rfl : fn = Tryd.f5 := (Option.some.inj (Tryd.func5.symm.trans hfn)).symm
      exact ⟨by kernel_rfl, fun j t ht => by
        rw [Tryd.params5] at ht
        have hm : t ∈ [46] := by simpa using Array.mem_of_getElem? ht
        have hall : ([46].all fun u => !Tryd.prog.wantsStandIn u) = true := by kernel_rfl
        exact (show Tryd.prog.wantsStandIn t = false by simpa using List.all_eq_true.1 hall t hm)⟩)
    (by kernel_rfl)
#print axioms card
end Go.Proofs.YtipehkeabnfngaaDoor.fnExactDefText
namespace Go.Proofs.YtipehkeabnfngaaDoor
/-- The card, under a short name, for the claim. -/
theorem fnExactDefTextCard_holds : Rows.FnExactDefTextCardSaid := fnExactDefText.card
end Go.Proofs.YtipehkeabnfngaaDoor
